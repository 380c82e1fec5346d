/-
  Rows of the hasher. The row of Write. Rows of the padding, and of the digest. The row of Join: the digest of many parts. Rows of the suite's hashes.
-/
import Derived.Test.YtgjnfabhjbadoabCb
import Derived.Test.YtgjnfabhjbadoabCa
namespace Go.Proofs.Ytgjnfabhjbadoab
open Go.Proofs.Try
open Go Go.AM
noncomputable def hs3 : List (Nat × TF) := (F_sha512_block, tBlock) :: hs2
theorem H3 : LibOK prog tt hs3 [] := H2.addT r_block
noncomputable def hs4 : List (Nat × TF) := (F_sha512_Constants, iT (envP tt hs3 []) [] 5 f_sha512_Constants) :: hs3
theorem H4 : LibOK prog tt hs4 [] := H3.iT at_sha512_Constants [] 5 (by kernel_rfl)
noncomputable def hs5 : List (Nat × TF) := (F_sha512_begin, iT (envP tt hs4 []) [] 5 f_sha512_begin) :: hs4
theorem H5 : LibOK prog tt hs5 [] := H4.iT at_sha512_begin [] 5 (by kernel_rfl)
noncomputable def hs6 : List (Nat × TF) := (F_sha512_Hasher_made, iT (envP tt hs5 []) [] 5 f_sha512_Hasher_made) :: hs5
theorem H6 : LibOK prog tt hs6 [] := H5.iT at_sha512_Hasher_made [] 5 (by kernel_rfl)
/-! the loop of Write -/
structure HA where
  g : Nat → Nat → Int
  kf : Nat → Int
  t : Bool
  tv : SV
  nn : Nat → Int
  rest : Heap
noncomputable abbrev wE : EnvP := envP tt hs6 []
noncomputable def w0B : Code := match f_sha512_Hasher_Write.body with | some c => (match bodiesOf 0 c with | [.loop b] => b | _ => .skip) | none => .skip
def w0H (a : HA) (W : Nat → Int) : Heap := some (.ints .u8 64 1 a.g) :: some (.ints .u64 80 1 (fun _ d => a.kf d)) :: some (.mix 11 1 (fun _ => [.ints .u64 8 W, .one a.tv, .ints .u64 1 a.nn, .one (.ptr 1 80 0 0 80)])) :: a.rest
def w0V (a : HA) (M : Nat) (f : Nat → Nat → Int) (W : Nat → Int) : St := ⟨tmOf [(0, .sc (.ptr 2 11 0 0 11)), (1, .sc (.vints a.t .u8 1 M f))] 105 0, w0H a W⟩
theorem w0_round1 (a : HA) (c : Nat) (D : Nat → Nat → Int) (M M' : Nat) (f f' : Nat → Nat → Int) (W W' : Nat → Int) (h : a.rest = [some (.ints .u8 1 c D)]) :
   roundB wE [(79, true)] 5 w0B (w0V a M f W) .normal (w0V a M' f' W') =
    some (ckL [decide ((M : Int) ≥ 128) == true, inB 128 M, inB 128 M] && stB (w0V a (M - 128) (fun j d => f (128 + j) d) (lf (blkL W (fun j d => f (0 + j) d) a.kf))) (w0V a M' f' W')) := by
  obtain ⟨g, kf, t, tv, nn, rest⟩ := a
  subst h
  kernel_rfl
theorem w0_round2 (a : HA) (c : Nat) (D : Nat → Nat → Int) (M M' : Nat) (f f' : Nat → Nat → Int) (W W' : Nat → Int) (h : a.rest = [none, some (.ints .u8 1 c D)]) :
   roundB wE [(79, true)] 5 w0B (w0V a M f W) .normal (w0V a M' f' W') =
    some (ckL [decide ((M : Int) ≥ 128) == true, inB 128 M, inB 128 M] && stB (w0V a (M - 128) (fun j d => f (128 + j) d) (lf (blkL W (fun j d => f (0 + j) d) a.kf))) (w0V a M' f' W')) := by
  obtain ⟨g, kf, t, tv, nn, rest⟩ := a
  subst h
  kernel_rfl
theorem w0_stop1 (a : HA) (c : Nat) (D : Nat → Nat → Int) (M : Nat) (f : Nat → Nat → Int) (W : Nat → Int) (h : a.rest = [some (.ints .u8 1 c D)]) :
   roundB wE [(79, false)] 5 w0B (w0V a M f W) (.exit 0) (w0V a M f W) =
    some (ckL [decide ((M : Int) ≥ 128) == false] && stB (w0V a M f W) (w0V a M f W)) := by
  obtain ⟨g, kf, t, tv, nn, rest⟩ := a
  subst h
  kernel_rfl
theorem w0_stop2 (a : HA) (c : Nat) (D : Nat → Nat → Int) (M : Nat) (f : Nat → Nat → Int) (W : Nat → Int) (h : a.rest = [none, some (.ints .u8 1 c D)]) :
   roundB wE [(79, false)] 5 w0B (w0V a M f W) (.exit 0) (w0V a M f W) =
    some (ckL [decide ((M : Int) ≥ 128) == false] && stB (w0V a M f W) (w0V a M f W)) := by
  obtain ⟨g, kf, t, tv, nn, rest⟩ := a
  subst h
  kernel_rfl
structure HB where
  a : HA
  M : Nat
  f : Nat → Nat → Int
  W : Nat → Int
def restOK (l : Heap) : Bool := match l with
  | [some (.ints k z _ _)] => kEq k .u8 && Nat.beq z 1
  | [none, some (.ints k z _ _)] => kEq k .u8 && Nat.beq z 1
  | _ => false
def w0Ck (k : IntKind) (z : Nat) (k0 : IntKind) (z0 m0 : Nat) (k1 : IntKind) (z1 m1 z2 m2 : Nat) (k4 : IntKind) (z4 : Nat) (tv : SV) (k5 : IntKind) (z5 : Nat) (pv : SV) (rest : Heap) (tm : List AV) : Bool :=
  (kEq k .u8 && Nat.beq z 1) && ((kEq k0 .u8 && (Nat.beq z0 64 && Nat.beq m0 1)) && ((kEq k1 .u64 && (Nat.beq z1 80 && Nat.beq m1 1)) && ((Nat.beq z2 11 && Nat.beq m2 1) && ((kEq k4 .u64 && Nat.beq z4 8) && (okV (rest.length + 3) tv &&
    ((kEq k5 .u64 && Nat.beq z5 1) && (svB (rest.length + 3) pv (.ptr 1 80 0 0 80) && (restOK rest && (Nat.beq tm.length 105 && tmIs (rest.length + 3) tm [(0, .sc (.ptr 2 11 0 0 11))])))))))))
def w0Rd (s : St) : Option HB := match getA s.tm 1, s.hp with
  | .sc (.vints t k z m f), some (.ints k0 z0 m0 g) :: some (.ints k1 z1 m1 kf) :: some (.mix z2 m2 row) :: rest => (match row 0 with
    | [.ints k4 z4 W, .one tv, .ints k5 z5 nf, .one pv] => bif w0Ck k z k0 z0 m0 k1 z1 m1 z2 m2 k4 z4 tv k5 z5 pv rest s.tm then some ⟨⟨g, kf 0, t, tv, nf, rest⟩, m, f, lf (tabL W 8 0)⟩ else none
    | _ => none)
  | _, _ => none
def w0S (x : HB) (k : Nat) : St := w0V x.a (x.M - 128 * k) (fun j d => x.f (128 * k + j) d) (hWk x.a.kf x.W (fun j => x.f j 0) k)
def w0F : LF := famX w0Rd (fun _ => true) (fun _ => .normal) (fun x => w0S x (x.M / 128))
theorem w0_body : f_sha512_Hasher_Write.body.map (bodiesOf 0) = some [.loop w0B] := by kernel_rfl
theorem w0_ok : codeOK prog wE.env.isW w0B = true := by kernel_rfl
theorem restOK_t {l : Heap} (h : restOK l = true) : (∃ c D, l = [some (.ints .u8 1 c D)]) ∨ ∃ c D, l = [none, some (.ints .u8 1 c D)] := by
  unfold restOK at h
  split at h
  · simp only [Bool.and_eq_true, beq_t] at h
    obtain ⟨h1, rfl⟩ := h
    rw [kEq_spec h1]
    exact .inl ⟨_, _, rfl⟩
  · simp only [Bool.and_eq_true, beq_t] at h
    obtain ⟨h1, rfl⟩ := h
    rw [kEq_spec h1]
    exact .inr ⟨_, _, rfl⟩
  · simp at h
theorem w0_self {a : HA} (M : Nat) (f : Nat → Nat → Int) (W : Nat → Int) (hr : restOK a.rest = true) (ht : okV (a.rest.length + 3) a.tv = true) : stB (w0V a M f W) (w0V a M f W) = true := by
  refine stB_self ?_ ?_
  · obtain ⟨g, kf, t, tv, nn, rest⟩ := a
    rcases restOK_t hr with ⟨c, D, h⟩ | ⟨c, D, h⟩
    · simp only at h; subst h; kernel_rfl
    · simp only at h; subst h; kernel_rfl
  · obtain ⟨g, kf, t, tv, nn, rest⟩ := a
    rcases restOK_t hr with ⟨c, D, h⟩ | ⟨c, D, h⟩
    · simp only at h ht; subst h
      simp only [List.length_cons, List.length_nil] at ht
      simp [w0H, okH, okB, okG, okV, lenS, ht]
    · simp only at h ht; subst h
      simp only [List.length_cons, List.length_nil] at ht
      simp [w0H, okH, okB, okG, okV, lenS, ht]
theorem w0_rd {s : St} {x : HB} (h : w0Rd s = some x) : StLe s (w0S x 0) ∧ s.hp.length = x.a.rest.length + 3 ∧ restOK x.a.rest = true ∧ okV (x.a.rest.length + 3) x.a.tv = true ∧ ∀ (i : Nat) (f : Nat → Int), s.hp[i]? = some none → (w0H x.a f)[i]? = some none := by
  unfold w0Rd at h
  split at h
  case h_2 => simp at h
  rename_i t k z m f k0 z0 m0 g k1 z1 m1 kf z2 m2 row rest h1 hh
  split at h
  case h_2 => simp at h
  rename_i k4 z4 W tv k5 z5 nf pv hrow
  cases hc : w0Ck k z k0 z0 m0 k1 z1 m1 z2 m2 k4 z4 tv k5 z5 pv rest s.tm with
  | false => rw [hc] at h; simp at h
  | true =>
    rw [hc] at h
    simp only [cond_true, Option.some.injEq] at h
    subst h
    unfold w0Ck at hc
    simp only [Bool.and_eq_true, beq_t] at hc
    obtain ⟨⟨c1, rfl⟩, ⟨c2, rfl, rfl⟩, ⟨c3, rfl, rfl⟩, ⟨rfl, rfl⟩, ⟨c4, rfl⟩, c5, ⟨c6, rfl⟩, c7, c8, c9, c10⟩ := hc
    have c1 := kEq_spec c1
    have c2 := kEq_spec c2
    have c3 := kEq_spec c3
    have c4 := kEq_spec c4
    have c6 := kEq_spec c6
    subst c1 c2 c3 c4 c6
    have hrest : okH (rest.length + 3) rest = true := by
      rcases restOK_t c8 with ⟨c, D, rfl⟩ | ⟨c, D, rfl⟩ <;> simp [okH, okB]
    refine ⟨stX c9 (by simpa [w0H] using c10) (fun p hp => ?_) ?_, by rw [hh]; rfl, c8, c5, fun i t hi => ?_⟩
    · simp only [List.mem_cons, List.not_mem_nil, or_false] at hp
      rcases hp with rfl | rfl
      · exact .inl (by simp)
      · refine .inr ?_
        show avB _ (getA s.tm 1) _ = true
        rw [h1]
        simp [avB, svB, kEq, eqF_refl]
    · rw [hh]
      simp only [w0H, hpB, List.length_cons, blkB, nbeq_refl, kEq_refl, Bool.and_self, Bool.true_and, eqF_refl, eqF_eta, hpB_self rest hrest, Bool.and_true]
      have hW : eqN 8 W (lf (tabL W 8 0)) = true := eqN_of fun d hd => by
        have := lf_tab W 8 0 d hd
        rw [Nat.zero_add] at this
        exact this.symm
      simp [hrow, hW, lenS, segB, kEq_refl, eqN_refl, okV_self tv c5, c7, hWk]
    · rw [hh] at hi
      match i, hi with
      | 0, hi => simp at hi
      | 1, hi => simp at hi
      | 2, hi => simp at hi
      | n + 3, hi => simpa [w0H] using hi
theorem w0_step (x : HB) (hr : restOK x.a.rest = true) (ht : okV (x.a.rest.length + 3) x.a.tv = true) (k : Nat) (hk : k < x.M / 128) (n : Nat) : ∃ s1 r, am wE.env 5 w0B (w0S x k) = some (.normal, s1) ∧ StLeR r s1 (w0S x (k + 1)) ∧ ∀ i, i < n → r i = some i := by
  have hM : 128 ≤ x.M - 128 * k := by omega
  have h1 : w0V x.a (x.M - 128 * k - 128) (fun j d => (fun j d => x.f (128 * k + j) d) (128 + j) d) (lf (blkL (hWk x.a.kf x.W (fun j => x.f j 0) k) (fun j d => (fun j d => x.f (128 * k + j) d) (0 + j) d) x.a.kf)) = w0S x (k + 1) := by
    unfold w0S
    have e1 : x.M - 128 * k - 128 = x.M - 128 * (k + 1) := by omega
    have e2 : (fun j d => (fun j d => x.f (128 * k + j) d) (128 + j) d) = (fun j d => x.f (128 * (k + 1) + j) d) := by
      funext j d
      show x.f (128 * k + (128 + j)) d = _
      rw [show 128 * k + (128 + j) = 128 * (k + 1) + j by omega]
    have e3 : lf (blkL (hWk x.a.kf x.W (fun j => x.f j 0) k) (fun j d => (fun j d => x.f (128 * k + j) d) (0 + j) d) x.a.kf) = hWk x.a.kf x.W (fun j => x.f j 0) (k + 1) := by
      refine congrArg lf (blkL_congr fun j hj => ?_)
      show x.f (128 * k + (0 + j)) 0 = x.f (128 * k + j) 0
      rw [Nat.zero_add]
    rw [e1, e2, e3]
  have hck : (ckL [decide (((x.M - 128 * k : Nat) : Int) ≥ 128) == true, inB 128 ((x.M - 128 * k : Nat) : Int), inB 128 ((x.M - 128 * k : Nat) : Int)] && stB (w0S x (k + 1)) (w0S x (k + 1))) = true := by
    have h2 : stB (w0S x (k + 1)) (w0S x (k + 1)) = true := w0_self _ _ _ hr ht
    have h3 : inB 128 ((x.M - 128 * k : Nat) : Int) = true := by simp [inB]; omega
    rw [h2, h3, decide_eq_true (show ((x.M - 128 * k : Nat) : Int) ≥ 128 by omega)]
    rfl
  rcases restOK_t hr with ⟨c, D, h⟩ | ⟨c, D, h⟩
  · have := w0_round1 x.a c D (x.M - 128 * k) (x.M - 128 * (k + 1)) (fun j d => x.f (128 * k + j) d) (fun j d => x.f (128 * (k + 1) + j) d) (hWk x.a.kf x.W (fun j => x.f j 0) k) (hWk x.a.kf x.W (fun j => x.f j 0) (k + 1)) h
    rw [h1] at this
    exact roundB_toR this hck
  · have := w0_round2 x.a c D (x.M - 128 * k) (x.M - 128 * (k + 1)) (fun j d => x.f (128 * k + j) d) (fun j d => x.f (128 * (k + 1) + j) d) (hWk x.a.kf x.W (fun j => x.f j 0) k) (hWk x.a.kf x.W (fun j => x.f j 0) (k + 1)) h
    rw [h1] at this
    exact roundB_toR this hck
theorem l_w0 : LRow prog f_sha512_Hasher_Write 0 w0F := by
  refine LRow.famX (N := 5) (S := w0S) (H6.env []) mix (fun x => x.M / 128) (loop_of w0_body) w0_ok (fun w0 own0 => accOK_none (fun id => rfl) w0B) fun s x h _ => ?_
  obtain ⟨q1, q2, q3, q4, q5⟩ := w0_rd h
  have hl : ∀ k, (w0S x k).hp.length = x.a.rest.length + 3 := fun k => rfl
  refine ⟨⟨some, q1.toR, fun _ _ => rfl⟩, fun k _ => by rw [q2, hl]; exact Nat.le_refl _, by rw [q2, hl]; exact Nat.le_refl _, fun i hi => q5 i _ hi, fun k hk => w0_step x q3 q4 k hk _, ?_⟩
  have hck : (ckL [decide (((x.M - 128 * (x.M / 128) : Nat) : Int) ≥ 128) == false] && stB (w0S x (x.M / 128)) (w0S x (x.M / 128))) = true := by
    have h2 : stB (w0S x (x.M / 128)) (w0S x (x.M / 128)) = true := w0_self _ _ _ q3 q4
    rw [h2, decide_eq_false (show ¬ ((x.M - 128 * (x.M / 128) : Nat) : Int) ≥ 128 by omega)]
    rfl
  rcases restOK_t q3 with ⟨c, D, hh⟩ | ⟨c, D, hh⟩
  · obtain ⟨s1, r, h1, h2, h3⟩ := roundB_toR (n := s.hp.length) (w0_stop1 x.a c D _ _ _ hh) hck
    exact ⟨_, s1, r, h1, rfl, h2, h3⟩
  · obtain ⟨s1, r, h1, h2, h3⟩ := roundB_toR (n := s.hp.length) (w0_stop2 x.a c D _ _ _ hh) hck
    exact ⟨_, s1, r, h1, rfl, h2, h3⟩
end Go.Proofs.Ytgjnfabhjbadoab

namespace Go.Proofs.Ytgjnfabhjbadoab
open Go.Proofs.Try
open Go Go.AM
structure HC where
  g : Nat → Nat → Int
  kf : Nat → Int
  W : Nat → Int
  tl : Nat
  nn : Nat → Int
  D : Nat → Nat → Int
  t : Bool
  m : Nat
  f : Nat → Nat → Int
noncomputable abbrev xE : EnvP := envL tt hs6 [] [(0, w0F)]
def w1H (a : HC) : Heap := [some (.ints .u8 64 1 a.g), some (.ints .u64 80 1 (fun _ d => a.kf d)), some (.mix 11 1 (fun _ => [.ints .u64 8 a.W, .one (.slice 3 1 0 0 1 a.tl), .ints .u64 1 a.nn, .one (.ptr 1 80 0 0 80)])), some (.ints .u8 1 a.tl a.D)]
def w2H (a : HC) (W : Nat → Int) (nn : Nat → Int) (T : Nat) (D : Nat → Nat → Int) : Heap := [some (.ints .u8 64 1 a.g), some (.ints .u64 80 1 (fun _ d => a.kf d)), some (.mix 11 1 (fun _ => [.ints .u64 8 W, .one (.slice 4 1 0 0 1 T), .ints .u64 1 nn, .one (.ptr 1 80 0 0 80)])), none, some (.ints .u8 1 T D)]
def w1A (a : HC) : List AV := [.sc (.ptr 2 11 0 0 11), .sc (.vints a.t .u8 1 a.m a.f)]
theorem c_write : fnChk prog xE f_sha512_Hasher_Write = true := by kernel_rfl
theorem k_write1 (a : HC) (W nn : Nat → Int) (T : Nat) (D : Nat → Nat → Int) :
   effR xE [(23, false)] 5 f_sha512_Hasher_Write (w1A a) (w1H a) [4] (.tup []) (w2H a W nn T D) =
    some (ckL [decide ((a.tl : Int) > 0) == false, fits (a.tl + (a.m - 128 * (a.m / 128))) 1 && true] &&
     (hpR (rnm 4 [4]) 5 (w2H a (hWk a.kf (lf (tabL a.W 8 0)) (fun j => a.f j 0) (a.m / 128)) (fun _ => wr .u64 (a.nn 0 + wr .u64 a.m)) (a.tl + (a.m - 128 * (a.m / 128)))
       (fun r d => bif Nat.ble (r+1) a.tl then a.D (0 + r) (0 + d) else a.f (128 * (a.m / 128) + (r - a.tl)) d)) (w2H a W nn T D) 0)) := by kernel_rfl
def kMin (a : HC) : Int := if (a.m : Int) < wr .i64 (128 - (a.tl : Int)) then (a.m : Int) else wr .i64 (128 - (a.tl : Int))
theorem k_write2 (a : HC) (W nn : Nat → Int) (T : Nat) (D : Nat → Nat → Int) :
   effR xE [(23, true), (52, true)] 5 f_sha512_Hasher_Write (w1A a) (w1H a) [4] (.tup []) (w2H a W nn T D) =
    some (ckL [decide ((a.tl : Int) > 0) == true, inB (kMin a) a.m, fits (a.tl + (kMin a).toNat) 1 && true, inB (kMin a) a.m, decide (((a.tl + (kMin a).toNat : Nat) : Int) < 128) == true] &&
     (hpR (rnm 4 [4]) 5 (w2H a a.W (fun _ => wr .u64 (a.nn 0 + wr .u64 a.m)) (a.tl + (kMin a).toNat)
       (fun r d => bif Nat.ble (r+1) a.tl then a.D (0 + r) (0 + d) else a.f (0 + (r - a.tl)) d)) (w2H a W nn T D) 0)) := by kernel_rfl
def kM (a : HC) : Nat := a.m - (kMin a).toNat
def kD (a : HC) : Nat → Nat → Int := fun r d => bif Nat.ble (r+1) a.tl then a.D (0 + r) (0 + d) else a.f (0 + (r - a.tl)) d
theorem k_write3 (a : HC) (W nn : Nat → Int) (T : Nat) (D : Nat → Nat → Int) :
   effR xE [(23, true), (52, false)] 5 f_sha512_Hasher_Write (w1A a) (w1H a) [5] (.tup []) (w2H a W nn T D) =
    some (ckL [decide ((a.tl : Int) > 0) == true, inB (kMin a) a.m, fits (a.tl + (kMin a).toNat) 1 && true, inB (kMin a) a.m, decide (((a.tl + (kMin a).toNat : Nat) : Int) < 128) == false, Nat.beq (a.tl + (kMin a).toNat) 128, inB 0 ((a.tl + (kMin a).toNat : Nat) : Int), fits (0 + (kM a - 128 * (kM a / 128))) 1 && true] &&
     (hpR (rnm 4 [4]) 5 (w2H a (hWk a.kf (lf (tabL (lf (blkL a.W (fun j d => kD a (0 + j) (0 + d)) a.kf)) 8 0)) (fun j => a.f ((kMin a).toNat + j) 0) (kM a / 128)) (fun _ => wr .u64 (a.nn 0 + wr .u64 a.m)) (0 + (kM a - 128 * (kM a / 128)))
       (fun r d => a.f ((kMin a).toNat + (128 * (kM a / 128) + (r - 0))) d)) (w2H a W nn T D) 0)) := by kernel_rfl
theorem w2_le (a : HC) {W1 W nn1 nn : Nat → Int} {T1 T : Nat} {D1 D : Nat → Nat → Int} (h1 : ∀ d, d < 8 → W1 d = W d) (h2 : nn1 0 = nn 0) (h3 : T1 = T) (h4 : ∀ r, r < T → D1 r 0 = D r 0) :
    hpR (rnm 4 [4]) 5 (w2H a W1 nn1 T1 D1) (w2H a W nn T D) 0 = true := by
  subst h3
  have e1 : eqN 8 W1 W = true := eqN_of h1
  have e2 : eqF T1 1 D1 D = true := eqF_of fun r hr d hd => by
    obtain rfl : d = 0 := by omega
    exact h4 r hr
  have e3 : eqN 1 nn1 nn = true := eqN_of fun d hd => by
    obtain rfl : d = 0 := by omega
    exact h2
  simp [w2H, hpR, rnm, blkR, segR, svR, rIs, kEq_refl, eqF_refl, lenS, e1, e2, e3]
def wC (a : HC) : Nat → Int := catF a.tl (fun j => a.D j 0) (fun j => a.f j 0)
def wW (a : HC) : Nat → Int := hWk a.kf (lf (tabL a.W 8 0)) (wC a) ((a.tl + a.m) / 128)
def wN (a : HC) : Nat → Int := fun _ => wr .u64 (a.nn 0 + wr .u64 a.m)
def wD (a : HC) : Nat → Nat → Int := fun j _ => wC a (128 * ((a.tl + a.m) / 128) + j)
theorem fits_le {n m : Nat} (h : fits n 1 = true) (hm : m ≤ n) : fits m 1 = true := by
  simp only [fits, decide_eq_true_eq] at h ⊢
  omega
theorem e_write (a : HC) (ht : a.tl < 128) (hf : fits (a.tl + a.m) 1 = true) : Eff prog F_sha512_Hasher_Write (w1A a) (w1H a) (.tup []) (w2H a (wW a) (wN a) ((a.tl + a.m) % 128) (wD a)) := by
  have hfb : a.tl + a.m ≤ 2 ^ 40 := by simp only [fits, decide_eq_true_eq] at hf; omega
  by_cases h0 : a.tl = 0
  · refine effR_spec H6 at_sha512_Hasher_Write (LsOK.nil.cons l_w0) c_write (k_write1 a _ _ _ _) ?_ (by simp [w1H, w2H])
    have hC : ∀ j, wC a j = a.f j 0 := fun j => by unfold wC; rw [catF_ge (by omega), h0]; rfl
    have hh := w2_le a (W1 := hWk a.kf (lf (tabL a.W 8 0)) (fun j => a.f j 0) (a.m / 128)) (W := wW a) (nn1 := fun _ => wr .u64 (a.nn 0 + wr .u64 a.m)) (nn := wN a) (T1 := a.tl + (a.m - 128 * (a.m / 128))) (T := (a.tl + a.m) % 128)
      (D1 := fun r d => bif Nat.ble (r+1) a.tl then a.D (0 + r) (0 + d) else a.f (128 * (a.m / 128) + (r - a.tl)) d) (D := wD a) (fun d hd => by
        unfold wW
        rw [h0, Nat.zero_add]
        exact congrFun (hWk_congr _ fun j hj => (hC j).symm) d) rfl (by omega) (fun r hr => by
        unfold wD
        rw [hC, h0]
        simp only [Nat.zero_add]
        rfl)
    rw [hh, fits_le hf (by omega), decide_eq_false (by omega)]
    rfl
  · have hk : wr .i64 (128 - (a.tl : Int)) = 128 - (a.tl : Int) := wr_i64 (by omega) (by omega)
    by_cases h1 : a.tl + a.m < 128
    · refine effR_spec H6 at_sha512_Hasher_Write (LsOK.nil.cons l_w0) c_write (k_write2 a _ _ _ _) ?_ (by simp [w1H, w2H])
      have hK : kMin a = (a.m : Int) := by unfold kMin; rw [hk, if_pos (by omega)]
      have hK2 : (kMin a).toNat = a.m := by rw [hK]; omega
      have hh := w2_le a (W1 := a.W) (W := wW a) (nn1 := fun _ => wr .u64 (a.nn 0 + wr .u64 a.m)) (nn := wN a) (T1 := a.tl + (kMin a).toNat) (T := (a.tl + a.m) % 128)
        (D1 := fun r d => bif Nat.ble (r+1) a.tl then a.D (0 + r) (0 + d) else a.f (0 + (r - a.tl)) d) (D := wD a) (fun d hd => by
          unfold wW
          rw [Nat.div_eq_of_lt h1]
          have := lf_tab a.W 8 0 d hd
          rw [Nat.zero_add] at this
          exact this.symm) rfl (by omega) (fun r hr => by
          unfold wD wC catF
          rw [Nat.div_eq_of_lt h1, Nat.mul_zero, Nat.zero_add, Nat.zero_add, Nat.zero_add])
      rw [hh, hK2, hK, fits_le hf (Nat.le_refl _), decide_eq_true (show (a.tl : Int) > 0 by omega), decide_eq_true (show ((a.tl + a.m : Nat) : Int) < 128 by omega), show inB (a.m : Int) (a.m : Int) = true by simp [inB]]
      rfl
    · refine effR_spec H6 at_sha512_Hasher_Write (LsOK.nil.cons l_w0) c_write (k_write3 a _ _ _ _) ?_ (by simp [w1H, w2H])
      have hK : kMin a = ((128 - a.tl : Nat) : Int) := by
        unfold kMin
        rw [hk]
        split <;> omega
      have hK2 : (kMin a).toNat = 128 - a.tl := by rw [hK]; omega
      have hkM : kM a = a.m - (128 - a.tl) := by unfold kM; rw [hK2]
      have hq : (a.tl + a.m) / 128 = kM a / 128 + 1 := by rw [hkM]; omega
      have hCg : ∀ j, a.f ((kMin a).toNat + j) 0 = wC a (128 + j) := fun j => by
        unfold wC
        rw [catF_ge (by omega), hK2]
        show a.f _ 0 = a.f _ 0
        rw [show 128 - a.tl + j = 128 + j - a.tl by omega]
      have hh := w2_le a (W1 := hWk a.kf (lf (tabL (lf (blkL a.W (fun j d => kD a (0 + j) (0 + d)) a.kf)) 8 0)) (fun j => a.f ((kMin a).toNat + j) 0) (kM a / 128)) (W := wW a) (nn1 := fun _ => wr .u64 (a.nn 0 + wr .u64 a.m)) (nn := wN a) (T1 := 0 + (kM a - 128 * (kM a / 128))) (T := (a.tl + a.m) % 128)
        (D1 := fun r d => a.f ((kMin a).toNat + (128 * (kM a / 128) + (r - 0))) d) (D := wD a) (fun d hd => by
          unfold wW
          rw [hq, hWk_shift, lf_blk_tab, blkL_tab]
          have e1 : blkL a.W (fun j d => kD a (0 + j) (0 + d)) a.kf = blkL a.W (fun j _ => wC a (128 * 0 + j)) a.kf := blkL_congr fun j hj => by
            show kD a (0 + j) (0 + 0) = wC a (128 * 0 + j)
            unfold kD wC catF
            simp only [Nat.zero_add, Nat.mul_zero]
          rw [e1]
          exact congrFun (hWk_congr _ fun j hj => hCg j) d) rfl (by rw [hkM]; omega) (fun r hr => by
          unfold wD
          rw [hq]
          show a.f ((kMin a).toNat + (128 * (kM a / 128) + r)) 0 = _
          rw [hCg, show 128 + (128 * (kM a / 128) + r) = 128 * (kM a / 128 + 1) + r by omega])
      have e3 : a.tl + (128 - a.tl) = 128 := by omega
      rw [hh, hK2, hK, e3, fits_le hf (show 0 + (kM a - 128 * (kM a / 128)) ≤ a.tl + a.m by rw [hkM]; omega), fits_le hf (show 128 ≤ a.tl + a.m by omega), decide_eq_true (show (a.tl : Int) > 0 by omega),
        show inB ((128 - a.tl : Nat) : Int) (a.m : Int) = true by simp [inB]; omega]
      rfl
def wWck (pv : SV) (k : IntKind) (z m : Nat) (k0 : IntKind) (z0 m0 : Nat) (k1 : IntKind) (z1 m1 z2 m2 : Nat) (k3 : IntKind) (z3 m3 : Nat) (k4 : IntKind) (z4 : Nat) (tv : SV) (k5 : IntKind) (z5 : Nat) (kv : SV) : Bool :=
  (svR (rnm 4 []) 4 pv (.ptr 2 11 0 0 11) && (svR (rnm 4 []) 4 tv (.slice 3 1 0 0 1 m3) && svR (rnm 4 []) 4 kv (.ptr 1 80 0 0 80))) && ((kEq k .u8 && Nat.beq z 1) && ((kEq k0 .u8 && (Nat.beq z0 64 && Nat.beq m0 1)) && ((kEq k1 .u64 && (Nat.beq z1 80 && Nat.beq m1 1)) && ((Nat.beq z2 11 && Nat.beq m2 1) &&
    ((kEq k3 .u8 && Nat.beq z3 1) && ((kEq k4 .u64 && Nat.beq z4 8) && ((kEq k5 .u64 && Nat.beq z5 1) && (Nat.ble (m3 + 1) 128 && fits (m3 + m) 1))))))))
def wWrite : WF := fun args hp => match args, hp with
  | [.sc pv, .sc (.vints t k z m f)], [some (.ints k0 z0 m0 g), some (.ints k1 z1 m1 kf), some (.mix z2 m2 row), some (.ints k3 z3 m3 D)] => (match row 0 with
    | [.ints k4 z4 W, .one tv, .ints k5 z5 nf, .one kv] => some (wWck pv k z m k0 z0 m0 k1 z1 m1 z2 m2 k3 z3 m3 k4 z4 tv k5 z5 kv,
      (.tup [], w2H ⟨g, kf 0, W, m3, nf, D, t, m, f⟩ (wW ⟨g, kf 0, W, m3, nf, D, t, m, f⟩) (wN ⟨g, kf 0, W, m3, nf, D, t, m, f⟩) ((m3 + m) % 128) (wD ⟨g, kf 0, W, m3, nf, D, t, m, f⟩)))
    | _ => none)
  | _, _ => none
theorem r_write : WRow prog F_sha512_Hasher_Write wWrite := by
  intro args hp r hp' h
  unfold wWrite at h
  split at h
  case h_2 => simp at h
  rename_i pv t k z m f k0 z0 m0 g k1 z1 m1 kf z2 m2 row k3 z3 m3 D
  split at h
  case h_2 => simp at h
  rename_i k4 z4 W tv k5 z5 nf kv hrow
  simp only [Option.some.injEq, Prod.mk.injEq] at h
  obtain ⟨hc, rfl, rfl⟩ := h
  unfold wWck at hc
  simp only [Bool.and_eq_true, beq_t, ble_t] at hc
  obtain ⟨⟨p1, p2, p3⟩, ⟨c1, rfl⟩, ⟨c2, rfl, rfl⟩, ⟨c3, rfl, rfl⟩, ⟨rfl, rfl⟩, ⟨c4, rfl⟩, ⟨c5, rfl⟩, ⟨c6, rfl⟩, q1, q2⟩ := hc
  have c1 := kEq_spec c1
  have c2 := kEq_spec c2
  have c3 := kEq_spec c3
  have c4 := kEq_spec c4
  have c5 := kEq_spec c5
  have c6 := kEq_spec c6
  subst c1 c2 c3 c4 c5 c6
  refine ⟨eff_from (e_write ⟨g, kf 0, W, m3, nf, D, t, m, f⟩ (by show m3 < 128; omega) q2) ?_ ?_ ?_ ?_, fun id hid => ?_⟩
  · simp [w1A, w1H, tmR, avR, p1, svR, kEq_refl, eqF_refl]
  · simp [w1H, hpR, rnm, blkR, hrow, segR, p2, p3, kEq_refl, eqF_refl, eqN_refl, lenS, eqF_eta]
  · rfl
  · simp [w1H]
  · match id, hid with
    | 0, hid => simp at hid
    | 1, hid => simp at hid
    | 2, hid => simp at hid
    | 3, hid => simp at hid
    | n + 4, hid => simp at hid
end Go.Proofs.Ytgjnfabhjbadoab

namespace Go.Proofs.Ytgjnfabhjbadoab
open Go.Proofs.Try
open Go Go.AM
noncomputable abbrev yE : EnvP := envP tt hs6 [(F_sha512_Hasher_Write, wWrite)]
def pN (n : Int) : Int := wr .u64 (1 + (wr .u64 (239 - n.tmod 128)).tmod 128)
def pB (n : Int) (i : Int) : Int := wr .u8 (ishr .u64 (wr .u64 (n * 8)) i)
def pushF (L : Nat) (F : Nat → Nat → Int) (b : Int) : Nat → Nat → Int := fun r d => bif Nat.ble (r+1) L then F (0+r) (0+d) else svInt (cellAt (List.getD [[.ints .u8 1 (fun _ => b)]] (0 + (r - L)) []) (0 + d))
def pf1 (N : Nat) : Nat → Nat → Int := fun r d => bif Nat.ble (r+1) N then (bif Nat.beq (0+r) 0 && Nat.beq (0+d) 0 then 128 else 0) else 0
def pF (n : Int) (N : Nat) : Nat → Nat → Nat → Int
  | 0 => pf1 N
  | i + 1 => pushF (N + 8 + i) (pF n N i) (pB n (8 * (7 - (i : Int))))
def pFx (n : Int) (N : Nat) : Nat → Nat → Int := pushF (N + 8 + 7) (pushF (N + 8 + 6) (pushF (N + 8 + 5) (pushF (N + 8 + 4) (pushF (N + 8 + 3) (pushF (N + 8 + 2) (pushF (N + 8 + 1) (pushF (N + 8) (pf1 N) (pB n 56)) (pB n 48)) (pB n 40)) (pB n 32)) (pB n 24)) (pB n 16)) (pB n 8)) (pB n 0)
theorem c_pad : fnChk prog (envP tt hs6 []) f_sha512_pad = true := by kernel_rfl
theorem k_pad (n : Int) : (outP (apFunc (envP tt hs6 []) [] 20 f_sha512_pad [.sc (.int .u64 n)] [])) = some (ckL [inB (pN n) 256 && true, inR 0 (pN n).toNat, fits ((pN n).toNat + 8) 1 && true, fits ((pN n).toNat + 8 + 1) 1 && true, fits ((pN n).toNat + 8 + 2) 1 && true, fits ((pN n).toNat + 8 + 3) 1 && true, fits ((pN n).toNat + 8 + 4) 1 && true, fits ((pN n).toNat + 8 + 5) 1 && true, fits ((pN n).toNat + 8 + 6) 1 && true, fits ((pN n).toNat + 8 + 7) 1 && true, fits ((pN n).toNat + 8 + 8) 1 && true],
   .sc (.vints true .u8 1 ((pN n).toNat + 8 + 8) (fun j d => pFx n (pN n).toNat (0 + j) (0 + d)))) := by kernel_rfl
theorem pushF_lt {L : Nat} {F : Nat → Nat → Int} {b : Int} {r : Nat} (h : r < L) : pushF L F b r 0 = F r 0 := by
  unfold pushF
  rw [show Nat.ble (r + 1) L = true from Nat.ble_eq_true_of_le h, Nat.zero_add]; rfl
theorem pushF_at {L : Nat} {F : Nat → Nat → Int} {b : Int} {r : Nat} (h : r = L) : pushF L F b r 0 = b := by
  subst h
  unfold pushF
  have : Nat.ble (r + 1) r = false := by
    cases hb : Nat.ble (r + 1) r with
    | false => rfl
    | true => have := Nat.le_of_ble_eq_true hb; omega
  rw [this, Nat.sub_self]; rfl
def tPad : TF := fun args => match args with
  | [.sc (.int .u64 n)] => some (decide (0 ≤ n) && decide (n < 9223372036854775808), .sc (.vints true .u8 1 (padL n.toNat) (fun j _ => padF n.toNat j)))
  | _ => none
theorem r_pad : TRow prog F_sha512_pad tPad := by
  intro args r h
  unfold tPad at h
  split at h
  case h_2 => simp at h
  rename_i n
  simp only [Option.some.injEq, Prod.mk.injEq, Bool.and_eq_true, decide_eq_true_eq] at h
  obtain ⟨⟨h1, h2⟩, rfl⟩ := h
  have e1 : n.tmod 128 = n % 128 := Int.tmod_eq_emod_of_nonneg h1
  have e2 : wr .u64 (239 - n % 128) = 239 - n % 128 := by rw [wr64]; omega
  have e3 : (239 - n % 128).tmod 128 = (239 - n % 128) % 128 := Int.tmod_eq_emod_of_nonneg (by omega)
  have eN : pN n = 1 + (239 - n % 128) % 128 := by unfold pN; rw [e1, e2, e3, wr64]; omega
  have hL : padL n.toNat = (pN n).toNat + 8 + 8 := by unfold padL; rw [eN]; omega
  have hlo : 1 ≤ (pN n).toNat ∧ (pN n).toNat ≤ 128 ∧ pN n ≤ 256 ∧ 0 ≤ pN n := by rw [eN]; omega
  have hb : ∀ x, x ≤ 144 → fits x 1 = true := fun x hx => by simp only [fits, decide_eq_true_eq]; omega
  have hp := pure_of_out H6 at_sha512_pad c_pad (N := 20) (gs := []) (args := [.sc (.int .u64 n)]) (r := .sc (.vints true .u8 1 ((pN n).toNat + 8 + 8) (fun j d => pFx n (pN n).toNat (0 + j) (0 + d)))) (by
    rw [k_pad, hb _ (by omega), hb _ (by omega), hb _ (by omega), hb _ (by omega), hb _ (by omega), hb _ (by omega), hb _ (by omega), hb _ (by omega), hb _ (by omega), show inB (pN n) 256 = true by simp [inB]; omega, show inR 0 (pN n).toNat = true by simp [inR]; omega]
    rfl)
  refine pure_ints hp hL.symm fun r hr d hd => ?_
  obtain rfl : d = 0 := by omega
  rw [hL] at hr
  have ebyte : ∀ i : Nat, i < 8 → r = (pN n).toNat + 8 + i → padF n.toNat r = pB n (8 * (7 - (i : Int))) := fun i hi hri => by
    unfold padF pB
    rw [if_neg (by omega), if_neg (by omega), hL, Int.toNat_of_nonneg h1, show (((pN n).toNat + 8 + 8 - 1 - r : Nat) : Int) = 7 - (i : Int) by omega]
  show pFx n (pN n).toNat (0 + r) 0 = _
  rw [Nat.zero_add]
  unfold pFx
  by_cases h7 : r = (pN n).toNat + 8 + 7
  · rw [pushF_at h7, ebyte 7 (by omega) h7]; rfl
  rw [pushF_lt (by omega)]
  by_cases h6 : r = (pN n).toNat + 8 + 6
  · rw [pushF_at h6, ebyte 6 (by omega) h6]; rfl
  rw [pushF_lt (by omega)]
  by_cases h5 : r = (pN n).toNat + 8 + 5
  · rw [pushF_at h5, ebyte 5 (by omega) h5]; rfl
  rw [pushF_lt (by omega)]
  by_cases h4 : r = (pN n).toNat + 8 + 4
  · rw [pushF_at h4, ebyte 4 (by omega) h4]; rfl
  rw [pushF_lt (by omega)]
  by_cases h3 : r = (pN n).toNat + 8 + 3
  · rw [pushF_at h3, ebyte 3 (by omega) h3]; rfl
  rw [pushF_lt (by omega)]
  by_cases h2' : r = (pN n).toNat + 8 + 2
  · rw [pushF_at h2', ebyte 2 (by omega) h2']; rfl
  rw [pushF_lt (by omega)]
  by_cases h1' : r = (pN n).toNat + 8 + 1
  · rw [pushF_at h1', ebyte 1 (by omega) h1']; rfl
  rw [pushF_lt (by omega)]
  by_cases h0 : r = (pN n).toNat + 8
  · rw [pushF_at h0, ebyte 0 (by omega) (by omega)]; rfl
  rw [pushF_lt (by omega)]
  unfold padF pf1
  by_cases hr0 : r = 0
  · subst hr0
    rw [if_pos rfl, show Nat.ble (0 + 1) (pN n).toNat = true from Nat.ble_eq_true_of_le (by omega)]
    rfl
  · rw [if_neg hr0, if_pos (by omega)]
    have hne : Nat.beq (0 + r) 0 = false := by
      cases hb : Nat.beq (0 + r) 0 with
      | false => rfl
      | true => have := Nat.eq_of_beq_eq_true hb; omega
    rw [hne]
    cases Nat.ble (r + 1) (pN n).toNat <;> rfl
noncomputable def hs7 : List (Nat × TF) := (F_sha512_pad, tPad) :: hs6
theorem H7 : LibOK prog tt hs7 [] := H6.addT r_pad
/-! the loop of Sum -/
structure UA where
  g0 : Nat → Nat → Int
  g1 : Nat → Nat → Int
  t : Bool
  W : Nat → Int
  tv : SV
  nn : Nat → Int
  kt : Bool
  kf : Nat → Int
  L : Nat
  R : Nat → Nat → Int
  i0 : Nat
noncomputable abbrev uE : EnvP := envP tt hs7 []
noncomputable def u0B : Code := match f_sha512_Hasher_Sum.body with | some c => (match bodiesOf 0 c with | [.loop b] => b | _ => .skip) | none => .skip
def u0T (a : UA) : List (Nat × AV) := [(0, .sc (.vptr a.t [.ints .u64 8 a.W, .one a.tv, .ints .u64 1 a.nn, .one (.vptr a.kt [.ints .u64 80 a.kf])])), (2, .sc (.ptr 0 64 0 0 64)), (3, .sc (.ptr 1 64 0 0 64)), (4, .sc (.ptr 2 8 0 0 8))]
def u0H (a : UA) (S : Nat → Int) : Heap := [some (.ints .u8 64 1 a.g0), some (.ints .u8 64 1 a.g1), some (.ints .u64 8 1 (fun _ d => S d)), none, some (.ints .u8 1 a.L a.R)]
def u0V (a : UA) (i M : Nat) (S : Nat → Int) : St := ⟨tmOf ((5, .sc (.slice 4 1 i 0 1 M)) :: u0T a) 64 0, u0H a S⟩
theorem u0_round (a : UA) (i i' M M' : Nat) (S S' : Nat → Int) :
   roundB uE [(36, true)] 5 u0B (u0V a i M S) .normal (u0V a i' M' S') =
    some (ckL [decide ((M : Int) > 0) == true, inB 128 M, inB 128 M] && stB (u0V a (i + 128) (M - 128) (lf (blkL S (fun j d => a.R (i + 0 + j) (0 + d)) a.kf))) (u0V a i' M' S')) := by kernel_rfl
theorem u0_stop (a : UA) (i M : Nat) (S : Nat → Int) :
   roundB uE [(36, false)] 5 u0B (u0V a i M S) (.exit 0) (u0V a i M S) =
    some (ckL [decide ((M : Int) > 0) == false] && stB (u0V a i M S) (u0V a i M S)) := by kernel_rfl
structure UB where
  a : UA
  i : Nat
  S : Nat → Int
def uCk (k0 : IntKind) (z0 m0 : Nat) (k1 : IntKind) (z1 m1 : Nat) (k2 : IntKind) (z2 m2 : Nat) (k4 : IntKind) (z4 : Nat) (k5 : IntKind) (z5 : Nat) (tv : SV) (k6 : IntKind) (z6 : Nat) (k7 : IntKind) (z7 : Nat) (id sz c esz : Nat) (tm : List AV) : Bool :=
  ((kEq k5 .u64 && Nat.beq z5 8) && (okV 5 tv && ((kEq k6 .u64 && Nat.beq z6 1) && (kEq k7 .u64 && Nat.beq z7 80)))) && ((kEq k0 .u8 && (Nat.beq z0 64 && Nat.beq m0 1)) && ((kEq k1 .u8 && (Nat.beq z1 64 && Nat.beq m1 1)) && ((kEq k2 .u64 && (Nat.beq z2 8 && Nat.beq m2 1)) && ((kEq k4 .u8 && Nat.beq z4 1) &&
   ((Nat.beq id 4 && (Nat.beq sz 1 && (Nat.beq c 0 && Nat.beq esz 1))) && (Nat.beq tm.length 64 && tmIs 5 tm [(2, .sc (.ptr 0 64 0 0 64)), (3, .sc (.ptr 1 64 0 0 64)), (4, .sc (.ptr 2 8 0 0 8))]))))))
def u0Rd (s : St) : Option UB := match getA s.tm 0, getA s.tm 5, s.hp with
  | .sc (.vptr t [.ints k5 z5 W, .one tv, .ints k6 z6 nn, .one (.vptr kt [.ints k7 z7 kf])]), .sc (.slice id sz i c esz M), [some (.ints k0 z0 m0 g0), some (.ints k1 z1 m1 g1), some (.ints k2 z2 m2 S), none, some (.ints k4 z4 m4 R)] =>
    bif uCk k0 z0 m0 k1 z1 m1 k2 z2 m2 k4 z4 k5 z5 tv k6 z6 k7 z7 id sz c esz s.tm then some ⟨⟨g0, g1, t, W, tv, nn, kt, kf, m4, R, M⟩, i, lf (tabL (S 0) 8 0)⟩ else none
  | _, _, _ => none
def u0C (x : UB) : Nat → Int := fun j => x.a.R (x.i + j) 0
def u0S (x : UB) (k : Nat) : St := u0V x.a (x.i + 128 * k) (x.a.i0 - 128 * k) (hWk x.a.kf x.S (u0C x) k)
def u0F : LF := famX u0Rd (fun x => Nat.beq (x.a.i0 % 128) 0) (fun _ => .normal) (fun x => u0S x (x.a.i0 / 128))
theorem u0_body : f_sha512_Hasher_Sum.body.map (bodiesOf 0) = some [.loop u0B] := by kernel_rfl
theorem u0_ok : codeOK prog uE.env.isW u0B = true := by kernel_rfl
theorem u0_self {a : UA} (i M : Nat) (S : Nat → Int) (ht : okV 5 a.tv = true) : stB (u0V a i M S) (u0V a i M S) = true := by
  refine stB_self ?_ ?_
  · have : okT 5 (u0V a i M S).tm = okV 5 a.tv := by
      simp [u0V, u0T, tmOf, okT, okA, okV, okG]
    show okT 5 (u0V a i M S).tm = true
    rw [this, ht]
  · simp [u0H, okH, okB]
theorem u0_rd {s : St} {x : UB} (h : u0Rd s = some x) : StLe s (u0S x 0) ∧ s.hp.length = 5 ∧ okV 5 x.a.tv = true ∧ ∀ (i : Nat) (f : Nat → Int), s.hp[i]? = some none → (u0H x.a f)[i]? = some none := by
  unfold u0Rd at h
  split at h
  case h_2 => simp at h
  rename_i t k5 z5 W tv k6 z6 nn kt k7 z7 kf id sz i c esz M k0 z0 m0 g0 k1 z1 m1 g1 k2 z2 m2 S k4 z4 m4 R h0 h5 hh
  cases hc : uCk k0 z0 m0 k1 z1 m1 k2 z2 m2 k4 z4 k5 z5 tv k6 z6 k7 z7 id sz c esz s.tm with
  | false => rw [hc] at h; simp at h
  | true =>
    rw [hc] at h
    simp only [cond_true, Option.some.injEq] at h
    subst h
    unfold uCk at hc
    simp only [Bool.and_eq_true, beq_t] at hc
    obtain ⟨⟨⟨d5, rfl⟩, d0, ⟨d6, rfl⟩, d7, rfl⟩, ⟨c0, rfl, rfl⟩, ⟨c1, rfl, rfl⟩, ⟨c2, rfl, rfl⟩, ⟨c4, rfl⟩, ⟨rfl, rfl, rfl, rfl⟩, c9, c10⟩ := hc
    have c0 := kEq_spec c0
    have c1 := kEq_spec c1
    have c2 := kEq_spec c2
    have c4 := kEq_spec c4
    have d5 := kEq_spec d5
    have d6 := kEq_spec d6
    have d7 := kEq_spec d7
    subst c0 c1 c2 c4 d5 d6 d7
    have hS : eqF 1 8 S (fun _ d => lf (tabL (S 0) 8 0) d) = true := lf_tabE
    refine ⟨stX c9 c10 (fun p hp => ?_) ?_, by rw [hh]; rfl, d0, fun i t hi => ?_⟩
    · simp only [u0T, List.mem_cons, List.not_mem_nil, or_false] at hp
      rcases hp with rfl | rfl | rfl | rfl | rfl
      · refine .inr ?_
        show avB _ (getA s.tm 5) _ = true
        rw [h5]
        simp [avB, svB, u0H]
      · refine .inr ?_
        show avB _ (getA s.tm 0) _ = true
        rw [h0]
        simp [avB, svB, segB, u0H, kEq_refl, eqN_refl, okV_self tv d0]
      · exact .inl (by simp)
      · exact .inl (by simp)
      · exact .inl (by simp)
    · rw [hh]
      simp [u0H, hpB, blkB, kEq_refl, eqF_refl, hWk, hS]
    · rw [hh] at hi
      match i, hi with
      | 0, hi => simp at hi
      | 1, hi => simp at hi
      | 2, hi => simp at hi
      | 3, hi => rfl
      | 4, hi => simp at hi
      | n + 5, hi => simp at hi
theorem u0_step (x : UB) (ht : okV 5 x.a.tv = true) (k : Nat) (hk : k < x.a.i0 / 128) (n : Nat) : ∃ s1 r, am uE.env 5 u0B (u0S x k) = some (.normal, s1) ∧ StLeR r s1 (u0S x (k + 1)) ∧ ∀ i, i < n → r i = some i := by
  have h1 : u0V x.a (x.i + 128 * k + 128) (x.a.i0 - 128 * k - 128) (lf (blkL (hWk x.a.kf x.S (u0C x) k) (fun j d => x.a.R (x.i + 128 * k + 0 + j) (0 + d)) x.a.kf)) = u0S x (k + 1) := by
    unfold u0S
    have e1 : x.a.i0 - 128 * k - 128 = x.a.i0 - 128 * (k + 1) := by omega
    have e3 : lf (blkL (hWk x.a.kf x.S (u0C x) k) (fun j d => x.a.R (x.i + 128 * k + 0 + j) (0 + d)) x.a.kf) = hWk x.a.kf x.S (u0C x) (k + 1) := by
      refine congrArg lf (blkL_congr fun j hj => ?_)
      show x.a.R (x.i + 128 * k + 0 + j) (0 + 0) = x.a.R (x.i + (128 * k + j)) 0
      rw [show x.i + 128 * k + 0 + j = x.i + (128 * k + j) by omega]
    rw [e1, e3, show x.i + 128 * k + 128 = x.i + 128 * (k + 1) by omega]
  have hck : (ckL [decide (((x.a.i0 - 128 * k : Nat) : Int) > 0) == true, inB 128 ((x.a.i0 - 128 * k : Nat) : Int), inB 128 ((x.a.i0 - 128 * k : Nat) : Int)] && stB (u0S x (k + 1)) (u0S x (k + 1))) = true := by
    have h2 : stB (u0S x (k + 1)) (u0S x (k + 1)) = true := u0_self _ _ _ ht
    have h3 : inB 128 ((x.a.i0 - 128 * k : Nat) : Int) = true := by simp [inB]; omega
    rw [h2, h3, decide_eq_true (show ((x.a.i0 - 128 * k : Nat) : Int) > 0 by omega)]
    rfl
  have := u0_round x.a (x.i + 128 * k) (x.i + 128 * (k + 1)) (x.a.i0 - 128 * k) (x.a.i0 - 128 * (k + 1)) (hWk x.a.kf x.S (u0C x) k) (hWk x.a.kf x.S (u0C x) (k + 1))
  rw [h1] at this
  exact roundB_toR this hck
theorem l_u0 : LRow prog f_sha512_Hasher_Sum 0 u0F := by
  refine LRow.famX (N := 5) (S := u0S) (H7.env []) mix (fun x => x.a.i0 / 128) (loop_of u0_body) u0_ok (fun w0 own0 => accOK_none (fun id => rfl) u0B) fun s x h hck => ?_
  obtain ⟨q1, q2, q4, q5⟩ := u0_rd h
  have hm : x.a.i0 % 128 = 0 := beq_t.1 hck
  have hl : ∀ k, (u0S x k).hp.length = 5 := fun k => rfl
  refine ⟨⟨some, q1.toR, fun _ _ => rfl⟩, fun k _ => by rw [q2, hl]; exact Nat.le_refl _, by rw [q2, hl]; exact Nat.le_refl _, fun i hi => q5 i _ hi, fun k hk => u0_step x q4 k hk _, ?_⟩
  have hck : (ckL [decide (((x.a.i0 - 128 * (x.a.i0 / 128) : Nat) : Int) > 0) == false] && stB (u0S x (x.a.i0 / 128)) (u0S x (x.a.i0 / 128))) = true := by
    have h2 : stB (u0S x (x.a.i0 / 128)) (u0S x (x.a.i0 / 128)) = true := u0_self _ _ _ q4
    rw [h2, decide_eq_false (show ¬ ((x.a.i0 - 128 * (x.a.i0 / 128) : Nat) : Int) > 0 by omega)]
    rfl
  obtain ⟨s1, r, h1, h2, h3⟩ := roundB_toR (n := s.hp.length) (u0_stop x.a _ _ _) hck
  exact ⟨_, s1, r, h1, rfl, h2, h3⟩
/-! Sum -/
noncomputable abbrev sE : EnvP := envL tt hs7 [] [(0, u0F)]
theorem c_sum : fnChk prog sE f_sha512_Hasher_Sum = true := by kernel_rfl
def sumR (tl : Nat) (D : Nat → Nat → Int) (n : Int) : Nat → Nat → Int := fun r d => bif Nat.ble (r+1) tl then (bif Nat.ble 0 (0 + r) && Nat.ble (0 + r + 1) (0 + Nat.min tl tl) then D (0 + r - 0) (0 + d) else 0) else padF n.toNat (r - tl)
theorem k_sum (t t' kt : Bool) (W nn kf : Nat → Int) (tl : Nat) (D : Nat → Nat → Int) :
   outP (apFunc sE [] 70 f_sha512_Hasher_Sum [.sc (.vptr t [.ints .u64 8 W, .one (.vints t' .u8 1 tl D), .ints .u64 1 nn, .one (.vptr kt [.ints .u64 80 kf])])] []) =
     some (ckL [inB (tl : Int) 512 && true, decide (0 ≤ nn 0) && decide (nn 0 < 9223372036854775808), fits (tl + padL (nn 0).toNat) 1 && true, Nat.beq ((tl + padL (nn 0).toNat) % 128) 0],
      .agg [.ints .u8 64 (lf (outL (hWk kf (lf (tabL W 8 0)) (fun j => sumR tl D (nn 0) (0 + j) 0) ((tl + padL (nn 0).toNat) / 128))))]) := by kernel_rfl
def tSum : TF := fun args => match args with
  | [.sc (.vptr _ [.ints .u64 8 W, .one (.vints _ .u8 1 tl D), .ints .u64 1 nn, .one (.vptr _ [.ints .u64 80 kf])])] =>
    some (decide (0 ≤ nn 0) && (decide (nn 0 < 9223372036854775808) && Nat.beq ((nn 0).toNat % 128) tl), .agg [.ints .u8 64 (lf (outL (hWk (lf (tabL kf 80 0)) (lf (tabL W 8 0)) (catF tl (fun j => D j 0) (padF (nn 0).toNat)) ((tl + padL (nn 0).toNat) / 128))))])
  | _ => none
theorem r_sum : TRow prog F_sha512_Hasher_Sum tSum := by
  intro args r h
  unfold tSum at h
  split at h
  case h_2 => simp at h
  rename_i t W t' tl D nn kt kf
  simp only [Option.some.injEq, Prod.mk.injEq, Bool.and_eq_true, decide_eq_true_eq, beq_t] at h
  obtain ⟨⟨h1, h2, h3⟩, rfl⟩ := h
  rw [hWk_tab]
  refine pure_of_outL H7 at_sha512_Hasher_Sum (LsOK.nil.cons l_u0) c_sum (N := 70) (gs := []) ?_
  obtain ⟨p1, p2, p3, p4⟩ := padL_sum (nn 0).toNat
  rw [h3] at p2
  have hf : fits (tl + padL (nn 0).toNat) 1 = true := by simp only [fits, decide_eq_true_eq]; omega
  have hR : (fun j => sumR tl D (nn 0) (0 + j) 0) = catF tl (fun j => D j 0) (padF (nn 0).toNat) := by
    funext j
    unfold sumR
    rw [Nat.zero_add]
    by_cases hj : j < tl
    · rw [catF_lt hj, show Nat.ble (j + 1) tl = true from Nat.ble_eq_true_of_le hj, Nat.zero_add, Nat.zero_add, Nat.sub_zero, show Nat.ble 0 j = true from rfl, show Nat.min tl tl = tl from Nat.min_self tl, show Nat.ble (j + 1) tl = true from Nat.ble_eq_true_of_le hj]
      rfl
    · have hb : Nat.ble (j + 1) tl = false := by
        cases hb : Nat.ble (j + 1) tl with
        | false => rfl
        | true => have := Nat.le_of_ble_eq_true hb; omega
      rw [catF_ge (by omega), hb]; rfl
  rw [k_sum, hR, hf, decide_eq_true h1, decide_eq_true h2, show inB (tl : Int) 512 = true by simp [inB]; omega, beq_t.2 p2]
  rfl
noncomputable def hs8 : List (Nat × TF) := (F_sha512_Hasher_Sum, tSum) :: hs7
theorem H8 : LibOK prog tt hs8 [] := H7.addT r_sum
end Go.Proofs.Ytgjnfabhjbadoab

namespace Go.Proofs.Ytgjnfabhjbadoab
open Go.Proofs.Try
open Go Go.AM
noncomputable def hw1 : List (Nat × WF) := [(F_sha512_New, sW (envP tt hs8 []) [] 5 f_sha512_New)]
theorem HW1 : LibOK prog tt hs8 hw1 := H8.sW at_sha512_New [] 5 (by kernel_rfl)
noncomputable def hw2 : List (Nat × WF) := (F_sha512_Hasher_Write, wWrite) :: hw1
theorem HW2 : LibOK prog tt hs8 hw2 := HW1.addW r_write
structure JA where
  g : Nat → Nat → Int
  kf : Nat → Int
  t0 : Bool
  np : Nat
  tg : Nat → Bool
  m : Nat → Nat
  f : Nat → Nat → Nat → Int
noncomputable abbrev jE : EnvP := envP tt hs8 hw2
noncomputable def j0B : Code := match f_sha512_Join.body with | some c => (match bodiesOf 0 c with | [.loop b] => b | _ => .skip) | none => .skip
def jRows (a : JA) : SV := .vrows a.t0 1 a.np (fun j => [.one (.vints (a.tg j) .u8 1 (a.m j) (a.f j))])
def jT (a : JA) : List (Nat × AV) := [(2, .sc (.ptr 0 64 0 0 64)), (3, .sc (.ptr 2 11 0 0 11)), (7, .sc (jRows a)), (8, .sc (.int .i64 a.np))]
def jH (a : JA) (W : Nat → Int) (tl : Nat) (nn : Nat → Int) (D : Nat → Nat → Int) : Heap := w1H ⟨a.g, a.kf, W, tl, nn, D, true, 0, fun _ _ => 0⟩
def jV (a : JA) (v : Int) (W : Nat → Int) (tl : Nat) (nn : Nat → Int) (D : Nat → Nat → Int) : St := ⟨tmOf ((9, .sc (.int .i64 v)) :: jT a) 19 0, jH a W tl nn D⟩
def jC (a : JA) (v : Int) (W : Nat → Int) (tl : Nat) (nn : Nat → Int) (D : Nat → Nat → Int) : HC := ⟨a.g, a.kf, W, tl, nn, D, a.tg v.toNat, a.m v.toNat, a.f v.toNat⟩
theorem j_round (a : JA) (v v' : Int) (W : Nat → Int) (tl : Nat) (nn : Nat → Int) (D : Nat → Nat → Int) (W' : Nat → Int) (tl' : Nat) (nn' : Nat → Int) (D' : Nat → Nat → Int) :
   roundR jE [(10, true)] 5 3 [4] j0B (jV a v W tl nn D) .normal (jV a v' W' tl' nn' D') =
    some (ckL [decide (v < (a.np : Int)) == true, inR v a.np, ((Nat.beq tl tl && true) && true) && (Nat.ble (tl + 1) 128 && fits (tl + a.m v.toNat) 1)] &&
      stR (rnm 3 [3]) (jV a (wr .i64 (v + 1)) (wW (jC a v W tl nn D)) ((tl + a.m v.toNat) % 128) (wN (jC a v W tl nn D)) (wD (jC a v W tl nn D))) (jV a v' W' tl' nn' D')) := by kernel_rfl
theorem j_stop (a : JA) (v : Int) (W : Nat → Int) (tl : Nat) (nn : Nat → Int) (D : Nat → Nat → Int) :
   roundR jE [(10, false)] 5 3 [3] j0B (jV a v W tl nn D) (.exit 0) (jV a v W tl nn D) =
    some (ckL [decide (v < (a.np : Int)) == false] && stR (rnm 3 [3]) (jV a v W tl nn D) (jV a v W tl nn D)) := by kernel_rfl
structure JB where
  a : JA
  W0 : Nat → Int
  np2 : Int
  row : Nat → List Seg
def jF (a : JA) (k : Nat) : Nat → Int := catB a.m (fun i j => a.f i j 0) k
def jW (x : JB) (k : Nat) : Nat → Int := hWk x.a.kf x.W0 (jF x.a k) (catN x.a.m k / 128)
def jD (a : JA) (k : Nat) : Nat → Nat → Int := fun j _ => jF a k (128 * (catN a.m k / 128) + j)
def jS (x : JB) (k : Nat) : St := jV x.a (k : Int) (jW x k) (catN x.a.m k % 128) (fun _ => (catN x.a.m k : Int)) (jD x.a k)
theorem j_same (a : JA) (v : Int) {W W' nn nn' : Nat → Int} {tl tl' : Nat} {D D' : Nat → Nat → Int} (h1 : ∀ d, d < 8 → W d = W' d) (h2 : tl = tl') (h3 : nn 0 = nn' 0) (h4 : ∀ r, r < tl' → D r 0 = D' r 0) :
    stR (rnm 3 [3]) (jV a v W tl nn D) (jV a v W' tl' nn' D') = true := by
  subst h2
  have e1 : eqN 8 W W' = true := eqN_of h1
  have e2 : eqF tl 1 D D' = true := eqF_of fun r hr d hd => by
    obtain rfl : d = 0 := by omega
    exact h4 r hr
  have e3 : eqN 1 nn nn' = true := eqN_of fun d hd => by
    obtain rfl : d = 0 := by omega
    exact h3
  have hnd : ndR (rnm 3 [3]) (jV a v W' tl nn' D').hp 0 [] = true := rfl
  have htm : tmR (rnm 3 [3]) 4 (jV a v W tl nn D).tm (jV a v W' tl nn' D').tm = true := by
    simp [jV, jT, jRows, tmOf, tmR, avR, svR, segR, rIs, rnm, kEq_refl, eqF_refl]
  have hhp : hpR (rnm 3 [3]) 4 (jV a v W tl nn D).hp (jV a v W' tl nn' D').hp 0 = true := by
    simp [jV, jH, w1H, hpR, rnm, blkR, segR, svR, rIs, kEq_refl, eqF_refl, lenS, e1, e2, e3]
  show (ndR (rnm 3 [3]) (jV a v W' tl nn' D').hp 0 [] && (tmR (rnm 3 [3]) 4 _ _ && hpR (rnm 3 [3]) 4 _ _ 0)) = true
  rw [hnd, htm, hhp]; rfl
theorem catN_le (m : Nat → Nat) {k n : Nat} (h : k ≤ n) : catN m k ≤ catN m n := by
  induction n with
  | zero => rw [show k = 0 by omega]; exact Nat.le_refl _
  | succ n ih =>
    by_cases e : k = n + 1
    · subst e; exact Nat.le_refl _
    · have := ih (by omega)
      simp only [catN]; omega
theorem j_step (x : JB) (hn : x.a.np < 2 ^ 62) (hf : fits (catN x.a.m x.a.np) 1 = true) (k : Nat) (hk : k < x.a.np) : ∃ s1 r, am jE.env 5 j0B (jS x k) = some (.normal, s1) ∧ StLeR r s1 (jS x (k + 1)) ∧ ∀ i, i < 3 → r i = some i := by
  have hb : catN x.a.m (k + 1) ≤ 2 ^ 40 := by
    have := catN_le x.a.m (show k + 1 ≤ x.a.np by omega)
    simp only [fits, decide_eq_true_eq] at hf
    omega
  have hN : catN x.a.m (k + 1) = catN x.a.m k + x.a.m k := rfl
  have ek : ((k : Nat) : Int).toNat = k := Int.toNat_natCast k
  refine roundR_toR (j_round x.a (k : Int) (((k + 1 : Nat)) : Int) (jW x k) (catN x.a.m k % 128) (fun _ => (catN x.a.m k : Int)) (jD x.a k) (jW x (k + 1)) (catN x.a.m (k + 1) % 128) (fun _ => (catN x.a.m (k + 1) : Int)) (jD x.a (k + 1))) ?_
  rw [ek, wr_i64 (x := (k : Int) + 1) (by omega) (by omega), show (k : Int) + 1 = ((k + 1 : Nat) : Int) by omega]
  have hC : ∀ j, wC (jC x.a (k : Int) (jW x k) (catN x.a.m k % 128) (fun _ => (catN x.a.m k : Int)) (jD x.a k)) j = jF x.a (k + 1) (128 * (catN x.a.m k / 128) + j) := fun j => by
    unfold wC jC jD
    simp only [ek]
    show _ = catF (catN x.a.m k) (jF x.a k) (fun j => x.a.f k j 0) _
    by_cases hj : j < catN x.a.m k % 128
    · rw [catF_lt hj, catF_lt (by omega)]
    · rw [catF_ge (by omega), catF_ge (by omega), show 128 * (catN x.a.m k / 128) + j - catN x.a.m k = j - catN x.a.m k % 128 by omega]
  have hq : catN x.a.m (k + 1) / 128 = catN x.a.m k / 128 + (catN x.a.m k % 128 + x.a.m k) / 128 := by rw [hN]; omega
  have e1 : ∀ d, d < 8 → wW (jC x.a (k : Int) (jW x k) (catN x.a.m k % 128) (fun _ => (catN x.a.m k : Int)) (jD x.a k)) d = jW x (k + 1) d := fun d hd => by
    unfold wW
    rw [show (jC x.a (k : Int) (jW x k) (catN x.a.m k % 128) (fun _ => (catN x.a.m k : Int)) (jD x.a k)).m = x.a.m k by simp only [jC, ek]]
    show hWk x.a.kf (lf (tabL (jW x k) 8 0)) _ ((catN x.a.m k % 128 + x.a.m k) / 128) d = _
    rw [show wC (jC x.a (k : Int) (jW x k) (catN x.a.m k % 128) (fun _ => (catN x.a.m k : Int)) (jD x.a k)) = fun j => jF x.a (k + 1) (128 * (catN x.a.m k / 128) + j) from funext hC]
    unfold jW
    rw [hq, hWk_add]
    refine hWk_init (fun d hd => ?_) _ d hd
    have h1 := lf_tab (hWk x.a.kf x.W0 (jF x.a k) (catN x.a.m k / 128)) 8 0 d hd
    rw [Nat.zero_add] at h1
    rw [h1]
    refine congrFun (hWk_congr _ fun j hj => ?_) d
    exact (catF_lt (n := catN x.a.m k) (D := jF x.a k) (f := fun j => x.a.f k j 0) (by omega)).symm
  have e2 : (catN x.a.m k % 128 + x.a.m k) % 128 = catN x.a.m (k + 1) % 128 := by rw [hN]; omega
  have e3 : wN (jC x.a (k : Int) (jW x k) (catN x.a.m k % 128) (fun _ => (catN x.a.m k : Int)) (jD x.a k)) 0 = (fun _ => (catN x.a.m (k + 1) : Int)) 0 := by
    unfold wN
    show wr .u64 ((catN x.a.m k : Int) + wr .u64 ((x.a.m (k : Int).toNat : Nat) : Int)) = (catN x.a.m (k + 1) : Int)
    rw [ek, hN]
    rw [show wr .u64 ((x.a.m k : Nat) : Int) = (x.a.m k : Int) by rw [wr64]; omega, wr64]
    omega
  have e4 : ∀ r, r < catN x.a.m (k + 1) % 128 → wD (jC x.a (k : Int) (jW x k) (catN x.a.m k % 128) (fun _ => (catN x.a.m k : Int)) (jD x.a k)) r 0 = jD x.a (k + 1) r 0 := fun r hr => by
    unfold wD
    rw [hC, show (jC x.a (k : Int) (jW x k) (catN x.a.m k % 128) (fun _ => (catN x.a.m k : Int)) (jD x.a k)).m = x.a.m k by simp only [jC, ek]]
    unfold jD
    rw [hq]
    show jF x.a (k + 1) (128 * (catN x.a.m k / 128) + (128 * ((catN x.a.m k % 128 + x.a.m k) / 128) + r)) = _
    rw [show 128 * (catN x.a.m k / 128) + (128 * ((catN x.a.m k % 128 + x.a.m k) / 128) + r) = 128 * (catN x.a.m k / 128 + (catN x.a.m k % 128 + x.a.m k) / 128) + r by omega]
  rw [j_same x.a _ e1 e2 e3 e4, beq_t.2 (rfl : catN x.a.m k % 128 = catN x.a.m k % 128), ble_t.2 (show catN x.a.m k % 128 + 1 ≤ 128 by omega), show fits (catN x.a.m k % 128 + x.a.m k) 1 = true by simp only [fits, decide_eq_true_eq]; omega,
    inR_lt hk, decide_eq_true (show (k : Int) < (x.a.np : Int) by omega)]
  rfl
/-! what a part is -/
def okPart (s : List Seg) : Bool := match s with
  | [.one (.vints _ k z _ _)] => kEq k .u8 && Nat.beq z 1
  | [.one .nils] => true
  | _ => false
def paT (s : List Seg) : Bool := match s with | [.one (.vints t _ _ _ _)] => t | _ => true
def paN (s : List Seg) : Nat := match s with | [.one (.vints _ _ _ n _)] => n | _ => 0
def paF (s : List Seg) : Nat → Nat → Int := match s with | [.one (.vints _ _ _ _ f)] => f | _ => fun _ _ => 0
theorem part_le {s : List Seg} (h : okPart s = true) (r : Nat → Option Nat) (n : Nat) : segR r n s [.one (.vints (paT s) .u8 1 (paN s) (paF s))] = true := by
  unfold okPart at h
  split at h
  · simp only [Bool.and_eq_true, beq_t] at h
    obtain ⟨h1, rfl⟩ := h
    rw [kEq_spec h1]
    simp [segR, svR, paT, paN, paF, kEq_refl, eqF_refl]
  · simp [segR, svR, paN]
  · simp at h
def jA (g : Nat → Nat → Int) (kf : Nat → Int) (t0 : Bool) (np : Nat) (row : Nat → List Seg) : JA := ⟨g, kf, t0, np, fun j => paT (row j), fun j => paN (row j), fun j => paF (row j)⟩
def jCk (k0 : IntKind) (z0 m0 : Nat) (k1 : IntKind) (z1 m1 z2 m2 : Nat) (k4 : IntKind) (z4 : Nat) (tv : SV) (k5 : IntKind) (z5 : Nat) (nf : Nat → Int) (kv : SV) (z : Nat) (tm : List AV) : Bool :=
  (svR (rnm 3 []) 4 tv (.slice 3 1 0 0 1 0) && svR (rnm 3 []) 4 kv (.ptr 1 80 0 0 80)) && ((kEq k0 .u8 && (Nat.beq z0 64 && Nat.beq m0 1)) && ((kEq k1 .u64 && (Nat.beq z1 80 && Nat.beq m1 1)) && ((Nat.beq z2 11 && Nat.beq m2 1) &&
    ((kEq k4 .u64 && Nat.beq z4 8) && (((kEq k5 .u64 && Nat.beq z5 1) && decide (nf 0 = 0)) && (Nat.beq z 1 && (Nat.beq tm.length 19 && tmIsR (rnm 3 []) 4 tm [(9, .sc (.int .i64 0)), (2, .sc (.ptr 0 64 0 0 64)), (3, .sc (.ptr 2 11 0 0 11))])))))))
def jRd (s : St) : Option JB := match getA s.tm 7, getA s.tm 8, s.hp with
  | .sc (.vrows t z np row), .sc (.int .i64 np'), [some (.ints k0 z0 m0 g), some (.ints k1 z1 m1 kf), some (.mix z2 m2 hrow)] => (match hrow 0 with
    | [.ints k4 z4 W, .one tv, .ints k5 z5 nf, .one kv] => bif jCk k0 z0 m0 k1 z1 m1 z2 m2 k4 z4 tv k5 z5 nf kv z s.tm then some ⟨jA g (lf (tabL (kf 0) 80 0)) t np row, lf (tabL W 8 0), np', row⟩ else none
    | _ => none)
  | _, _, _ => none
def jCk2 (x : JB) : Bool := decide (x.np2 = (x.a.np : Int)) && (Nat.ble x.a.np 4611686018427387903 && (fits (catN x.a.m x.a.np) 1 && (List.range x.a.np).all fun j => okPart (x.row j)))
def jLF : LF := famX jRd jCk2 (fun _ => .normal) (fun x => jS x x.a.np)
theorem j_body : f_sha512_Join.body.map (bodiesOf 0) = some [.loop j0B] := by kernel_rfl
theorem j_ok : codeOK prog jE.env.isW j0B = true := by kernel_rfl
theorem j_rd {s : St} {x : JB} (h : jRd s = some x) (hck : jCk2 x = true) : (∃ r, StLeR r s (jS x 0) ∧ ∀ i, i < s.hp.length → r i = some i) ∧ s.hp.length = 3 ∧ ∀ (i : Nat) (t : Heap), s.hp[i]? = some none → t[i]? = some none := by
  unfold jRd at h
  split at h
  case h_2 => simp at h
  rename_i t z np row np' k0 z0 m0 g k1 z1 m1 kf z2 m2 hrow h7 h8 hh
  split at h
  case h_2 => simp at h
  rename_i k4 z4 W tv k5 z5 nf kv hr0
  cases hc : jCk k0 z0 m0 k1 z1 m1 z2 m2 k4 z4 tv k5 z5 nf kv z s.tm with
  | false => rw [hc] at h; simp at h
  | true =>
    rw [hc] at h
    simp only [cond_true, Option.some.injEq] at h
    subst h
    unfold jCk at hc
    simp only [Bool.and_eq_true, beq_t, decide_eq_true_eq] at hc
    obtain ⟨⟨p1, p2⟩, ⟨c0, rfl, rfl⟩, ⟨c1, rfl, rfl⟩, ⟨rfl, rfl⟩, ⟨c4, rfl⟩, ⟨⟨c5, rfl⟩, q0⟩, rfl, c9, c10⟩ := hc
    have c0 := kEq_spec c0
    have c1 := kEq_spec c1
    have c4 := kEq_spec c4
    have c5 := kEq_spec c5
    subst c0 c1 c4 c5
    simp only [jCk2, Bool.and_eq_true, decide_eq_true_eq, List.all_eq_true, List.mem_range] at hck
    obtain ⟨hnp, -, -, hall⟩ := hck
    have hK : eqF 1 80 kf (fun _ d => lf (tabL (kf 0) 80 0) d) = true := lf_tabE
    have hW : eqN 8 W (lf (tabL W 8 0)) = true := eqN_of fun d hd => by
      have := lf_tab W 8 0 d hd
      rw [Nat.zero_add] at this
      exact this.symm
    have hn : eqN 1 nf (fun _ => 0) = true := eqN_of fun d hd => by
      obtain rfl : d = 0 := by omega
      exact q0
    refine ⟨⟨rnm 3 [], ?_, by rw [hh]; exact rnm_lt⟩, by rw [hh]; rfl, fun i t hi => ?_⟩
    · refine stXR c9 c10 (fun p hp => ?_) (hpLe_of ?_ rfl)
      · simp only [jT, List.mem_cons, List.not_mem_nil, or_false] at hp
        rcases hp with rfl | rfl | rfl | rfl | rfl
        · exact .inl (by simp)
        · exact .inl (by simp)
        · exact .inl (by simp)
        · refine .inr ?_
          show avR _ _ (getA s.tm 7) _ = true
          rw [h7]
          simp only [avR, jRows, jA, svR, beq_self_eq_true, nbeq_refl, Bool.and_self, Bool.true_and, List.all_eq_true, List.mem_range]
          exact fun j hj => part_le (hall j hj) _ _
        · refine .inr ?_
          show avR _ _ (getA s.tm 8) _ = true
          rw [h8]
          simp [avR, svR, kEq_refl, hnp, jA]
      · rw [hh]
        simp only [jH, w1H, hpR, rnm, jA, catN, Nat.zero_mod]
        simp [blkR, hr0, segR, lenS, kEq_refl, eqF_refl, p1, p2, hK, hn, jW, hWk, hW, catN, Blk.n]
    · rw [hh] at hi
      match i, hi with
      | 0, hi => simp at hi
      | 1, hi => simp at hi
      | 2, hi => simp at hi
      | n + 3, hi => simp at hi
theorem l_j : LRow prog f_sha512_Join 0 jLF := by
  refine LRow.famX (N := 5) (S := jS) (HW2.env []) mix (fun x => x.a.np) (loop_of j_body) j_ok (fun w0 own0 => accOK_none (fun id => rfl) j0B) fun s x h hck => ?_
  obtain ⟨q1, q2, q3⟩ := j_rd h hck
  simp only [jCk2, Bool.and_eq_true, decide_eq_true_eq, ble_t] at hck
  obtain ⟨-, hn, hf, -⟩ := hck
  have hl : ∀ k, (jS x k).hp.length = 4 := fun k => rfl
  refine ⟨q1, fun k _ => by rw [q2, hl]; omega, by rw [q2, hl]; omega, fun i hi => q3 i _ hi, fun k hk => by rw [q2]; exact j_step x (by omega) hf k hk, ?_⟩
  have hck : (ckL [decide ((x.a.np : Int) < (x.a.np : Int)) == false] && stR (rnm 3 [3]) (jS x x.a.np) (jS x x.a.np)) = true := by
    have h2 : stR (rnm 3 [3]) (jS x x.a.np) (jS x x.a.np) = true := j_same _ _ (fun _ _ => rfl) rfl rfl (fun _ _ => rfl)
    rw [h2, decide_eq_false (show ¬ (x.a.np : Int) < (x.a.np : Int) by omega)]
    rfl
  obtain ⟨s1, r, h1, h2, h3⟩ := roundR_toR (j_stop x.a (x.a.np : Int) _ _ _ _) hck
  exact ⟨_, s1, r, h1, rfl, h2, by rw [q2]; exact h3⟩
def fnS (x : Option (Bool × AV)) : Nat → Int := match x with | some (_, .agg [.ints _ _ f]) => f | _ => fun _ => 0
noncomputable def kcL : List Int := tabL (fnS (iT (envP tt hs3 []) [] 5 f_sha512_Constants [])) 80 0
noncomputable def bcL : List Int := tabL (fnS (iT (envP tt hs4 []) [] 5 f_sha512_begin [])) 8 0
noncomputable abbrev JE : EnvP := envL tt hs8 hw2 [(0, jLF)]
noncomputable def xJ (t : Bool) (np : Nat) (row : Nat → List Seg) : JB := ⟨jA (fun _ _ => 0) (lf kcL) t np row, lf bcL, (np : Int), row⟩
theorem c_join : fnChk prog JE f_sha512_Join = true := by kernel_rfl
theorem k_join (t : Bool) (np : Nat) (row : Nat → List Seg) : (outP (apFunc JE [] 5 f_sha512_Join [.sc (.vrows t 1 np row)] [])).map (·.2) =
   some (.agg [.ints .u8 64 (lf (outL (hWk (lf kcL) (lf (tabL (jW (xJ t np row) np) 8 0)) (catF (catN (xJ t np row).a.m np % 128) (fun j => jD (xJ t np row).a np (0 + j) (0 + 0)) (padF (catN (xJ t np row).a.m np : Int).toNat)) ((catN (xJ t np row).a.m np % 128 + padL (catN (xJ t np row).a.m np : Int).toNat) / 128))))]) := by kernel_rfl
theorem ck_join (t : Bool) (np : Nat) (row : Nat → List Seg) : (outP (apFunc JE [] 5 f_sha512_Join [.sc (.vrows t 1 np row)] [])).map (·.1) =
   some (ckL [jCk2 (xJ t np row), decide (0 ≤ (catN (xJ t np row).a.m np : Int)) && (decide ((catN (xJ t np row).a.m np : Int) < 9223372036854775808) && Nat.beq ((catN (xJ t np row).a.m np : Int).toNat % 128) (catN (xJ t np row).a.m np % 128))]) := by kernel_rfl
def jmF (row : Nat → List Seg) : Nat → Nat := fun j => paN (row j)
def jfF (row : Nat → List Seg) : Nat → Nat → Int := fun i j => paF (row i) j 0
def jN (np : Nat) (row : Nat → List Seg) : Nat := catN (jmF row) np
def jB (np : Nat) (row : Nat → List Seg) : Nat → Int := catB (jmF row) (jfF row) np
noncomputable def tJoin : TF := fun args => match args with
  | [.sc (.vrows _ 1 np row)] => some (Nat.ble np 4611686018427387903 && (fits (jN np row) 1 && (List.range np).all fun j => okPart (row j)), .agg [.ints .u8 64 (lf (digL (lf kcL) (lf bcL) (jN np row) (jB np row)))])
  | _ => none
theorem r_join : TRow prog F_sha512_Join tJoin := by
  intro args r h
  unfold tJoin at h
  split at h
  case h_2 => simp at h
  rename_i t np row
  simp only [Option.some.injEq, Prod.mk.injEq, Bool.and_eq_true] at h
  obtain ⟨⟨h1, h2, h3⟩, rfl⟩ := h
  refine pure_of_outL HW2 at_sha512_Join (LsOK.nil.cons l_j) c_join (N := 5) (gs := []) ?_
  have e := both (ck_join t np row) (k_join t np row)
  have hN : catN (xJ t np row).a.m np = jN np row := rfl
  have hf : fits (catN (xJ t np row).a.m np) 1 = true := h2
  have hb : jN np row ≤ 2 ^ 40 := by
    have h2 := h2
    simp only [fits, decide_eq_true_eq, Nat.mul_one] at h2
    exact h2
  have c1 : jCk2 (xJ t np row) = true := by
    show (decide ((np : Int) = (np : Int)) && (Nat.ble np 4611686018427387903 && (fits (catN (xJ t np row).a.m np) 1 && (List.range np).all fun j => okPart (row j)))) = true
    rw [h1, hf, h3, decide_eq_true rfl]; rfl
  rw [c1, hN, Int.toNat_natCast, decide_eq_true (show (0 : Int) ≤ (jN np row : Int) by omega), decide_eq_true (show (jN np row : Int) < 9223372036854775808 by omega), beq_t.2 (rfl : jN np row % 128 = jN np row % 128)] at e
  have key : outL (hWk (lf kcL) (lf (tabL (jW (xJ t np row) np) 8 0)) (catF (jN np row % 128) (fun j => jD (xJ t np row).a np (0 + j) (0 + 0)) (padF (jN np row))) ((jN np row % 128 + padL (jN np row)) / 128)) = digL (lf kcL) (lf bcL) (jN np row) (jB np row) := by
    have : (fun j => jD (xJ t np row).a np (0 + j) (0 + 0)) = fun j => jB np row (128 * (jN np row / 128) + j) := by
      funext j
      rw [Nat.zero_add]; rfl
    rw [this]
    exact dig_law
  rw [key] at e
  exact e
noncomputable def hs9 : List (Nat × TF) := (F_sha512_Join, tJoin) :: hs8
theorem H9 : LibOK prog tt hs9 [] := H8.addT r_join
end Go.Proofs.Ytgjnfabhjbadoab

namespace Go.Proofs.Ytgjnfabhjbadoab
open Go.Proofs.Try
open Go Go.AM
noncomputable def hq1 : List (Nat × TF) := (F_scalar_Reduce, tReduce64) :: hs9
theorem HQ1 : LibOK prog tt hq1 [] := H9.addT r_reduce64
/-! the words that stand ahead -/
def ctxB : List UInt8 := [70, 82, 79, 83, 84, 45, 69, 68, 50, 53, 53, 49, 57, 45, 83, 72, 65, 53, 49, 50, 45, 118, 49]
def rhoB : List UInt8 := ctxB ++ [114, 104, 111]
def nonB : List UInt8 := ctxB ++ [110, 111, 110, 99, 101]
def msgB : List UInt8 := ctxB ++ [109, 115, 103]
def comB : List UInt8 := ctxB ++ [99, 111, 109]
def stS (l : List UInt8) : Seg := .one (.str ⟨⟨l⟩⟩)
def wF (l : List UInt8) (j : Nat) : Int := ((l.getD j 0).toNat : Int)
def hHp (l : List UInt8) (np : Nat) (row : Nat → List Seg) : Heap :=
  [some (.ints .u8 64 1 (fun _ _ => 0)), some (.mix 5 1 (fun r => bif Nat.beq r 0 then [stS rhoB, stS [], stS nonB, stS msgB, stS comB] else [stS [], stS [], stS [], stS [], stS []])), none,
   some (.mix 1 (1 + np) (fun r => bif Nat.ble (r + 1) 1 then cutS (List.getD [[.one (.vints true .u8 1 l.length (fun j _ => wF l j))]] (0 + r) []) 0 1 else row (r - 1)))]
def hRow (l : List UInt8) (np : Nat) (row : Nat → List Seg) : Nat → List Seg := fun j =>
  (cutS (bif Nat.ble (0 + j + 1) 1 then cutS (List.getD [[.one (.vints true .u8 1 l.length (fun j _ => wF l j))]] (0 + (0 + j)) []) 0 1 else row (0 + j - 1)) 0 1).map (snapSeg (snapSV false (hHp l np row) 8))
theorem c_hashed : fnChk prog (envP tt hq1 []) f_suite_hashed = true := by kernel_rfl
theorem k_hashed0 (t : Bool) (np : Nat) (row : Nat → List Seg) : outP (apFunc (envP tt hq1 []) [] 5 f_suite_hashed [.sc (.int .i64 0), .sc (.vrows t 1 np row)] []) =
    some (ckL [fits (1 + np) 24 && true, Nat.ble (1 + np) 4611686018427387903 && (fits (jN (1 + np) (hRow rhoB np row)) 1 && (List.range (1 + np)).all fun j => okPart (hRow rhoB np row j))], .agg [.ints .u8 64 (lf (digL (lf kcL) (lf bcL) (jN (1 + np) (hRow rhoB np row)) (jB (1 + np) (hRow rhoB np row))))]) := by kernel_rfl
theorem k_hashed1 (t : Bool) (np : Nat) (row : Nat → List Seg) : outP (apFunc (envP tt hq1 []) [] 5 f_suite_hashed [.sc (.int .i64 1), .sc (.vrows t 1 np row)] []) =
    some (ckL [fits (1 + np) 24 && true, Nat.ble (1 + np) 4611686018427387903 && (fits (jN (1 + np) (hRow [] np row)) 1 && (List.range (1 + np)).all fun j => okPart (hRow [] np row j))], .agg [.ints .u8 64 (lf (digL (lf kcL) (lf bcL) (jN (1 + np) (hRow [] np row)) (jB (1 + np) (hRow [] np row))))]) := by kernel_rfl
theorem k_hashed2 (t : Bool) (np : Nat) (row : Nat → List Seg) : outP (apFunc (envP tt hq1 []) [] 5 f_suite_hashed [.sc (.int .i64 2), .sc (.vrows t 1 np row)] []) =
    some (ckL [fits (1 + np) 24 && true, Nat.ble (1 + np) 4611686018427387903 && (fits (jN (1 + np) (hRow nonB np row)) 1 && (List.range (1 + np)).all fun j => okPart (hRow nonB np row j))], .agg [.ints .u8 64 (lf (digL (lf kcL) (lf bcL) (jN (1 + np) (hRow nonB np row)) (jB (1 + np) (hRow nonB np row))))]) := by kernel_rfl
theorem k_hashed3 (t : Bool) (np : Nat) (row : Nat → List Seg) : outP (apFunc (envP tt hq1 []) [] 5 f_suite_hashed [.sc (.int .i64 3), .sc (.vrows t 1 np row)] []) =
    some (ckL [fits (1 + np) 24 && true, Nat.ble (1 + np) 4611686018427387903 && (fits (jN (1 + np) (hRow msgB np row)) 1 && (List.range (1 + np)).all fun j => okPart (hRow msgB np row j))], .agg [.ints .u8 64 (lf (digL (lf kcL) (lf bcL) (jN (1 + np) (hRow msgB np row)) (jB (1 + np) (hRow msgB np row))))]) := by kernel_rfl
theorem k_hashed4 (t : Bool) (np : Nat) (row : Nat → List Seg) : outP (apFunc (envP tt hq1 []) [] 5 f_suite_hashed [.sc (.int .i64 4), .sc (.vrows t 1 np row)] []) =
    some (ckL [fits (1 + np) 24 && true, Nat.ble (1 + np) 4611686018427387903 && (fits (jN (1 + np) (hRow comB np row)) 1 && (List.range (1 + np)).all fun j => okPart (hRow comB np row j))], .agg [.ints .u8 64 (lf (digL (lf kcL) (lf bcL) (jN (1 + np) (hRow comB np row)) (jB (1 + np) (hRow comB np row))))]) := by kernel_rfl
/-! in plain words: a list of parts -/
def partsL (np : Nat) (row : Nat → List Seg) : List (Nat × (Nat → Int)) := (List.range np).map fun j => (paN (row j), fun i => paF (row j) i 0)
def wP (l : List UInt8) : Nat × (Nat → Int) := (l.length, wF l)
def wordOf (i : Int) : List UInt8 := bif i == 0 then rhoB else bif i == 1 then [] else bif i == 2 then nonB else bif i == 3 then msgB else comB
def okTot (n : Nat) : Bool := Nat.ble n 1099511627776
def okPs (w : List UInt8) (np : Nat) (row : Nat → List Seg) : Bool := okTot (catL (wP w :: partsL np row)).1 && (Nat.ble np 4294967296 && (List.range np).all fun j => okPart (row j))
noncomputable def hDig (w : List UInt8) (l : List (Nat × (Nat → Int))) : Nat → Int := lf (digP (lf kcL) (lf bcL) (wP w :: l))
theorem snap_part {hp : Heap} {s : List Seg} (h : okPart s = true) : (cutS s 0 1).map (snapSeg (snapSV false hp 8)) = s := by
  unfold okPart at h
  split at h
  · rfl
  · rfl
  · simp at h
theorem hRow_zero (l : List UInt8) (np : Nat) (row : Nat → List Seg) : hRow l np row 0 = [.one (.vints true .u8 1 l.length (fun j _ => wF l j))] := rfl
theorem hRow_succ (l : List UInt8) (np : Nat) (row : Nat → List Seg) (j : Nat) (h : okPart (row j) = true) : hRow l np row (j + 1) = row j := by
  unfold hRow
  have : Nat.ble (0 + (j + 1) + 1) 1 = false := by
    cases hb : Nat.ble (0 + (j + 1) + 1) 1 with
    | false => rfl
    | true => have := Nat.le_of_ble_eq_true hb; omega
  rw [this]
  show (cutS (row (0 + (j + 1) - 1)) 0 1).map _ = _
  rw [show 0 + (j + 1) - 1 = j by omega, snap_part h]
theorem range_succ' (n : Nat) : List.range (1 + n) = 0 :: (List.range n).map (· + 1) := by
  rw [Nat.add_comm, List.range_succ_eq_map]
theorem hRow_parts {l : List UInt8} {np : Nat} {row : Nat → List Seg} (h : ∀ j, j < np → okPart (row j) = true) : partsL (1 + np) (hRow l np row) = wP l :: partsL np row := by
  unfold partsL
  rw [range_succ', List.map_cons, List.map_map]
  refine congr (congrArg List.cons rfl) (List.map_congr_left fun j hj => ?_)
  show (paN (hRow l np row (j + 1)), fun i => paF (hRow l np row (j + 1)) i 0) = _
  rw [hRow_succ l np row j (h j (List.mem_range.1 hj))]
theorem hash_law {l : List UInt8} {np : Nat} {row : Nat → List Seg} (h : okPs l np row = true) : fits (1 + np) 24 = true ∧ (Nat.ble (1 + np) 4611686018427387903 && (fits (jN (1 + np) (hRow l np row)) 1 && (List.range (1 + np)).all fun j => okPart (hRow l np row j))) = true ∧
    digL (lf kcL) (lf bcL) (jN (1 + np) (hRow l np row)) (jB (1 + np) (hRow l np row)) = digP (lf kcL) (lf bcL) (wP l :: partsL np row) := by
  simp only [okPs, Bool.and_eq_true, List.all_eq_true, List.mem_range, okTot] at h
  obtain ⟨h1, h2, h3⟩ := h
  have h1 := Nat.le_of_ble_eq_true h1
  have h2 := Nat.le_of_ble_eq_true h2
  have e := digP_of (lf kcL) (lf bcL) (jmF (hRow l np row)) (jfF (hRow l np row)) (1 + np)
  have e2 : (List.range (1 + np)).map (fun j => (jmF (hRow l np row) j, jfF (hRow l np row) j)) = wP l :: partsL np row := hRow_parts h3
  rw [e2] at e
  have e3 := (catL_of (jmF (hRow l np row)) (jfF (hRow l np row)) (1 + np)).1
  rw [e2] at e3
  refine ⟨by simp only [fits, decide_eq_true_eq]; omega, ?_, e⟩
  have f1 : fits (jN (1 + np) (hRow l np row)) 1 = true := by
    simp only [fits, decide_eq_true_eq]
    show catN (jmF (hRow l np row)) (1 + np) * 1 ≤ _
    rw [← e3]; omega
  have f2 : ((List.range (1 + np)).all fun j => okPart (hRow l np row j)) = true := by
    rw [range_succ']
    simp only [List.all_cons, List.all_map, Bool.and_eq_true, List.all_eq_true, List.mem_range]
    refine ⟨rfl, fun j hj => ?_⟩
    show okPart (hRow l np row (j + 1)) = true
    rw [hRow_succ l np row j (h3 j hj)]; exact h3 j hj
  rw [f1, f2, Nat.ble_eq_true_of_le (by omega)]; rfl
noncomputable def tHashed : TF := fun args => match args with
  | [.sc (.int .i64 i), .sc (.vrows _ 1 np row)] => some (okPs (wordOf i) np row && (decide (0 ≤ i) && decide (i < 5)), .agg [.ints .u8 64 (hDig (wordOf i) (partsL np row))])
  | _ => none
theorem r_hashed : TRow prog F_suite_hashed tHashed := by
  intro args r h
  unfold tHashed at h
  split at h
  case h_2 => simp at h
  rename_i i t np row
  simp only [Option.some.injEq, Prod.mk.injEq, Bool.and_eq_true, decide_eq_true_eq] at h
  obtain ⟨⟨h1, h2, h3⟩, rfl⟩ := h
  obtain ⟨q1, q2, q3⟩ := hash_law h1
  have hi : i = 0 ∨ i = 1 ∨ i = 2 ∨ i = 3 ∨ i = 4 := by omega
  refine pure_of_out HQ1 at_suite_hashed c_hashed (N := 5) (gs := []) ?_
  unfold hDig
  rw [← q3]
  rcases hi with rfl | rfl | rfl | rfl | rfl
  · have e := k_hashed0 t np row
    rw [show wordOf 0 = rhoB by rfl] at q2 ⊢
    rw [q1, q2] at e; exact e
  · have e := k_hashed1 t np row
    rw [show wordOf 1 = ([] : List UInt8) by rfl] at q2 ⊢
    rw [q1, q2] at e; exact e
  · have e := k_hashed2 t np row
    rw [show wordOf 2 = nonB by rfl] at q2 ⊢
    rw [q1, q2] at e; exact e
  · have e := k_hashed3 t np row
    rw [show wordOf 3 = msgB by rfl] at q2 ⊢
    rw [q1, q2] at e; exact e
  · have e := k_hashed4 t np row
    rw [show wordOf 4 = comB by rfl] at q2 ⊢
    rw [q1, q2] at e; exact e
/-! H1 to H5 -/
noncomputable def hq2 : List (Nat × TF) := (F_suite_hashed, tHashed) :: hq1
theorem HQ2 : LibOK prog tt hq2 [] := HQ1.addT r_hashed
noncomputable def hNum (w : List UInt8) (l : List (Nat × (Nat → Int))) : Int := hval (hDig w l) 64 0 % ordL
def tNumber : TF := fun args => match args with
  | [.agg [.ints .u8 64 d]] => some (areB d 64 0, b32 (hval d 64 0 % ordL))
  | _ => none
theorem c_number : fnChk prog (envP tt hq2 []) f_suite_number = true := by kernel_rfl
theorem k_number (d : Nat → Int) : outP (apFunc (envP tt hq2 []) [] 5 f_suite_number [.agg [.ints .u8 64 d]] []) = some (ckL [areB (fun j => d (0 + j * 1 + 0)) 64 0], b32 (hval (fun j => d (0 + j * 1 + 0)) 64 0 % ordL)) := by kernel_rfl
theorem r_number : TRow prog F_suite_number tNumber := by
  intro args r h
  unfold tNumber at h
  split at h
  case h_2 => simp at h
  rename_i d
  simp only [Option.some.injEq, Prod.mk.injEq] at h
  obtain ⟨h1, rfl⟩ := h
  refine pure_of_out HQ2 at_suite_number c_number (N := 5) (gs := []) ?_
  have e := k_number d
  rw [show (fun j => d (0 + j * 1 + 0)) = d from funext fun j => by rw [Nat.zero_add, Nat.mul_one, Nat.add_zero], h1] at e
  exact e
theorem hDig_areB (w : List UInt8) (l : List (Nat × (Nat → Int))) : areB (hDig w l) 64 0 = true := outL_areB _
noncomputable def hq3 : List (Nat × TF) := (F_suite_number, tNumber) :: hq2
theorem HQ3 : LibOK prog tt hq3 [] := HQ2.addT r_number
noncomputable def tHn (w : List UInt8) : TF := fun args => match args with
  | [.sc (.vrows _ 1 np row)] => some (okPs w np row, b32 (hNum w (partsL np row)))
  | _ => none
noncomputable def tHd (w : List UInt8) : TF := fun args => match args with
  | [.sc (.vrows _ 1 np row)] => some (okPs w np row, .agg [.ints .u8 64 (lf (tabL (hDig w (partsL np row)) 64 0))])
  | _ => none
/-- handed on -/
def snR (n : Nat) (row : Nat → List Seg) : Nat → List Seg := fun j => (row j).map (snapSeg (snapSV false [some (.ints .u8 n 1 (fun _ _ => 0))] 8))
theorem snap_part2 {hp : Heap} {s : List Seg} (h : okPart s = true) : s.map (snapSeg (snapSV false hp 8)) = s := by
  unfold okPart at h
  split at h
  · rfl
  · rfl
  · simp at h
theorem okPs_sn (n : Nat) {w : List UInt8} {np : Nat} {row : Nat → List Seg} (h : okPs w np row = true) : okPs w np (snR n row) = true ∧ partsL np (snR n row) = partsL np row := by
  have h0 := h
  simp only [okPs, Bool.and_eq_true, List.all_eq_true, List.mem_range] at h
  obtain ⟨h1, h2, h3⟩ := h
  have e : partsL np (snR n row) = partsL np row := List.map_congr_left fun j hj => by
    unfold snR
    rw [snap_part2 (h3 j (List.mem_range.1 hj))]
  refine ⟨?_, e⟩
  simp only [okPs, Bool.and_eq_true, List.all_eq_true, List.mem_range]
  rw [e]
  exact ⟨h1, h2, fun j hj => by unfold snR; rw [snap_part2 (h3 j hj)]; exact h3 j hj⟩
theorem hDig_tab (w : List UInt8) (l : List (Nat × (Nat → Int))) : lf (tabL (hDig w l) 64 0) = hDig w l := rfl
theorem c_H1 : fnChk prog (envP tt hq3 []) f_suite_H1 = true := by kernel_rfl
theorem k_H1 (t : Bool) (np : Nat) (row : Nat → List Seg) : outP (apFunc (envP tt hq3 []) [] 5 f_suite_H1 [.sc (.vrows t 1 np row)] []) =
    some (ckL [okPs rhoB np (snR 32 row) && true, areB (hDig rhoB (partsL np (snR 32 row))) 64 0], b32 (hNum rhoB (partsL np (snR 32 row)))) := by kernel_rfl
theorem r_H1 : TRow prog F_suite_H1 (tHn rhoB) := by
  intro args r h
  unfold tHn at h
  split at h
  case h_2 => simp at h
  rename_i t np row
  simp only [Option.some.injEq, Prod.mk.injEq] at h
  obtain ⟨h1, rfl⟩ := h
  refine pure_of_out HQ3 at_suite_H1 c_H1 (N := 5) (gs := []) ?_
  have e := k_H1 t np row
  rw [(okPs_sn 32 h1).1, (okPs_sn 32 h1).2, hDig_areB] at e
  exact e
theorem c_H2 : fnChk prog (envP tt hq3 []) f_suite_H2 = true := by kernel_rfl
theorem k_H2 (t : Bool) (np : Nat) (row : Nat → List Seg) : outP (apFunc (envP tt hq3 []) [] 5 f_suite_H2 [.sc (.vrows t 1 np row)] []) =
    some (ckL [okPs [] np (snR 32 row) && true, areB (hDig [] (partsL np (snR 32 row))) 64 0], b32 (hNum [] (partsL np (snR 32 row)))) := by kernel_rfl
theorem r_H2 : TRow prog F_suite_H2 (tHn []) := by
  intro args r h
  unfold tHn at h
  split at h
  case h_2 => simp at h
  rename_i t np row
  simp only [Option.some.injEq, Prod.mk.injEq] at h
  obtain ⟨h1, rfl⟩ := h
  refine pure_of_out HQ3 at_suite_H2 c_H2 (N := 5) (gs := []) ?_
  have e := k_H2 t np row
  rw [(okPs_sn 32 h1).1, (okPs_sn 32 h1).2, hDig_areB] at e
  exact e
theorem c_H3 : fnChk prog (envP tt hq3 []) f_suite_H3 = true := by kernel_rfl
theorem k_H3 (t : Bool) (np : Nat) (row : Nat → List Seg) : outP (apFunc (envP tt hq3 []) [] 5 f_suite_H3 [.sc (.vrows t 1 np row)] []) =
    some (ckL [okPs nonB np (snR 32 row) && true, areB (hDig nonB (partsL np (snR 32 row))) 64 0], b32 (hNum nonB (partsL np (snR 32 row)))) := by kernel_rfl
theorem r_H3 : TRow prog F_suite_H3 (tHn nonB) := by
  intro args r h
  unfold tHn at h
  split at h
  case h_2 => simp at h
  rename_i t np row
  simp only [Option.some.injEq, Prod.mk.injEq] at h
  obtain ⟨h1, rfl⟩ := h
  refine pure_of_out HQ3 at_suite_H3 c_H3 (N := 5) (gs := []) ?_
  have e := k_H3 t np row
  rw [(okPs_sn 32 h1).1, (okPs_sn 32 h1).2, hDig_areB] at e
  exact e
theorem c_H4 : fnChk prog (envP tt hq3 []) f_suite_H4 = true := by kernel_rfl
theorem k_H4 (t : Bool) (np : Nat) (row : Nat → List Seg) : outP (apFunc (envP tt hq3 []) [] 5 f_suite_H4 [.sc (.vrows t 1 np row)] []) =
    some (ckL [okPs msgB np (snR 64 row) && true], .agg [.ints .u8 64 (lf (tabL (hDig msgB (partsL np (snR 64 row))) 64 0))]) := by kernel_rfl
theorem r_H4 : TRow prog F_suite_H4 (tHd msgB) := by
  intro args r h
  unfold tHd at h
  split at h
  case h_2 => simp at h
  rename_i t np row
  simp only [Option.some.injEq, Prod.mk.injEq] at h
  obtain ⟨h1, rfl⟩ := h
  refine pure_of_out HQ3 at_suite_H4 c_H4 (N := 5) (gs := []) ?_
  have e := k_H4 t np row
  rw [(okPs_sn 64 h1).1, (okPs_sn 64 h1).2] at e
  exact e
theorem c_H5 : fnChk prog (envP tt hq3 []) f_suite_H5 = true := by kernel_rfl
theorem k_H5 (t : Bool) (np : Nat) (row : Nat → List Seg) : outP (apFunc (envP tt hq3 []) [] 5 f_suite_H5 [.sc (.vrows t 1 np row)] []) =
    some (ckL [okPs comB np (snR 64 row) && true], .agg [.ints .u8 64 (lf (tabL (hDig comB (partsL np (snR 64 row))) 64 0))]) := by kernel_rfl
theorem r_H5 : TRow prog F_suite_H5 (tHd comB) := by
  intro args r h
  unfold tHd at h
  split at h
  case h_2 => simp at h
  rename_i t np row
  simp only [Option.some.injEq, Prod.mk.injEq] at h
  obtain ⟨h1, rfl⟩ := h
  refine pure_of_out HQ3 at_suite_H5 c_H5 (N := 5) (gs := []) ?_
  have e := k_H5 t np row
  rw [(okPs_sn 64 h1).1, (okPs_sn 64 h1).2] at e
  exact e
end Go.Proofs.Ytgjnfabhjbadoab
