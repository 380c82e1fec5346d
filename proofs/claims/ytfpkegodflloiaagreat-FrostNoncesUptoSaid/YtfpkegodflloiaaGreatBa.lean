/-
  Texts of the claim: DSc DSha DSha2 DSha3 DSha4 DSha5 DShR DShR2 DShR3 DShR4 DShR5 DPlain DGiv DApp DShR6 DShR7 DMul DMont DMont2 DMont3 DScal.
-/
import Derived.Test.YtfpkegodflloiaaGreatAc
import Derived.Test.YtfpkegodflloiaaGreatAd
import Derived.Test.YtfpkegodflloiaaGreatTy
namespace Go.Proofs.YtfpkegodflloiaaGreat
open Go.Proofs.Tryz
open Go Go.AM
theorem L0:LibOK prog tt [] []:=LibOK.nil mix tt_ok
def ts1:List (Nat × TF):=[(F_bits_Sub64,tSub64),(F_bits_Add64,tAdd64)]
theorem L1:LibOK prog tt ts1 [] :=
 (L0.addT (row_Add64 at_bits_Add64 (by kernel_rfl) (by kernel_rfl) (by kernel_rfl) (by kernel_rfl))).addT (row_Sub64 at_bits_Sub64 (by kernel_rfl) (by kernel_rfl) (by kernel_rfl) (by kernel_rfl))
def tLess:TF:=fun args=>match args with
 | [.agg [.ints .u64 4 a],.agg [.ints .u64 4 b]]=>some (inU4 a && inU4 b,.tup [n4 (if val4 a < val4 b then val4 a - val4 b+115792089237316195423570985008687907853269984665640564039457584007913129639936 else val4 a - val4 b),.sc (.bit (decide (val4 a < val4 b)))])
 | _=>none
def lessCk (a b:Nat → Int):Bool:=ckL [inU (a 0) && inU (b 0),inU (a 1) && inU (b 1),inU (a 2) && inU (b 2),inU (a 3) && inU (b 3)]
theorem c_less:fnChk prog (envP tt ts1 []) f_scalar_less=true:=by kernel_rfl
theorem k_less (a b:Nat → Int):outP (apFunc (envP tt ts1 []) [] 50 f_scalar_less [u4 a,u4 b] [])=some (lessCk a b,.tup [u4 (lf (lessL a b)),.sc (.bit (brK a b 4))]):=by kernel_rfl
theorem r_less:TRow prog F_scalar_less tLess:=by
 intro args r h
 unfold tLess at h
 split at h
 case h_2=>simp at h
 rename_i a b
 simp only [Option.some.injEq,Prod.mk.injEq,Bool.and_eq_true] at h
 obtain ⟨⟨ha,hb⟩,rfl⟩:=h
 refine pure_of_out L1 at_scalar_less c_less (N:=50) (gs:=[]) ?_
 have:=k_less a b
 simp only [u4] at this
 rw [this,(less_law ha hb).1,(less_law ha hb).2]
 have hc:lessCk a b=true:=by
  simp only [inU4,Bool.and_eq_true] at ha hb
  simp [lessCk,ckL,ha,hb]
 rw [hc]; rfl
def tOrder:TF:=fun args=>match args with
 | []=>some (true,n4 ordL)
 | _=>none
theorem c_order:fnChk prog (envP tt ts1 []) f_scalar_order=true:=by kernel_rfl
theorem r_order:TRow prog F_scalar_order tOrder:=by
 intro args r h
 unfold tOrder at h
 split at h
 case h_2=>simp at h
 simp only [Option.some.injEq,Prod.mk.injEq,true_and] at h
 subst h
 exact pure_of_out L1 at_scalar_order c_order (N:=50) (gs:=[]) (by kernel_rfl)
def ts2:List (Nat × TF):=(F_scalar_order,tOrder) :: (F_scalar_less,tLess) :: ts1
theorem L2:LibOK prog tt ts2 []:=(L1.addT r_less).addT r_order
def tLowered:TF:=fun args=>match args with
 | [.agg [.ints .u64 4 a]]=>some (inU4 a,n4 (low (val4 a)))
 | _=>none
theorem c_lowered:fnChk prog (envP tt ts2 []) f_scalar_lowered=true:=by kernel_rfl
theorem k_low1 (a:Nat → Int):outP (apFunc (envP tt ts2 []) [(12,true)] 50 f_scalar_lowered [u4 a] []) =
  some (ckL [inU4 a && inU4 (limbs4 ordL),(b2i (decide (val4 a < val4 (limbs4 ordL))) == 0) == true],n4 (if val4 a < val4 (limbs4 ordL) then val4 a - val4 (limbs4 ordL)+115792089237316195423570985008687907853269984665640564039457584007913129639936 else val4 a - val4 (limbs4 ordL))):=by kernel_rfl
theorem k_low2 (a:Nat → Int):outP (apFunc (envP tt ts2 []) [(12,false)] 50 f_scalar_lowered [u4 a] []) =
  some (ckL [inU4 a && inU4 (limbs4 ordL),(b2i (decide (val4 a < val4 (limbs4 ordL))) == 0) == false],u4 (lf [a 0,a 1,a 2,a 3])):=by kernel_rfl
theorem r_lowered:TRow prog F_scalar_lowered tLowered:=by
 intro args r h
 unfold tLowered at h
 split at h
 case h_2=>simp at h
 rename_i a
 simp only [Option.some.injEq,Prod.mk.injEq] at h
 obtain ⟨ha,rfl⟩:=h
 have hr:=val4_range ha
 have ho:=inU4_limbs ordL
 by_cases hlt:val4 a < ordL
 ·refine pure_of_out L2 at_scalar_lowered c_lowered (N:=50) (gs:=[(12,false)]) ?_
  have:=k_low2 a
  simp only [u4] at this
  rw [this,limbs_self ha,val4_ordL]
  simp [ckL,ha,ho,hlt,b2i,low,n4,u4]
 ·refine pure_of_out L2 at_scalar_lowered c_lowered (N:=50) (gs:=[(12,true)]) ?_
  have:=k_low1 a
  simp only [u4] at this
  rw [this,val4_ordL]
  simp [ckL,ha,ho,hlt,b2i,low,n4,u4]
def ts3:List (Nat × TF):=(F_scalar_lowered,tLowered) :: ts2
theorem L3:LibOK prog tt ts3 []:=L2.addT r_lowered
def tPlus:TF:=fun args=>match args with
 | [.agg [.ints .u64 4 a],.agg [.ints .u64 4 b]]=>some (inU4 a && inU4 b,n4 (low ((val4 a+val4 b) % 115792089237316195423570985008687907853269984665640564039457584007913129639936)))
 | _=>none
theorem c_plus:fnChk prog (envP tt ts3 []) f_scalar_plus=true:=by kernel_rfl
theorem k_plus (a b:Nat → Int):outP (apFunc (envP tt ts3 []) [] 50 f_scalar_plus [u4 a,u4 b] [])=some (ckL [inU (a 0) && inU (b 0),inU (a 1) && inU (b 1),inU (a 2) && inU (b 2),inU (a 3) && inU (b 3),inU4 (lf (plusL a b))],n4 (low (val4 (lf (plusL a b))))):=by kernel_rfl
theorem r_plus:TRow prog F_scalar_plus tPlus:=by
 intro args r h
 unfold tPlus at h
 split at h
 case h_2=>simp at h
 rename_i a b
 simp only [Option.some.injEq,Prod.mk.injEq,Bool.and_eq_true] at h
 obtain ⟨⟨ha,hb⟩,rfl⟩:=h
 refine pure_of_out L3 at_scalar_plus c_plus (N:=50) (gs:=[]) ?_
 have:=k_plus a b
 simp only [u4] at this
 rw [this,plus_law ha hb,val4_limbs (by omega) (by omega)]
 simp only [inU4,Bool.and_eq_true] at ha hb
 simp [ckL,ha,hb,inU4_limbs]
def ts4:List (Nat × TF):=(F_scalar_plus,tPlus) :: ts3
theorem L4:LibOK prog tt ts4 []:=L3.addT r_plus
def tFrom:TF:=fun args=>match args with
 | [.agg [.ints .u8 32 s]]=>some (areB s 32 0,n4 (hval s 32 0))
 | _=>none
theorem c_from:fnChk prog (envP tt ts4 []) f_scalar_from=true:=by kernel_rfl
theorem k_from (s:Nat → Int):outP (apFunc (envP tt ts4 []) [] 50 f_scalar_from [u8s 32 s] [])=some (true,u4 (lf [orB s 0 8,orB s 1 8,orB s 2 8,orB s 3 8])):=by kernel_rfl
theorem r_from:TRow prog F_scalar_from tFrom:=by
 intro args r h
 unfold tFrom at h
 split at h
 case h_2=>simp at h
 rename_i s
 simp only [Option.some.injEq,Prod.mk.injEq] at h
 obtain ⟨hs,rfl⟩:=h
 refine pure_of_out L4 at_scalar_from c_from (N:=50) (gs:=[]) ?_
 have:=k_from s
 simp only [u8s] at this
 rw [this,from_law hs]; rfl
def tBack:TF:=fun args=>match args with
 | [.agg [.ints .u64 4 a]]=>some (inU4 a,b32 (val4 a))
 | _=>none
theorem c_back:fnChk prog (envP tt ts4 []) f_scalar_back=true:=by kernel_rfl
theorem k_back (a:Nat → Int):outP (apFunc (envP tt ts4 []) [] 50 f_scalar_back [u4 a] [])=some (true,u8s 32 (lf (backL a))):=by kernel_rfl
theorem r_back:TRow prog F_scalar_back tBack:=by
 intro args r h
 unfold tBack at h
 split at h
 case h_2=>simp at h
 rename_i a
 simp only [Option.some.injEq,Prod.mk.injEq] at h
 obtain ⟨hs,rfl⟩:=h
 refine pure_of_out L4 at_scalar_back c_back (N:=50) (gs:=[]) ?_
 have:=k_back a
 simp only [u4] at this
 rw [this,back_law hs]; rfl
def ts5:List (Nat × TF):=(F_scalar_back,tBack) :: (F_scalar_from,tFrom) :: ts4
theorem L5:LibOK prog tt ts5 []:=(L4.addT r_from).addT r_back
def tValue:TF:=fun args=>match args with
 | [.agg [.ints .u8 32 s]]=>some (areB s 32 0,n4 (hval s 32 0 % ordL))
 | _=>none
theorem c_value:fnChk prog (envP tt ts5 []) f_scalar_value=true:=by kernel_rfl
theorem k_value (s:Nat → Int):outP (apFunc (envP tt ts5 []) [] 50 f_scalar_value [u8s 32 s] [])=some (ckL (areB s 32 0 :: (List.range 16).map fun k=>inU4 (limbs4 (wl s k))),u4 (lf [limbs4 (wl s 16) 0,limbs4 (wl s 16) 1,limbs4 (wl s 16) 2,limbs4 (wl s 16) 3])):=by kernel_rfl
theorem r_value:TRow prog F_scalar_value tValue:=by
 intro args r h
 unfold tValue at h
 split at h
 case h_2=>simp at h
 rename_i s
 simp only [Option.some.injEq,Prod.mk.injEq] at h
 obtain ⟨hs,rfl⟩:=h
 refine pure_of_out L5 at_scalar_value c_value (N:=50) (gs:=[]) ?_
 have:=k_value s
 simp only [u8s] at this
 rw [this,wl16 hs]
 have hc:ckL (areB s 32 0 :: (List.range 16).map fun k=>inU4 (limbs4 (wl s k)))=true:=by
  rw [ckL_t]
  intro b hb
  simp only [List.mem_cons,List.mem_map] at hb
  rcases hb with rfl | ⟨k,_,rfl⟩
  ·exact hs
  ·exact inU4_limbs _
 rw [hc]; rfl
def ts6:List (Nat × TF):=(F_scalar_value,tValue) :: ts5
theorem L6:LibOK prog tt ts6 []:=L5.addT r_value
def tIsZero:TF:=fun args=>match args with
 | [.agg [.ints .u8 32 s]]=>some (areB s 32 0,.sc (.bool (decide (hval s 32 0 % ordL=0))))
 | _=>none
theorem c_isZero:fnChk prog (envP tt ts6 []) f_scalar_IsZero=true:=by kernel_rfl
theorem k_isZero (s:Nat → Int):outP (apFunc (envP tt ts6 []) [] 50 f_scalar_IsZero [u8s 32 s] [])=some (ckL [areB s 32 0],.sc (.bool (eqN 4 (limbs4 (hval s 32 0 % ordL)) (fun _=>0) && true))):=by kernel_rfl
theorem r_isZero:TRow prog F_scalar_IsZero tIsZero:=by
 intro args r h
 unfold tIsZero at h
 split at h
 case h_2=>simp at h
 rename_i s
 simp only [Option.some.injEq,Prod.mk.injEq] at h
 obtain ⟨hs,rfl⟩:=h
 refine pure_of_out L6 at_scalar_IsZero c_isZero (N:=50) (gs:=[]) ?_
 have:=k_isZero s
 simp only [u8s] at this
 have hr:=modL_range (hval s 32 0)
 rw [this,eqN_zero hr.1 (by omega),Bool.and_true]
 simp [ckL,hs]
def tAdd:TF:=fun args=>match args with
 | [.agg [.ints .u8 32 s],.agg [.ints .u8 32 t]]=>some (areB s 32 0 && areB t 32 0,b32 ((hval s 32 0+hval t 32 0) % ordL))
 | _=>none
theorem c_add:fnChk prog (envP tt ts6 []) f_scalar_Add=true:=by kernel_rfl
theorem k_add (s t:Nat → Int):outP (apFunc (envP tt ts6 []) [] 50 f_scalar_Add [u8s 32 s,u8s 32 t] []) =
  some (ckL [areB s 32 0,areB t 32 0,inU4 (limbs4 (hval s 32 0 % ordL)) && inU4 (limbs4 (hval t 32 0 % ordL)),inU4 (limbs4 (low ((val4 (limbs4 (hval s 32 0 % ordL))+val4 (limbs4 (hval t 32 0 % ordL))) % 115792089237316195423570985008687907853269984665640564039457584007913129639936)))],
   normA (b32 (val4 (limbs4 (low ((val4 (limbs4 (hval s 32 0 % ordL))+val4 (limbs4 (hval t 32 0 % ordL))) % 115792089237316195423570985008687907853269984665640564039457584007913129639936)))))):=by kernel_rfl
theorem norm_b32 (x:Int):normA (b32 x)=b32 x:=rfl
theorem r_add:TRow prog F_scalar_Add tAdd:=by
 intro args r h
 unfold tAdd at h
 split at h
 case h_2=>simp at h
 rename_i s t
 simp only [Option.some.injEq,Prod.mk.injEq,Bool.and_eq_true] at h
 obtain ⟨⟨hs,ht⟩,rfl⟩:=h
 refine pure_of_out L6 at_scalar_Add c_add (N:=50) (gs:=[]) ?_
 have:=k_add s t
 simp only [u8s] at this
 have h1:=modL_range (hval s 32 0)
 have h2:=modL_range (hval t 32 0)
 have h3:=modL_range (hval s 32 0+hval t 32 0)
 rw [this,val4_limbs h1.1 (by omega),val4_limbs h2.1 (by omega),low_add,val4_limbs h3.1 (by omega),norm_b32]
 simp [ckL,hs,ht,inU4_limbs]
end Go.Proofs.YtfpkegodflloiaaGreat
namespace Go.Proofs.YtfpkegodflloiaaGreat
open Go.Proofs.Tryz
open Go Go.AM
theorem hwr {x:Int} (h0:0 ≤ x) (h1:x < 9223372036854775808):wr .i64 x=x:=by
 show IntKind.i64.wrap x=x
 rw [IntKind.wrap_i64]; omega
theorem hin {k n:Nat} (h:k < n):inR k n=true:=by simp [inR]; omega
def rotS (x n:Int):Int:=ior .u64 (ishl .u64 x (iand .u64 (wr .u64 n) 63)) (ishr .u64 x (wr .u64 (64 - iand .u64 (wr .u64 n) 63)))
def tRot:TF:=fun args=>match args with
 | [.sc (.int .u64 x),.sc (.int .i64 n)]=>some (!decide (iand .u64 (wr .u64 n) 63 < 0) && !decide (wr .u64 (64 - iand .u64 (wr .u64 n) 63) < 0),.sc (.int .u64 (rotS x n)))
 | _=>none
theorem c_rot:fnChk prog (envP tt [] []) f_bits_RotateLeft64=true:=by kernel_rfl
theorem k_rot (x n:Int):outP (apFunc (envP tt [] []) [] 5 f_bits_RotateLeft64 [.sc (.int .u64 x),.sc (.int .i64 n)] []) =
  some (ckL [!decide (iand .u64 (wr .u64 n) 63 < 0),!decide (wr .u64 (64 - iand .u64 (wr .u64 n) 63) < 0)],.sc (.int .u64 (rotS x n))):=by kernel_rfl
theorem r_rot:TRow prog F_bits_RotateLeft64 tRot:=by
 intro args r h
 unfold tRot at h
 split at h
 case h_2=>simp at h
 rename_i x n
 simp only [Option.some.injEq,Prod.mk.injEq,Bool.and_eq_true] at h
 obtain ⟨⟨h1,h2⟩,rfl⟩:=h
 refine pure_of_out L0 at_bits_RotateLeft64 c_rot (N:=5) (gs:=[]) ?_
 rw [k_rot,h1,h2]; rfl
def hs1:List (Nat × TF):=[(F_bits_RotateLeft64,tRot)]
theorem H1:LibOK prog tt hs1 []:=L0.addT r_rot
def tRor:TF:=fun args=>match args with
 | [.sc (.int .u64 x),.sc (.int .i64 n)]=>some (decide (1 ≤ n) && decide (n ≤ 63),.sc (.int .u64 (rorS x n)))
 | _=>none
theorem c_ror:fnChk prog (envP tt hs1 []) f_sha512_ror=true:=by kernel_rfl
theorem k_ror (x n:Int):outP (apFunc (envP tt hs1 []) [] 5 f_sha512_ror [.sc (.int .u64 x),.sc (.int .i64 n)] []) =
  some (ckL [!decide (iand .u64 (wr .u64 (wr .i64 (0 - n))) 63 < 0) && !decide (wr .u64 (64 - iand .u64 (wr .u64 (wr .i64 (0 - n))) 63) < 0)],.sc (.int .u64 (rotS x (wr .i64 (0 - n))))):=by kernel_rfl
theorem iand63 {x:Int} (hx:0 ≤ x ∧ x < 18446744073709551616):iand .u64 x 63=x % 64:=by
 have h1:BitVec.ofInt 64 x=BitVec.ofNat 64 x.toNat:=by
  apply BitVec.eq_of_toNat_eq
  simp only [BitVec.toNat_ofInt,BitVec.toNat_ofNat]
  have:(x % (2 ^ 64:Nat)).toNat=x.toNat % 2 ^ 64:=by omega
  exact this
 have h2:x.toNat < 18446744073709551616:=by omega
 have h3:(BitVec.ofInt 64 x &&& BitVec.ofInt 64 63).toNat=x.toNat % 64:=by
  rw [h1,BitVec.toNat_and,BitVec.toNat_ofNat]
  have:(BitVec.ofInt 64 63).toNat=2 ^ 6 - 1:=by decide
  rw [this,Nat.mod_eq_of_lt h2]
  exact Nat.and_two_pow_sub_one_eq_mod x.toNat 6
 show wr .u64 ((BitVec.ofInt 64 x &&& BitVec.ofInt 64 63).toNat:Int)=_
 rw [h3,wr64]
 omega
theorem r_ror:TRow prog F_sha512_ror tRor:=by
 intro args r h
 unfold tRor at h
 split at h
 case h_2=>simp at h
 rename_i x n
 simp only [Option.some.injEq,Prod.mk.injEq,Bool.and_eq_true,decide_eq_true_eq] at h
 obtain ⟨⟨h1,h2⟩,rfl⟩:=h
 refine pure_of_out H1 at_sha512_ror c_ror (N:=5) (gs:=[]) ?_
 have e1:wr .i64 (0 - n)=0 - n:=by
  show IntKind.i64.wrap _=_
  rw [IntKind.wrap_i64]; omega
 have e2:iand .u64 (wr .u64 (0 - n)) 63=64 - n:=by
  rw [wr64,iand63 ⟨by omega,by omega⟩]; omega
 have e3:wr .u64 (64 - (64 - n))=n:=by rw [wr64]; omega
 rw [k_ror,e1,e2,e3]
 have e4:rotS x (0 - n)=rorS x n:=by unfold rotS rorS; rw [e2,e3]
 rw [e4]
 have d1:decide (64 - n < 0)=false:=decide_eq_false (by omega)
 have d2:decide (n < 0)=false:=decide_eq_false (by omega)
 rw [d1,d2]; rfl
def hs2:List (Nat × TF):=(F_sha512_ror,tRor) :: hs1
theorem H2:LibOK prog tt hs2 []:=H1.addT r_ror
structure SA where
 t:Bool
 b:Nat → Nat → Int
 kt:Bool
 kf:Nat → Int
 s:Nat → Int
noncomputable abbrev hE:EnvP:=envP tt hs2 []
noncomputable def b4B:Code:=match f_sha512_block.body with | some c=>(match bodiesOf 4 c with | [.loop b]=>b | _=>.skip) | none=>.skip
noncomputable def b6B:Code:=match f_sha512_block.body with | some c=>(match bodiesOf 6 c with | [.loop b]=>b | _=>.skip) | none=>.skip
def b4T (a:SA):List (Nat × AV):=[(2,.sc (.vptr a.kt [.ints .u64 80 a.kf])),(3,.sc (.ptr 0 8 0 0 8)),(6,.sc (.ptr 1 8 0 0 8)),(7,.sc (.ptr 2 80 0 0 80))]
def b4H (a:SA) (D:Nat → Int):Heap:=[some (.ints .u64 8 1 (fun _ d=>a.s d)),some (.ints .u64 8 1 (fun _ d=>a.b 0 d)),some (.ints .u64 80 1 (fun _ d=>D d))]
def b4V (a:SA) (v:Int) (D:Nat → Int):St:=⟨tmOf ((10,.sc (.int .i64 v)) :: b4T a) 182 0,b4H a D⟩
def ixW (v c:Int):Nat:=0+(wr .i64 (v - c)).toNat * 1
def b4Val (v:Int) (D:Nat → Int):Int:=wNext (D (ixW v 16)) (D (ixW v 15)) (D (ixW v 7)) (D (ixW v 2))
def updC (D:Nat → Int) (c:Nat) (x:Int):Nat → Int:=fun d=>bif Nat.beq d c then x else D d
theorem b4_round (a:SA) (v v':Int) (D D':Nat → Int):roundB hE [(44,true)] 5 b4B (b4V a v D) .normal (b4V a v' D') =
  some (ckL [decide (v < 80) == true,inR (wr .i64 (v - 15)) 80,inR (wr .i64 (v - 2)) 80,inR (wr .i64 (v - 16)) 80,inR (wr .i64 (v - 7)) 80,inR v 80] &&
   stB (b4V a (wr .i64 (v+1)) (updC D (0+v.toNat * 1) (b4Val v D))) (b4V a v' D')):=by kernel_rfl
theorem b4_same (a:SA) (v:Int) {D D':Nat → Int} (h:eqF 1 80 (fun _ d=>D d) (fun _ d=>D' d)=true):stB (b4V a v D) (b4V a v D')=true:=by
 exact stB_tm (by kernel_rfl) (by simp [b4H,hpB,blkB,eqF_refl,kEq,h])
def b4E (a:SA) (D:Nat → Int):St:=⟨tmOf (b4T a) 182 0,b4H a D⟩
theorem b4_stop (a:SA) (D:Nat → Int):roundB hE [] 5 b4B (b4V a 80 D) (.exit 4) (b4E a D)=some (true && stB (b4E a D) (b4E a D)):=by kernel_rfl
theorem b4E_same (a:SA) (D:Nat → Int):stB (b4E a D) (b4E a D)=true:=by
 exact stB_tm (by kernel_rfl) (by simp [b4H,hpB,blkB,eqF_refl,kEq])
def b6T (a:SA):List (Nat × AV):=[(2,.sc (.vptr a.kt [.ints .u64 80 a.kf])),(3,.sc (.ptr 0 8 0 0 8)),(6,.sc (.ptr 1 8 0 0 8)),(7,.sc (.ptr 2 80 0 0 80)),(13,.sc (.ptr 3 8 0 0 8))]
def b6H (a:SA) (w t:Nat → Int):Heap:=[some (.ints .u64 8 1 (fun _ d=>a.s d)),some (.ints .u64 8 1 (fun _ d=>a.b 0 d)),some (.ints .u64 80 1 (fun _ d=>w d)),some (.ints .u64 8 1 (fun _ d=>t d))]
def b6V (a:SA) (w:Nat → Int) (v:Int) (t:Nat → Int):St:=⟨tmOf ((85,.sc (.int .i64 v)) :: b6T a) 182 0,b6H a w t⟩
def b6E (a:SA) (w t:Nat → Int):St:=⟨tmOf (b6T a) 182 0,b6H a w t⟩
theorem b6_round (a:SA) (w:Nat → Int) (v v':Int) (t t':Nat → Int):roundB hE [(86,true)] 5 b6B (b6V a w v t) .normal (b6V a w v' t') =
  some (ckL [decide (v < 80) == true,inR v 80,inR v 80] && stB (b6V a w (wr .i64 (v+1)) (lf (rndL t (a.kf (v.toNat * 1)) (w (0+v.toNat * 1))))) (b6V a w v' t')):=by kernel_rfl
theorem b6_stop (a:SA) (w t:Nat → Int):roundB hE [] 5 b6B (b6V a w 80 t) (.exit 6) (b6E a w t)=some (true && stB (b6E a w t) (b6E a w t)):=by kernel_rfl
theorem b6_same (a:SA) (w:Nat → Int) (v:Int) {t t':Nat → Int} (h:eqF 1 8 (fun _ d=>t d) (fun _ d=>t' d)=true):stB (b6V a w v t) (b6V a w v t')=true:=by
 exact stB_tm (by kernel_rfl) (by simp [b6H,hpB,blkB,eqF_refl,kEq,h])
theorem b6E_same (a:SA) (w t:Nat → Int):stB (b6E a w t) (b6E a w t)=true:=by
 exact stB_tm (by kernel_rfl) (by simp [b6H,hpB,blkB,eqF_refl,kEq])
structure WA where
 a:SA
 w:Nat → Int
 t0:Nat → Int
def b4S (x:WA) (k:Nat):St:=b4V x.a (((16+k:Nat)):Int) (wK x.w k)
def b4Rd (s:St):Option WA:=match getA s.tm 2,s.hp with
 | .sc (.vptr kt [.ints k2 n2 kf]),[some (.ints k3 z3 m3 sf),some (.ints k4 z4 m4 zf),some (.ints k5 z5 m5 wf)] =>
  bif (kEq k2 .u64 && Nat.beq n2 80) && ((kEq k3 .u64 && (Nat.beq z3 8 && Nat.beq m3 1)) && ((kEq k5 .u64 && (Nat.beq z5 80 && Nat.beq m5 1)) && ((kEq k4 .u64 && (Nat.beq z4 8 && Nat.beq m4 1)) && (Nat.beq s.tm.length 182 && tmIs 3 s.tm [(10,.sc (.int .i64 16)),(3,.sc (.ptr 0 8 0 0 8)),(6,.sc (.ptr 1 8 0 0 8)),(7,.sc (.ptr 2 80 0 0 80))]))))
  then some ⟨⟨false,zf,kt,kf,sf 0⟩,lf (tabL (wf 0) 80 0),zf 0⟩ else none
 | _,_=>none
def b4F:LF:=famX b4Rd (fun _=>true) (fun _=>.normal) (fun x=>b4E x.a (wK x.w 64))
def b6S (x:WA) (k:Nat):St:=b6V x.a x.w (k:Int) (tR x.t0 x.a.kf x.w k)
def b6Rd (s:St):Option WA:=match getA s.tm 2,s.hp with
 | .sc (.vptr kt [.ints k2 n2 kf]),[some (.ints k3 z3 m3 sf),some (.ints k4 z4 m4 zf),some (.ints k5 z5 m5 wf),some (.ints k6 z6 m6 tf)] =>
  bif (kEq k2 .u64 && Nat.beq n2 80) && ((kEq k3 .u64 && (Nat.beq z3 8 && Nat.beq m3 1)) && ((kEq k5 .u64 && (Nat.beq z5 80 && Nat.beq m5 1)) && ((kEq k4 .u64 && (Nat.beq z4 8 && Nat.beq m4 1)) && ((kEq k6 .u64 && (Nat.beq z6 8 && Nat.beq m6 1)) && (Nat.beq s.tm.length 182 && tmIs 4 s.tm [(85,.sc (.int .i64 0)),(3,.sc (.ptr 0 8 0 0 8)),(6,.sc (.ptr 1 8 0 0 8)),(7,.sc (.ptr 2 80 0 0 80)),(13,.sc (.ptr 3 8 0 0 8))])))))
  then some ⟨⟨false,zf,kt,kf,sf 0⟩,wf 0,lf (tabL (tf 0) 8 0)⟩ else none
 | _,_=>none
def b6F:LF:=famX b6Rd (fun _=>true) (fun _=>.normal) (fun x=>b6E x.a x.w (tR x.t0 x.a.kf x.w 80))
theorem b4_body:f_sha512_block.body.map (bodiesOf 4)=some [.loop b4B]:=by kernel_rfl
theorem b6_body:f_sha512_block.body.map (bodiesOf 6)=some [.loop b6B]:=by kernel_rfl
theorem b4_ok:codeOK prog hE.env.isW b4B=true:=by kernel_rfl
theorem b6_ok:codeOK prog hE.env.isW b6B=true:=by kernel_rfl
theorem lf_tabE {f:Nat → Nat → Int} {n:Nat}:eqF 1 n f (fun _ d=>lf (tabL (f 0) n 0) d)=true:=eqF_of fun r hr d hd=>by
 obtain rfl:r=0:=by omega
 have:=lf_tab (f 0) n 0 d hd
 rw [Nat.zero_add] at this
 exact this.symm
theorem eqF_eta {f:Nat → Nat → Int} {n:Nat}:eqF 1 n f (fun _ d=>f 0 d)=true:=eqF_of fun r hr d hd=>by
 obtain rfl:r=0:=by omega
 rfl
theorem b4_rd {s:St} {x:WA} (h:b4Rd s=some x):StLe s (b4S x 0) ∧ s.hp.length=3 ∧ ∀ (i:Nat) (t:Heap),s.hp[i]?=some none → t[i]?=some none:=by
 unfold b4Rd at h
 split at h
 case h_2=>simp at h
 rename_i kt k2 n2 kf k3 z3 m3 sf k4 z4 m4 zf k5 z5 m5 wf h2 hh
 cases hc:((kEq k2 .u64 && Nat.beq n2 80) && ((kEq k3 .u64 && (Nat.beq z3 8 && Nat.beq m3 1)) && ((kEq k5 .u64 && (Nat.beq z5 80 && Nat.beq m5 1)) && ((kEq k4 .u64 && (Nat.beq z4 8 && Nat.beq m4 1)) && (Nat.beq s.tm.length 182 && tmIs 3 s.tm [(10,.sc (.int .i64 16)),(3,.sc (.ptr 0 8 0 0 8)),(6,.sc (.ptr 1 8 0 0 8)),(7,.sc (.ptr 2 80 0 0 80))])))) ) with
 | false=>rw [hc] at h; simp at h
 | true =>
  rw [hc] at h
  simp only [cond_true,Option.some.injEq] at h
  subst h
  simp only [Bool.and_eq_true,beq_t] at hc
  obtain ⟨⟨c1,rfl⟩,⟨c2,rfl,rfl⟩,⟨c3,rfl,rfl⟩,⟨c4,rfl,rfl⟩,c5,c6⟩:=hc
  have c1:=kEq_spec c1
  have c2:=kEq_spec c2
  have c3:=kEq_spec c3
  have c4:=kEq_spec c4
  subst c1 c2 c3 c4
  refine ⟨stX c5 c6 (fun p hp=>?_) ?_,by rw [hh]; rfl,fun i t hi=>?_⟩
  ·simp only [b4T,List.mem_cons,List.not_mem_nil,or_false] at hp
   rcases hp with rfl | rfl | rfl | rfl | rfl
   ·exact .inl (by simp)
   ·refine .inr ?_
    show avB _ (getA s.tm 2) _=true
    rw [h2]
    simp [avB,svB,segB,eqN_refl,kEq]
   ·exact .inl (by simp)
   ·exact .inl (by simp)
   ·exact .inl (by simp)
  ·rw [hh]
   simp [b4H,hpB,blkB,eqF_eta,kEq,wK,lf_tabE]
  ·rw [hh] at hi
   match i,hi with
   | 0,hi=>simp at hi
   | 1,hi=>simp at hi
   | 2,hi=>simp at hi
   | n+3,hi=>simp at hi
theorem b6_rd {s:St} {x:WA} (h:b6Rd s=some x):StLe s (b6S x 0) ∧ s.hp.length=4 ∧ ∀ (i:Nat) (t:Heap),s.hp[i]?=some none → t[i]?=some none:=by
 unfold b6Rd at h
 split at h
 case h_2=>simp at h
 rename_i kt k2 n2 kf k3 z3 m3 sf k4 z4 m4 zf k5 z5 m5 wf k6 z6 m6 tf h2 hh
 cases hc:((kEq k2 .u64 && Nat.beq n2 80) && ((kEq k3 .u64 && (Nat.beq z3 8 && Nat.beq m3 1)) && ((kEq k5 .u64 && (Nat.beq z5 80 && Nat.beq m5 1)) && ((kEq k4 .u64 && (Nat.beq z4 8 && Nat.beq m4 1)) && ((kEq k6 .u64 && (Nat.beq z6 8 && Nat.beq m6 1)) && (Nat.beq s.tm.length 182 && tmIs 4 s.tm [(85,.sc (.int .i64 0)),(3,.sc (.ptr 0 8 0 0 8)),(6,.sc (.ptr 1 8 0 0 8)),(7,.sc (.ptr 2 80 0 0 80)),(13,.sc (.ptr 3 8 0 0 8))]))))) ) with
 | false=>rw [hc] at h; simp at h
 | true =>
  rw [hc] at h
  simp only [cond_true,Option.some.injEq] at h
  subst h
  simp only [Bool.and_eq_true,beq_t] at hc
  obtain ⟨⟨c1,rfl⟩,⟨c2,rfl,rfl⟩,⟨c3,rfl,rfl⟩,⟨c4,rfl,rfl⟩,⟨c7,rfl,rfl⟩,c5,c6⟩:=hc
  have c1:=kEq_spec c1
  have c2:=kEq_spec c2
  have c3:=kEq_spec c3
  have c4:=kEq_spec c4
  have c7:=kEq_spec c7
  subst c1 c2 c3 c4 c7
  refine ⟨stX c5 c6 (fun p hp=>?_) ?_,by rw [hh]; rfl,fun i t hi=>?_⟩
  ·simp only [b6T,List.mem_cons,List.not_mem_nil,or_false] at hp
   rcases hp with rfl | rfl | rfl | rfl | rfl | rfl
   ·exact .inl (by simp)
   ·refine .inr ?_
    show avB _ (getA s.tm 2) _=true
    rw [h2]
    simp [avB,svB,segB,eqN_refl,kEq]
   ·exact .inl (by simp)
   ·exact .inl (by simp)
   ·exact .inl (by simp)
   ·exact .inl (by simp)
  ·rw [hh]
   simp [b6H,hpB,blkB,eqF_eta,kEq,tR,lf_tabE]
  ·rw [hh] at hi
   match i,hi with
   | 0,hi=>simp at hi
   | 1,hi=>simp at hi
   | 2,hi=>simp at hi
   | 3,hi=>simp at hi
   | n+4,hi=>simp at hi
theorem b4_step (x:WA) (k:Nat) (hk:k < 64) (n:Nat):∃ s1 r,am hE.env 5 b4B (b4S x k)=some (.normal,s1) ∧ StLeR r s1 (b4S x (k+1)) ∧ ∀ i,i < n → r i=some i:=by
 have ew:∀ c:Nat,c ≤ 16 → wr .i64 (((16+k:Nat):Int) - (c:Int))=((16+k - c:Nat):Int):=fun c hc=>by rw [wr_i64 (by omega) (by omega)]; omega
 have ix:∀ c:Nat,c ≤ 16 → ixW ((16+k:Nat):Int) (c:Int)=16+k - c:=fun c hc=>by unfold ixW; rw [ew c hc,Int.toNat_natCast]; omega
 have en:wr .i64 (((16+k:Nat):Int)+1)=((16+(k+1):Nat):Int):=by rw [wr_i64 (by omega) (by omega)]; omega
 refine roundB_toR (b4_round x.a ((16+k:Nat):Int) ((16+(k+1):Nat):Int) (wK x.w k) (wK x.w (k+1))) ?_
 have hD:updC (wK x.w k) (0+((16+k:Nat):Int).toNat * 1) (b4Val ((16+k:Nat):Int) (wK x.w k))=wK x.w (k+1):=by
  have i16:=ix 16 (by omega)
  have i15:=ix 15 (by omega)
  have i7:=ix 7 (by omega)
  have i2:=ix 2 (by omega)
  have e16:((16:Nat):Int)=16:=rfl
  unfold b4Val
  rw [show ixW ((16+k:Nat):Int) 16=16+k - 16 from i16,show ixW ((16+k:Nat):Int) 15=16+k - 15 from i15,show ixW ((16+k:Nat):Int) 7=16+k - 7 from i7,show ixW ((16+k:Nat):Int) 2=16+k - 2 from i2]
  rw [show 16+k - 16=k by omega,show 16+k - 15=k+1 by omega,show 16+k - 7=k+9 by omega,show 16+k - 2=k+14 by omega,Int.toNat_natCast,show 0+(16+k) * 1=16+k by omega]
  rfl
 rw [en,hD,b4_same x.a _ (eqF_refl _ _ _)]
 have c15:=ew 15 (by omega)
 have c2:=ew 2 (by omega)
 have c16:=ew 16 (by omega)
 have c7:=ew 7 (by omega)
 rw [show wr .i64 (((16+k:Nat):Int) - 15)=((16+k - 15:Nat):Int) from c15,show wr .i64 (((16+k:Nat):Int) - 2)=((16+k - 2:Nat):Int) from c2,
  show wr .i64 (((16+k:Nat):Int) - 16)=((16+k - 16:Nat):Int) from c16,show wr .i64 (((16+k:Nat):Int) - 7)=((16+k - 7:Nat):Int) from c7]
 rw [inR_lt (show 16+k - 15 < 80 by omega),inR_lt (show 16+k - 2 < 80 by omega),inR_lt (show 16+k - 16 < 80 by omega),inR_lt (show 16+k - 7 < 80 by omega),inR_lt (show 16+k < 80 by omega),decide_eq_true (show ((16+k:Nat):Int) < 80 by omega)]
 rfl
theorem b6_step (x:WA) (k:Nat) (hk:k < 80) (n:Nat):∃ s1 r,am hE.env 5 b6B (b6S x k)=some (.normal,s1) ∧ StLeR r s1 (b6S x (k+1)) ∧ ∀ i,i < n → r i=some i:=by
 have en:wr .i64 ((k:Int)+1)=((k+1:Nat):Int):=by rw [wr_i64 (by omega) (by omega)]; omega
 refine roundB_toR (b6_round x.a x.w (k:Int) ((k+1:Nat):Int) (tR x.t0 x.a.kf x.w k) (tR x.t0 x.a.kf x.w (k+1))) ?_
 have ek:(k:Int).toNat * 1=k:=by omega
 have ew:0+(k:Int).toNat * 1=k:=by omega
 rw [en,ew,ek]
 have:lf (rndL (tR x.t0 x.a.kf x.w k) (x.a.kf k) (x.w k))=tR x.t0 x.a.kf x.w (k+1):=rfl
 rw [this,b6_same x.a x.w _ (eqF_refl _ _ _),inR_lt hk,decide_eq_true (show (k:Int) < 80 by omega)]
 rfl
theorem l_b4:LRow prog f_sha512_block 4 b4F:=by
 refine LRow.famX (N:=5) (S:=b4S) (H2.env []) mix (fun _=>64) (loop_of b4_body) b4_ok (fun w0 own0=>accOK_none (fun id=>rfl) b4B) fun s x h _=>?_
 obtain ⟨q1,q2,q3⟩:=b4_rd h
 refine ⟨⟨some,q1.toR,fun _ _=>rfl⟩,fun k _=>by rw [q2]; exact Nat.le_refl _,by rw [q2]; exact Nat.le_refl _,fun i hi=>q3 i _ hi,fun k hk=>b4_step x k hk _,?_⟩
 obtain ⟨s1,r,h1,h2,h3⟩:=roundB_toR (n:=s.hp.length) (b4_stop x.a (wK x.w 64)) (by rw [b4E_same]; rfl)
 exact ⟨_,s1,r,h1,rfl,h2,h3⟩
theorem l_b6:LRow prog f_sha512_block 6 b6F:=by
 refine LRow.famX (N:=5) (S:=b6S) (H2.env []) mix (fun _=>80) (loop_of b6_body) b6_ok (fun w0 own0=>accOK_none (fun id=>rfl) b6B) fun s x h _=>?_
 obtain ⟨q1,q2,q3⟩:=b6_rd h
 refine ⟨⟨some,q1.toR,fun _ _=>rfl⟩,fun k _=>by rw [q2]; exact Nat.le_refl _,by rw [q2]; exact Nat.le_refl _,fun i hi=>q3 i _ hi,fun k hk=>b6_step x k hk _,?_⟩
 obtain ⟨s1,r,h1,h2,h3⟩:=roundB_toR (n:=s.hp.length) (b6_stop x.a x.w (tR x.t0 x.a.kf x.w 80)) (by rw [b6E_same]; rfl)
 exact ⟨_,s1,r,h1,rfl,h2,h3⟩
theorem c_block:fnChk prog (envL tt hs2 [] [(6,b6F),(4,b4F)]) f_sha512_block=true:=by kernel_rfl
theorem k_block (s:Nat → Int) (t:Bool) (b:Nat → Nat → Int) (kt:Bool) (kf:Nat → Int) :
  outP (apFunc (envL tt hs2 [] [(6,b6F),(4,b4F)]) [] 20 f_sha512_block [.agg [.ints .u64 8 s],.sc (.vints t .u8 1 128 b),.sc (.vptr kt [.ints .u64 80 kf])] [])=some (true,.agg [.ints .u64 8 (lf (blkL s b kf))]):=by kernel_rfl
def tBlock:TF:=fun args=>match args with
 | [.agg [.ints .u64 8 s],.sc (.vints _ .u8 1 n b),.sc (.vptr _ [.ints .u64 80 kf])]=>some (Nat.beq n 128,.agg [.ints .u64 8 (lf (blkL s b kf))])
 | _=>none
theorem r_block:TRow prog F_sha512_block tBlock:=by
 intro args r h
 unfold tBlock at h
 split at h
 case h_2=>simp at h
 rename_i s t n b kt kf
 simp only [Option.some.injEq,Prod.mk.injEq,beq_t] at h
 obtain ⟨rfl,rfl⟩:=h
 exact pure_of_outL H2 at_sha512_block ((LsOK.nil.cons l_b4).cons l_b6) c_block (N:=20) (gs:=[]) (k_block s t b kt kf)
end Go.Proofs.YtfpkegodflloiaaGreat
namespace Go.Proofs.YtfpkegodflloiaaGreat
open Go.Proofs.Tryz
open Go Go.AM
noncomputable def hs3:List (Nat × TF):=(F_sha512_block,tBlock) :: hs2
theorem H3:LibOK prog tt hs3 []:=H2.addT r_block
noncomputable def hs4:List (Nat × TF):=(F_sha512_Constants,iT (envP tt hs3 []) [] 5 f_sha512_Constants) :: hs3
theorem H4:LibOK prog tt hs4 []:=H3.iT at_sha512_Constants [] 5 (by kernel_rfl)
noncomputable def hs5:List (Nat × TF):=(F_sha512_begin,iT (envP tt hs4 []) [] 5 f_sha512_begin) :: hs4
theorem H5:LibOK prog tt hs5 []:=H4.iT at_sha512_begin [] 5 (by kernel_rfl)
noncomputable def hs6:List (Nat × TF):=(F_sha512_Hasher_made,iT (envP tt hs5 []) [] 5 f_sha512_Hasher_made) :: hs5
theorem H6:LibOK prog tt hs6 []:=H5.iT at_sha512_Hasher_made [] 5 (by kernel_rfl)
structure HA where
 g:Nat → Nat → Int
 kf:Nat → Int
 t:Bool
 tv:SV
 nn:Nat → Int
 rest:Heap
noncomputable abbrev wE:EnvP:=envP tt hs6 []
noncomputable def w0B:Code:=match f_sha512_Hasher_Write.body with | some c=>(match bodiesOf 0 c with | [.loop b]=>b | _=>.skip) | none=>.skip
def w0H (a:HA) (W:Nat → Int):Heap:=some (.ints .u8 64 1 a.g) :: some (.ints .u64 80 1 (fun _ d=>a.kf d)) :: some (.mix 11 1 (fun _=>[.ints .u64 8 W,.one a.tv,.ints .u64 1 a.nn,.one (.ptr 1 80 0 0 80)])) :: a.rest
def w0V (a:HA) (M:Nat) (f:Nat → Nat → Int) (W:Nat → Int):St:=⟨tmOf [(0,.sc (.ptr 2 11 0 0 11)),(1,.sc (.vints a.t .u8 1 M f))] 105 0,w0H a W⟩
theorem w0_round1 (a:HA) (c:Nat) (D:Nat → Nat → Int) (M M':Nat) (f f':Nat → Nat → Int) (W W':Nat → Int) (h:a.rest=[some (.ints .u8 1 c D)]) :
  roundB wE [(79,true)] 5 w0B (w0V a M f W) .normal (w0V a M' f' W') =
  some (ckL [decide ((M:Int) ≥ 128) == true,inB 128 M,inB 128 M] && stB (w0V a (M - 128) (fun j d=>f (128+j) d) (lf (blkL W (fun j d=>f (0+j) d) a.kf))) (w0V a M' f' W')):=by
 obtain ⟨g,kf,t,tv,nn,rest⟩:=a
 subst h
 kernel_rfl
theorem w0_round2 (a:HA) (c:Nat) (D:Nat → Nat → Int) (M M':Nat) (f f':Nat → Nat → Int) (W W':Nat → Int) (h:a.rest=[none,some (.ints .u8 1 c D)]) :
  roundB wE [(79,true)] 5 w0B (w0V a M f W) .normal (w0V a M' f' W') =
  some (ckL [decide ((M:Int) ≥ 128) == true,inB 128 M,inB 128 M] && stB (w0V a (M - 128) (fun j d=>f (128+j) d) (lf (blkL W (fun j d=>f (0+j) d) a.kf))) (w0V a M' f' W')):=by
 obtain ⟨g,kf,t,tv,nn,rest⟩:=a
 subst h
 kernel_rfl
theorem w0_stop1 (a:HA) (c:Nat) (D:Nat → Nat → Int) (M:Nat) (f:Nat → Nat → Int) (W:Nat → Int) (h:a.rest=[some (.ints .u8 1 c D)]) :
  roundB wE [(79,false)] 5 w0B (w0V a M f W) (.exit 0) (w0V a M f W) =
  some (ckL [decide ((M:Int) ≥ 128) == false] && stB (w0V a M f W) (w0V a M f W)):=by
 obtain ⟨g,kf,t,tv,nn,rest⟩:=a
 subst h
 kernel_rfl
theorem w0_stop2 (a:HA) (c:Nat) (D:Nat → Nat → Int) (M:Nat) (f:Nat → Nat → Int) (W:Nat → Int) (h:a.rest=[none,some (.ints .u8 1 c D)]) :
  roundB wE [(79,false)] 5 w0B (w0V a M f W) (.exit 0) (w0V a M f W) =
  some (ckL [decide ((M:Int) ≥ 128) == false] && stB (w0V a M f W) (w0V a M f W)):=by
 obtain ⟨g,kf,t,tv,nn,rest⟩:=a
 subst h
 kernel_rfl
structure HB where
 a:HA
 M:Nat
 f:Nat → Nat → Int
 W:Nat → Int
def restOK (l:Heap):Bool:=match l with
 | [some (.ints k z _ _)]=>kEq k .u8 && Nat.beq z 1
 | [none,some (.ints k z _ _)]=>kEq k .u8 && Nat.beq z 1
 | _=>false
def w0Ck (k:IntKind) (z:Nat) (k0:IntKind) (z0 m0:Nat) (k1:IntKind) (z1 m1 z2 m2:Nat) (k4:IntKind) (z4:Nat) (tv:SV) (k5:IntKind) (z5:Nat) (pv:SV) (rest:Heap) (tm:List AV):Bool :=
 (kEq k .u8 && Nat.beq z 1) && ((kEq k0 .u8 && (Nat.beq z0 64 && Nat.beq m0 1)) && ((kEq k1 .u64 && (Nat.beq z1 80 && Nat.beq m1 1)) && ((Nat.beq z2 11 && Nat.beq m2 1) && ((kEq k4 .u64 && Nat.beq z4 8) && (okV (rest.length+3) tv &&
  ((kEq k5 .u64 && Nat.beq z5 1) && (svB (rest.length+3) pv (.ptr 1 80 0 0 80) && (restOK rest && (Nat.beq tm.length 105 && tmIs (rest.length+3) tm [(0,.sc (.ptr 2 11 0 0 11))])))))))))
def w0Rd (s:St):Option HB:=match getA s.tm 1,s.hp with
 | .sc (.vints t k z m f),some (.ints k0 z0 m0 g) :: some (.ints k1 z1 m1 kf) :: some (.mix z2 m2 row) :: rest=>(match row 0 with
  | [.ints k4 z4 W,.one tv,.ints k5 z5 nf,.one pv]=>bif w0Ck k z k0 z0 m0 k1 z1 m1 z2 m2 k4 z4 tv k5 z5 pv rest s.tm then some ⟨⟨g,kf 0,t,tv,nf,rest⟩,m,f,lf (tabL W 8 0)⟩ else none
  | _=>none)
 | _,_=>none
def w0S_sha2 (x:HB) (k:Nat):St:=w0V x.a (x.M - 128 * k) (fun j d=>x.f (128 * k+j) d) (hWk x.a.kf x.W (fun j=>x.f j 0) k)
def w0F:LF:=famX w0Rd (fun _=>true) (fun _=>.normal) (fun x=>w0S_sha2 x (x.M / 128))
theorem w0_body:f_sha512_Hasher_Write.body.map (bodiesOf 0)=some [.loop w0B]:=by kernel_rfl
theorem w0_ok:codeOK prog wE.env.isW w0B=true:=by kernel_rfl
theorem restOK_t {l:Heap} (h:restOK l=true):(∃ c D,l=[some (.ints .u8 1 c D)]) ∨ ∃ c D,l=[none,some (.ints .u8 1 c D)]:=by
 unfold restOK at h
 split at h
 ·simp only [Bool.and_eq_true,beq_t] at h
  obtain ⟨h1,rfl⟩:=h
  rw [kEq_spec h1]
  exact .inl ⟨_,_,rfl⟩
 ·simp only [Bool.and_eq_true,beq_t] at h
  obtain ⟨h1,rfl⟩:=h
  rw [kEq_spec h1]
  exact .inr ⟨_,_,rfl⟩
 ·simp at h
theorem w0_self {a:HA} (M:Nat) (f:Nat → Nat → Int) (W:Nat → Int) (hr:restOK a.rest=true) (ht:okV (a.rest.length+3) a.tv=true):stB (w0V a M f W) (w0V a M f W)=true:=by
 refine stB_self ?_ ?_
 ·obtain ⟨g,kf,t,tv,nn,rest⟩:=a
  rcases restOK_t hr with ⟨c,D,h⟩ | ⟨c,D,h⟩
  ·simp only at h; subst h; kernel_rfl
  ·simp only at h; subst h; kernel_rfl
 ·obtain ⟨g,kf,t,tv,nn,rest⟩:=a
  rcases restOK_t hr with ⟨c,D,h⟩ | ⟨c,D,h⟩
  ·simp only at h ht; subst h
   simp only [List.length_cons,List.length_nil] at ht
   simp [w0H,okH,okB,okG,okV,lenS,ht]
  ·simp only at h ht; subst h
   simp only [List.length_cons,List.length_nil] at ht
   simp [w0H,okH,okB,okG,okV,lenS,ht]
theorem w0_rd {s:St} {x:HB} (h:w0Rd s=some x):StLe s (w0S_sha2 x 0) ∧ s.hp.length=x.a.rest.length+3 ∧ restOK x.a.rest=true ∧ okV (x.a.rest.length+3) x.a.tv=true ∧ ∀ (i:Nat) (f:Nat → Int),s.hp[i]?=some none → (w0H x.a f)[i]?=some none:=by
 unfold w0Rd at h
 split at h
 case h_2=>simp at h
 rename_i t k z m f k0 z0 m0 g k1 z1 m1 kf z2 m2 row rest h1 hh
 split at h
 case h_2=>simp at h
 rename_i k4 z4 W tv k5 z5 nf pv hrow
 cases hc:w0Ck k z k0 z0 m0 k1 z1 m1 z2 m2 k4 z4 tv k5 z5 pv rest s.tm with
 | false=>rw [hc] at h; simp at h
 | true =>
  rw [hc] at h
  simp only [cond_true,Option.some.injEq] at h
  subst h
  unfold w0Ck at hc
  simp only [Bool.and_eq_true,beq_t] at hc
  obtain ⟨⟨c1,rfl⟩,⟨c2,rfl,rfl⟩,⟨c3,rfl,rfl⟩,⟨rfl,rfl⟩,⟨c4,rfl⟩,c5,⟨c6,rfl⟩,c7,c8,c9,c10⟩:=hc
  have c1:=kEq_spec c1
  have c2:=kEq_spec c2
  have c3:=kEq_spec c3
  have c4:=kEq_spec c4
  have c6:=kEq_spec c6
  subst c1 c2 c3 c4 c6
  have hrest:okH (rest.length+3) rest=true:=by
   rcases restOK_t c8 with ⟨c,D,rfl⟩ | ⟨c,D,rfl⟩ <;> simp [okH,okB]
  refine ⟨stX c9 (by simpa [w0H] using c10) (fun p hp=>?_) ?_,by rw [hh]; rfl,c8,c5,fun i t hi=>?_⟩
  ·simp only [List.mem_cons,List.not_mem_nil,or_false] at hp
   rcases hp with rfl | rfl
   ·exact .inl (by simp)
   ·refine .inr ?_
    show avB _ (getA s.tm 1) _=true
    rw [h1]
    simp [avB,svB,kEq,eqF_refl]
  ·rw [hh]
   simp only [w0H,hpB,List.length_cons,blkB,nbeq_refl,kEq_refl,Bool.and_self,Bool.true_and,eqF_refl,eqF_eta,hpB_self rest hrest,Bool.and_true]
   have hW:eqN 8 W (lf (tabL W 8 0))=true:=eqN_of fun d hd=>by
    have:=lf_tab W 8 0 d hd
    rw [Nat.zero_add] at this
    exact this.symm
   simp [hrow,hW,lenS,segB,kEq_refl,eqN_refl,okV_self tv c5,c7,hWk]
  ·rw [hh] at hi
   match i,hi with
   | 0,hi=>simp at hi
   | 1,hi=>simp at hi
   | 2,hi=>simp at hi
   | n+3,hi=>simpa [w0H] using hi
theorem w0_step (x:HB) (hr:restOK x.a.rest=true) (ht:okV (x.a.rest.length+3) x.a.tv=true) (k:Nat) (hk:k < x.M / 128) (n:Nat):∃ s1 r,am wE.env 5 w0B (w0S_sha2 x k)=some (.normal,s1) ∧ StLeR r s1 (w0S_sha2 x (k+1)) ∧ ∀ i,i < n → r i=some i:=by
 have hM:128 ≤ x.M - 128 * k:=by omega
 have h1:w0V x.a (x.M - 128 * k - 128) (fun j d=>(fun j d=>x.f (128 * k+j) d) (128+j) d) (lf (blkL (hWk x.a.kf x.W (fun j=>x.f j 0) k) (fun j d=>(fun j d=>x.f (128 * k+j) d) (0+j) d) x.a.kf))=w0S_sha2 x (k+1):=by
  unfold w0S_sha2
  have e1:x.M - 128 * k - 128=x.M - 128 * (k+1):=by omega
  have e2:(fun j d=>(fun j d=>x.f (128 * k+j) d) (128+j) d)=(fun j d=>x.f (128 * (k+1)+j) d):=by
   funext j d
   show x.f (128 * k+(128+j)) d=_
   rw [show 128 * k+(128+j)=128 * (k+1)+j by omega]
  have e3:lf (blkL (hWk x.a.kf x.W (fun j=>x.f j 0) k) (fun j d=>(fun j d=>x.f (128 * k+j) d) (0+j) d) x.a.kf)=hWk x.a.kf x.W (fun j=>x.f j 0) (k+1):=by
   refine congrArg lf (blkL_congr fun j hj=>?_)
   show x.f (128 * k+(0+j)) 0=x.f (128 * k+j) 0
   rw [Nat.zero_add]
  rw [e1,e2,e3]
 have hck:(ckL [decide (((x.M - 128 * k:Nat):Int) ≥ 128) == true,inB 128 ((x.M - 128 * k:Nat):Int),inB 128 ((x.M - 128 * k:Nat):Int)] && stB (w0S_sha2 x (k+1)) (w0S_sha2 x (k+1)))=true:=by
  have h2:stB (w0S_sha2 x (k+1)) (w0S_sha2 x (k+1))=true:=w0_self _ _ _ hr ht
  have h3:inB 128 ((x.M - 128 * k:Nat):Int)=true:=by simp [inB]; omega
  rw [h2,h3,decide_eq_true (show ((x.M - 128 * k:Nat):Int) ≥ 128 by omega)]
  rfl
 rcases restOK_t hr with ⟨c,D,h⟩ | ⟨c,D,h⟩
 ·have:=w0_round1 x.a c D (x.M - 128 * k) (x.M - 128 * (k+1)) (fun j d=>x.f (128 * k+j) d) (fun j d=>x.f (128 * (k+1)+j) d) (hWk x.a.kf x.W (fun j=>x.f j 0) k) (hWk x.a.kf x.W (fun j=>x.f j 0) (k+1)) h
  rw [h1] at this
  exact roundB_toR this hck
 ·have:=w0_round2 x.a c D (x.M - 128 * k) (x.M - 128 * (k+1)) (fun j d=>x.f (128 * k+j) d) (fun j d=>x.f (128 * (k+1)+j) d) (hWk x.a.kf x.W (fun j=>x.f j 0) k) (hWk x.a.kf x.W (fun j=>x.f j 0) (k+1)) h
  rw [h1] at this
  exact roundB_toR this hck
theorem l_w0:LRow prog f_sha512_Hasher_Write 0 w0F:=by
 refine LRow.famX (N:=5) (S:=w0S_sha2) (H6.env []) mix (fun x=>x.M / 128) (loop_of w0_body) w0_ok (fun w0 own0=>accOK_none (fun id=>rfl) w0B) fun s x h _=>?_
 obtain ⟨q1,q2,q3,q4,q5⟩:=w0_rd h
 have hl:∀ k,(w0S_sha2 x k).hp.length=x.a.rest.length+3:=fun k=>rfl
 refine ⟨⟨some,q1.toR,fun _ _=>rfl⟩,fun k _=>by rw [q2,hl]; exact Nat.le_refl _,by rw [q2,hl]; exact Nat.le_refl _,fun i hi=>q5 i _ hi,fun k hk=>w0_step x q3 q4 k hk _,?_⟩
 have hck:(ckL [decide (((x.M - 128 * (x.M / 128):Nat):Int) ≥ 128) == false] && stB (w0S_sha2 x (x.M / 128)) (w0S_sha2 x (x.M / 128)))=true:=by
  have h2:stB (w0S_sha2 x (x.M / 128)) (w0S_sha2 x (x.M / 128))=true:=w0_self _ _ _ q3 q4
  rw [h2,decide_eq_false (show ¬ ((x.M - 128 * (x.M / 128):Nat):Int) ≥ 128 by omega)]
  rfl
 rcases restOK_t q3 with ⟨c,D,hh⟩ | ⟨c,D,hh⟩
 ·obtain ⟨s1,r,h1,h2,h3⟩:=roundB_toR (n:=s.hp.length) (w0_stop1 x.a c D _ _ _ hh) hck
  exact ⟨_,s1,r,h1,rfl,h2,h3⟩
 ·obtain ⟨s1,r,h1,h2,h3⟩:=roundB_toR (n:=s.hp.length) (w0_stop2 x.a c D _ _ _ hh) hck
  exact ⟨_,s1,r,h1,rfl,h2,h3⟩
end Go.Proofs.YtfpkegodflloiaaGreat
namespace Go.Proofs.YtfpkegodflloiaaGreat
open Go.Proofs.Tryz
open Go Go.AM
structure HC where
 g:Nat → Nat → Int
 kf:Nat → Int
 W:Nat → Int
 tl:Nat
 nn:Nat → Int
 D:Nat → Nat → Int
 t:Bool
 m:Nat
 f:Nat → Nat → Int
noncomputable abbrev xE:EnvP:=envL tt hs6 [] [(0,w0F)]
def w1H (a:HC):Heap:=[some (.ints .u8 64 1 a.g),some (.ints .u64 80 1 (fun _ d=>a.kf d)),some (.mix 11 1 (fun _=>[.ints .u64 8 a.W,.one (.slice 3 1 0 0 1 a.tl),.ints .u64 1 a.nn,.one (.ptr 1 80 0 0 80)])),some (.ints .u8 1 a.tl a.D)]
def w2H (a:HC) (W:Nat → Int) (nn:Nat → Int) (T:Nat) (D:Nat → Nat → Int):Heap:=[some (.ints .u8 64 1 a.g),some (.ints .u64 80 1 (fun _ d=>a.kf d)),some (.mix 11 1 (fun _=>[.ints .u64 8 W,.one (.slice 4 1 0 0 1 T),.ints .u64 1 nn,.one (.ptr 1 80 0 0 80)])),none,some (.ints .u8 1 T D)]
def w1A (a:HC):List AV:=[.sc (.ptr 2 11 0 0 11),.sc (.vints a.t .u8 1 a.m a.f)]
theorem c_write:fnChk prog xE f_sha512_Hasher_Write=true:=by kernel_rfl
theorem k_write1 (a:HC) (W nn:Nat → Int) (T:Nat) (D:Nat → Nat → Int) :
  effR xE [(23,false)] 5 f_sha512_Hasher_Write (w1A a) (w1H a) [4] (.tup []) (w2H a W nn T D) =
  some (ckL [decide ((a.tl:Int) > 0) == false,fits (a.tl+(a.m - 128 * (a.m / 128))) 1 && true] &&
   (hpR (rnm 4 [4]) 5 (w2H a (hWk a.kf (lf (tabL a.W 8 0)) (fun j=>a.f j 0) (a.m / 128)) (fun _=>wr .u64 (a.nn 0+wr .u64 a.m)) (a.tl+(a.m - 128 * (a.m / 128)))
    (fun r d=>bif Nat.ble (r+1) a.tl then a.D (0+r) (0+d) else a.f (128 * (a.m / 128)+(r - a.tl)) d)) (w2H a W nn T D) 0)):=by kernel_rfl
def kMin (a:HC):Int:=if (a.m:Int) < wr .i64 (128 - (a.tl:Int)) then (a.m:Int) else wr .i64 (128 - (a.tl:Int))
theorem k_write2 (a:HC) (W nn:Nat → Int) (T:Nat) (D:Nat → Nat → Int) :
  effR xE [(23,true),(52,true)] 5 f_sha512_Hasher_Write (w1A a) (w1H a) [4] (.tup []) (w2H a W nn T D) =
  some (ckL [decide ((a.tl:Int) > 0) == true,inB (kMin a) a.m,fits (a.tl+(kMin a).toNat) 1 && true,inB (kMin a) a.m,decide (((a.tl+(kMin a).toNat:Nat):Int) < 128) == true] &&
   (hpR (rnm 4 [4]) 5 (w2H a a.W (fun _=>wr .u64 (a.nn 0+wr .u64 a.m)) (a.tl+(kMin a).toNat)
    (fun r d=>bif Nat.ble (r+1) a.tl then a.D (0+r) (0+d) else a.f (0+(r - a.tl)) d)) (w2H a W nn T D) 0)):=by kernel_rfl
def kM (a:HC):Nat:=a.m - (kMin a).toNat
def kD (a:HC):Nat → Nat → Int:=fun r d=>bif Nat.ble (r+1) a.tl then a.D (0+r) (0+d) else a.f (0+(r - a.tl)) d
theorem k_write3 (a:HC) (W nn:Nat → Int) (T:Nat) (D:Nat → Nat → Int) :
  effR xE [(23,true),(52,false)] 5 f_sha512_Hasher_Write (w1A a) (w1H a) [5] (.tup []) (w2H a W nn T D) =
  some (ckL [decide ((a.tl:Int) > 0) == true,inB (kMin a) a.m,fits (a.tl+(kMin a).toNat) 1 && true,inB (kMin a) a.m,decide (((a.tl+(kMin a).toNat:Nat):Int) < 128) == false,Nat.beq (a.tl+(kMin a).toNat) 128,inB 0 ((a.tl+(kMin a).toNat:Nat):Int),fits (0+(kM a - 128 * (kM a / 128))) 1 && true] &&
   (hpR (rnm 4 [4]) 5 (w2H a (hWk a.kf (lf (tabL (lf (blkL a.W (fun j d=>kD a (0+j) (0+d)) a.kf)) 8 0)) (fun j=>a.f ((kMin a).toNat+j) 0) (kM a / 128)) (fun _=>wr .u64 (a.nn 0+wr .u64 a.m)) (0+(kM a - 128 * (kM a / 128)))
    (fun r d=>a.f ((kMin a).toNat+(128 * (kM a / 128)+(r - 0))) d)) (w2H a W nn T D) 0)):=by kernel_rfl
theorem w2_le (a:HC) {W1 W nn1 nn:Nat → Int} {T1 T:Nat} {D1 D:Nat → Nat → Int} (h1:∀ d,d < 8 → W1 d=W d) (h2:nn1 0=nn 0) (h3:T1=T) (h4:∀ r,r < T → D1 r 0=D r 0) :
  hpR (rnm 4 [4]) 5 (w2H a W1 nn1 T1 D1) (w2H a W nn T D) 0=true:=by
 subst h3
 have e1:eqN 8 W1 W=true:=eqN_of h1
 have e2:eqF T1 1 D1 D=true:=eqF_of fun r hr d hd=>by
  obtain rfl:d=0:=by omega
  exact h4 r hr
 have e3:eqN 1 nn1 nn=true:=eqN_of fun d hd=>by
  obtain rfl:d=0:=by omega
  exact h2
 simp [w2H,hpR,rnm,blkR,segR,svR,rIs,kEq_refl,eqF_refl,lenS,e1,e2,e3]
def wC (a:HC):Nat → Int:=catF a.tl (fun j=>a.D j 0) (fun j=>a.f j 0)
def wW (a:HC):Nat → Int:=hWk a.kf (lf (tabL a.W 8 0)) (wC a) ((a.tl+a.m) / 128)
def wN (a:HC):Nat → Int:=fun _=>wr .u64 (a.nn 0+wr .u64 a.m)
def wD (a:HC):Nat → Nat → Int:=fun j _=>wC a (128 * ((a.tl+a.m) / 128)+j)
theorem fits_le {n m:Nat} (h:fits n 1=true) (hm:m ≤ n):fits m 1=true:=by
 simp only [fits,decide_eq_true_eq] at h ⊢
 omega
theorem e_write (a:HC) (ht:a.tl < 128) (hf:fits (a.tl+a.m) 1=true):Eff prog F_sha512_Hasher_Write (w1A a) (w1H a) (.tup []) (w2H a (wW a) (wN a) ((a.tl+a.m) % 128) (wD a)):=by
 have hfb:a.tl+a.m ≤ 2 ^ 40:=by simp only [fits,decide_eq_true_eq] at hf; omega
 by_cases h0:a.tl=0
 ·refine effR_spec H6 at_sha512_Hasher_Write (LsOK.nil.cons l_w0) c_write (k_write1 a _ _ _ _) ?_ (by simp [w1H,w2H])
  have hC:∀ j,wC a j=a.f j 0:=fun j=>by unfold wC; rw [catF_ge (by omega),h0]; rfl
  have hh:=w2_le a (W1:=hWk a.kf (lf (tabL a.W 8 0)) (fun j=>a.f j 0) (a.m / 128)) (W:=wW a) (nn1:=fun _=>wr .u64 (a.nn 0+wr .u64 a.m)) (nn:=wN a) (T1:=a.tl+(a.m - 128 * (a.m / 128))) (T:=(a.tl+a.m) % 128)
   (D1:=fun r d=>bif Nat.ble (r+1) a.tl then a.D (0+r) (0+d) else a.f (128 * (a.m / 128)+(r - a.tl)) d) (D:=wD a) (fun d hd=>by
    unfold wW
    rw [h0,Nat.zero_add]
    exact congrFun (hWk_congr _ fun j hj=>(hC j).symm) d) rfl (by omega) (fun r hr=>by
    unfold wD
    rw [hC,h0]
    simp only [Nat.zero_add]
    rfl)
  rw [hh,fits_le hf (by omega),decide_eq_false (by omega)]
  rfl
 ·have hk:wr .i64 (128 - (a.tl:Int))=128 - (a.tl:Int):=wr_i64 (by omega) (by omega)
  by_cases h1:a.tl+a.m < 128
  ·refine effR_spec H6 at_sha512_Hasher_Write (LsOK.nil.cons l_w0) c_write (k_write2 a _ _ _ _) ?_ (by simp [w1H,w2H])
   have hK:kMin a=(a.m:Int):=by unfold kMin; rw [hk,if_pos (by omega)]
   have hK2:(kMin a).toNat=a.m:=by rw [hK]; omega
   have hh:=w2_le a (W1:=a.W) (W:=wW a) (nn1:=fun _=>wr .u64 (a.nn 0+wr .u64 a.m)) (nn:=wN a) (T1:=a.tl+(kMin a).toNat) (T:=(a.tl+a.m) % 128)
    (D1:=fun r d=>bif Nat.ble (r+1) a.tl then a.D (0+r) (0+d) else a.f (0+(r - a.tl)) d) (D:=wD a) (fun d hd=>by
     unfold wW
     rw [Nat.div_eq_of_lt h1]
     have:=lf_tab a.W 8 0 d hd
     rw [Nat.zero_add] at this
     exact this.symm) rfl (by omega) (fun r hr=>by
     unfold wD wC catF
     rw [Nat.div_eq_of_lt h1,Nat.mul_zero,Nat.zero_add,Nat.zero_add,Nat.zero_add])
   rw [hh,hK2,hK,fits_le hf (Nat.le_refl _),decide_eq_true (show (a.tl:Int) > 0 by omega),decide_eq_true (show ((a.tl+a.m:Nat):Int) < 128 by omega),show inB (a.m:Int) (a.m:Int)=true by simp [inB]]
   rfl
  ·refine effR_spec H6 at_sha512_Hasher_Write (LsOK.nil.cons l_w0) c_write (k_write3 a _ _ _ _) ?_ (by simp [w1H,w2H])
   have hK:kMin a=((128 - a.tl:Nat):Int):=by
    unfold kMin
    rw [hk]
    split <;> omega
   have hK2:(kMin a).toNat=128 - a.tl:=by rw [hK]; omega
   have hkM:kM a=a.m - (128 - a.tl):=by unfold kM; rw [hK2]
   have hq:(a.tl+a.m) / 128=kM a / 128+1:=by rw [hkM]; omega
   have hCg:∀ j,a.f ((kMin a).toNat+j) 0=wC a (128+j):=fun j=>by
    unfold wC
    rw [catF_ge (by omega),hK2]
    show a.f _ 0=a.f _ 0
    rw [show 128 - a.tl+j=128+j - a.tl by omega]
   have hh:=w2_le a (W1:=hWk a.kf (lf (tabL (lf (blkL a.W (fun j d=>kD a (0+j) (0+d)) a.kf)) 8 0)) (fun j=>a.f ((kMin a).toNat+j) 0) (kM a / 128)) (W:=wW a) (nn1:=fun _=>wr .u64 (a.nn 0+wr .u64 a.m)) (nn:=wN a) (T1:=0+(kM a - 128 * (kM a / 128))) (T:=(a.tl+a.m) % 128)
    (D1:=fun r d=>a.f ((kMin a).toNat+(128 * (kM a / 128)+(r - 0))) d) (D:=wD a) (fun d hd=>by
     unfold wW
     rw [hq,hWk_shift,lf_blk_tab,blkL_tab]
     have e1:blkL a.W (fun j d=>kD a (0+j) (0+d)) a.kf=blkL a.W (fun j _=>wC a (128 * 0+j)) a.kf:=blkL_congr fun j hj=>by
      show kD a (0+j) (0+0)=wC a (128 * 0+j)
      unfold kD wC catF
      simp only [Nat.zero_add,Nat.mul_zero]
     rw [e1]
     exact congrFun (hWk_congr _ fun j hj=>hCg j) d) rfl (by rw [hkM]; omega) (fun r hr=>by
     unfold wD
     rw [hq]
     show a.f ((kMin a).toNat+(128 * (kM a / 128)+r)) 0=_
     rw [hCg,show 128+(128 * (kM a / 128)+r)=128 * (kM a / 128+1)+r by omega])
   have e3:a.tl+(128 - a.tl)=128:=by omega
   rw [hh,hK2,hK,e3,fits_le hf (show 0+(kM a - 128 * (kM a / 128)) ≤ a.tl+a.m by rw [hkM]; omega),fits_le hf (show 128 ≤ a.tl+a.m by omega),decide_eq_true (show (a.tl:Int) > 0 by omega),
    show inB ((128 - a.tl:Nat):Int) (a.m:Int)=true by simp [inB]; omega]
   rfl
def wWck (pv:SV) (k:IntKind) (z m:Nat) (k0:IntKind) (z0 m0:Nat) (k1:IntKind) (z1 m1 z2 m2:Nat) (k3:IntKind) (z3 m3:Nat) (k4:IntKind) (z4:Nat) (tv:SV) (k5:IntKind) (z5:Nat) (kv:SV):Bool :=
 (svR (rnm 4 []) 4 pv (.ptr 2 11 0 0 11) && (svR (rnm 4 []) 4 tv (.slice 3 1 0 0 1 m3) && svR (rnm 4 []) 4 kv (.ptr 1 80 0 0 80))) && ((kEq k .u8 && Nat.beq z 1) && ((kEq k0 .u8 && (Nat.beq z0 64 && Nat.beq m0 1)) && ((kEq k1 .u64 && (Nat.beq z1 80 && Nat.beq m1 1)) && ((Nat.beq z2 11 && Nat.beq m2 1) &&
  ((kEq k3 .u8 && Nat.beq z3 1) && ((kEq k4 .u64 && Nat.beq z4 8) && ((kEq k5 .u64 && Nat.beq z5 1) && (Nat.ble (m3+1) 128 && fits (m3+m) 1))))))))
def wWrite:WF:=fun args hp=>match args,hp with
 | [.sc pv,.sc (.vints t k z m f)],[some (.ints k0 z0 m0 g),some (.ints k1 z1 m1 kf),some (.mix z2 m2 row),some (.ints k3 z3 m3 D)]=>(match row 0 with
  | [.ints k4 z4 W,.one tv,.ints k5 z5 nf,.one kv]=>some (wWck pv k z m k0 z0 m0 k1 z1 m1 z2 m2 k3 z3 m3 k4 z4 tv k5 z5 kv,
   (.tup [],w2H ⟨g,kf 0,W,m3,nf,D,t,m,f⟩ (wW ⟨g,kf 0,W,m3,nf,D,t,m,f⟩) (wN ⟨g,kf 0,W,m3,nf,D,t,m,f⟩) ((m3+m) % 128) (wD ⟨g,kf 0,W,m3,nf,D,t,m,f⟩)))
  | _=>none)
 | _,_=>none
theorem r_write:WRow prog F_sha512_Hasher_Write wWrite:=by
 intro args hp r hp' h
 unfold wWrite at h
 split at h
 case h_2=>simp at h
 rename_i pv t k z m f k0 z0 m0 g k1 z1 m1 kf z2 m2 row k3 z3 m3 D
 split at h
 case h_2=>simp at h
 rename_i k4 z4 W tv k5 z5 nf kv hrow
 simp only [Option.some.injEq,Prod.mk.injEq] at h
 obtain ⟨hc,rfl,rfl⟩:=h
 unfold wWck at hc
 simp only [Bool.and_eq_true,beq_t,ble_t] at hc
 obtain ⟨⟨p1,p2,p3⟩,⟨c1,rfl⟩,⟨c2,rfl,rfl⟩,⟨c3,rfl,rfl⟩,⟨rfl,rfl⟩,⟨c4,rfl⟩,⟨c5,rfl⟩,⟨c6,rfl⟩,q1,q2⟩:=hc
 have c1:=kEq_spec c1
 have c2:=kEq_spec c2
 have c3:=kEq_spec c3
 have c4:=kEq_spec c4
 have c5:=kEq_spec c5
 have c6:=kEq_spec c6
 subst c1 c2 c3 c4 c5 c6
 refine ⟨eff_from (e_write ⟨g,kf 0,W,m3,nf,D,t,m,f⟩ (by show m3 < 128; omega) q2) ?_ ?_ ?_ ?_,fun id hid=>?_⟩
 ·simp [w1A,w1H,tmR,avR,p1,svR,kEq_refl,eqF_refl]
 ·simp [w1H,hpR,rnm,blkR,hrow,segR,p2,p3,kEq_refl,eqF_refl,eqN_refl,lenS,eqF_eta]
 ·rfl
 ·simp [w1H]
 ·match id,hid with
  | 0,hid=>simp at hid
  | 1,hid=>simp at hid
  | 2,hid=>simp at hid
  | 3,hid=>simp at hid
  | n+4,hid=>simp at hid
end Go.Proofs.YtfpkegodflloiaaGreat
namespace Go.Proofs.YtfpkegodflloiaaGreat
open Go.Proofs.Tryz
open Go Go.AM
def pN (n:Int):Int:=wr .u64 (1+(wr .u64 (239 - n.tmod 128)).tmod 128)
def pB (n:Int) (i:Int):Int:=wr .u8 (ishr .u64 (wr .u64 (n * 8)) i)
def pushF (L:Nat) (F:Nat → Nat → Int) (b:Int):Nat → Nat → Int:=fun r d=>bif Nat.ble (r+1) L then F (0+r) (0+d) else svInt (cellAt (List.getD [[.ints .u8 1 (fun _=>b)]] (0+(r - L)) []) (0+d))
def pf1 (N:Nat):Nat → Nat → Int:=fun r d=>bif Nat.ble (r+1) N then (bif Nat.beq (0+r) 0 && Nat.beq (0+d) 0 then 128 else 0) else 0
def pFx (n:Int) (N:Nat):Nat → Nat → Int:=pushF (N+8+7) (pushF (N+8+6) (pushF (N+8+5) (pushF (N+8+4) (pushF (N+8+3) (pushF (N+8+2) (pushF (N+8+1) (pushF (N+8) (pf1 N) (pB n 56)) (pB n 48)) (pB n 40)) (pB n 32)) (pB n 24)) (pB n 16)) (pB n 8)) (pB n 0)
theorem c_pad:fnChk prog (envP tt hs6 []) f_sha512_pad=true:=by kernel_rfl
theorem k_pad (n:Int):(outP (apFunc (envP tt hs6 []) [] 20 f_sha512_pad [.sc (.int .u64 n)] []))=some (ckL [inB (pN n) 256 && true,inR 0 (pN n).toNat,fits ((pN n).toNat+8) 1 && true,fits ((pN n).toNat+8+1) 1 && true,fits ((pN n).toNat+8+2) 1 && true,fits ((pN n).toNat+8+3) 1 && true,fits ((pN n).toNat+8+4) 1 && true,fits ((pN n).toNat+8+5) 1 && true,fits ((pN n).toNat+8+6) 1 && true,fits ((pN n).toNat+8+7) 1 && true,fits ((pN n).toNat+8+8) 1 && true],
  .sc (.vints true .u8 1 ((pN n).toNat+8+8) (fun j d=>pFx n (pN n).toNat (0+j) (0+d)))):=by kernel_rfl
theorem pushF_lt {L:Nat} {F:Nat → Nat → Int} {b:Int} {r:Nat} (h:r < L):pushF L F b r 0=F r 0:=by
 unfold pushF
 rw [show Nat.ble (r+1) L=true from Nat.ble_eq_true_of_le h,Nat.zero_add]; rfl
theorem pushF_at {L:Nat} {F:Nat → Nat → Int} {b:Int} {r:Nat} (h:r=L):pushF L F b r 0=b:=by
 subst h
 unfold pushF
 have:Nat.ble (r+1) r=false:=by
  cases hb:Nat.ble (r+1) r with
  | false=>rfl
  | true=>have:=Nat.le_of_ble_eq_true hb; omega
 rw [this,Nat.sub_self]; rfl
def tPad:TF:=fun args=>match args with
 | [.sc (.int .u64 n)]=>some (decide (0 ≤ n) && decide (n < 9223372036854775808),.sc (.vints true .u8 1 (padL n.toNat) (fun j _=>padF n.toNat j)))
 | _=>none
theorem r_pad:TRow prog F_sha512_pad tPad:=by
 intro args r h
 unfold tPad at h
 split at h
 case h_2=>simp at h
 rename_i n
 simp only [Option.some.injEq,Prod.mk.injEq,Bool.and_eq_true,decide_eq_true_eq] at h
 obtain ⟨⟨h1,h2⟩,rfl⟩:=h
 have e1:n.tmod 128=n % 128:=Int.tmod_eq_emod_of_nonneg h1
 have e2:wr .u64 (239 - n % 128)=239 - n % 128:=by rw [wr64]; omega
 have e3:(239 - n % 128).tmod 128=(239 - n % 128) % 128:=Int.tmod_eq_emod_of_nonneg (by omega)
 have eN:pN n=1+(239 - n % 128) % 128:=by unfold pN; rw [e1,e2,e3,wr64]; omega
 have hL:padL n.toNat=(pN n).toNat+8+8:=by unfold padL; rw [eN]; omega
 have hlo:1 ≤ (pN n).toNat ∧ (pN n).toNat ≤ 128 ∧ pN n ≤ 256 ∧ 0 ≤ pN n:=by rw [eN]; omega
 have hb:∀ x,x ≤ 144 → fits x 1=true:=fun x hx=>by simp only [fits,decide_eq_true_eq]; omega
 have hp:=pure_of_out H6 at_sha512_pad c_pad (N:=20) (gs:=[]) (args:=[.sc (.int .u64 n)]) (r:=.sc (.vints true .u8 1 ((pN n).toNat+8+8) (fun j d=>pFx n (pN n).toNat (0+j) (0+d)))) (by
  rw [k_pad,hb _ (by omega),hb _ (by omega),hb _ (by omega),hb _ (by omega),hb _ (by omega),hb _ (by omega),hb _ (by omega),hb _ (by omega),hb _ (by omega),show inB (pN n) 256=true by simp [inB]; omega,show inR 0 (pN n).toNat=true by simp [inR]; omega]
  rfl)
 refine pure_ints hp hL.symm fun r hr d hd=>?_
 obtain rfl:d=0:=by omega
 rw [hL] at hr
 have ebyte:∀ i:Nat,i < 8 → r=(pN n).toNat+8+i → padF n.toNat r=pB n (8 * (7 - (i:Int))):=fun i hi hri=>by
  unfold padF pB
  rw [if_neg (by omega),if_neg (by omega),hL,Int.toNat_of_nonneg h1,show (((pN n).toNat+8+8 - 1 - r:Nat):Int)=7 - (i:Int) by omega]
 show pFx n (pN n).toNat (0+r) 0=_
 rw [Nat.zero_add]
 unfold pFx
 by_cases h7:r=(pN n).toNat+8+7
 ·rw [pushF_at h7,ebyte 7 (by omega) h7]; rfl
 rw [pushF_lt (by omega)]
 by_cases h6:r=(pN n).toNat+8+6
 ·rw [pushF_at h6,ebyte 6 (by omega) h6]; rfl
 rw [pushF_lt (by omega)]
 by_cases h5:r=(pN n).toNat+8+5
 ·rw [pushF_at h5,ebyte 5 (by omega) h5]; rfl
 rw [pushF_lt (by omega)]
 by_cases h4:r=(pN n).toNat+8+4
 ·rw [pushF_at h4,ebyte 4 (by omega) h4]; rfl
 rw [pushF_lt (by omega)]
 by_cases h3:r=(pN n).toNat+8+3
 ·rw [pushF_at h3,ebyte 3 (by omega) h3]; rfl
 rw [pushF_lt (by omega)]
 by_cases h2':r=(pN n).toNat+8+2
 ·rw [pushF_at h2',ebyte 2 (by omega) h2']; rfl
 rw [pushF_lt (by omega)]
 by_cases h1':r=(pN n).toNat+8+1
 ·rw [pushF_at h1',ebyte 1 (by omega) h1']; rfl
 rw [pushF_lt (by omega)]
 by_cases h0:r=(pN n).toNat+8
 ·rw [pushF_at h0,ebyte 0 (by omega) (by omega)]; rfl
 rw [pushF_lt (by omega)]
 unfold padF pf1
 by_cases hr0:r=0
 ·subst hr0
  rw [if_pos rfl,show Nat.ble (0+1) (pN n).toNat=true from Nat.ble_eq_true_of_le (by omega)]
  rfl
 ·rw [if_neg hr0,if_pos (by omega)]
  have hne:Nat.beq (0+r) 0=false:=by
   cases hb:Nat.beq (0+r) 0 with
   | false=>rfl
   | true=>have:=Nat.eq_of_beq_eq_true hb; omega
  rw [hne]
  cases Nat.ble (r+1) (pN n).toNat <;> rfl
noncomputable def hs7:List (Nat × TF):=(F_sha512_pad,tPad) :: hs6
theorem H7:LibOK prog tt hs7 []:=H6.addT r_pad
structure UA where
 g0:Nat → Nat → Int
 g1:Nat → Nat → Int
 t:Bool
 W:Nat → Int
 tv:SV
 nn:Nat → Int
 kt:Bool
 kf:Nat → Int
 L:Nat
 R:Nat → Nat → Int
 i0:Nat
noncomputable abbrev uE:EnvP:=envP tt hs7 []
noncomputable def u0B:Code:=match f_sha512_Hasher_Sum.body with | some c=>(match bodiesOf 0 c with | [.loop b]=>b | _=>.skip) | none=>.skip
def u0T (a:UA):List (Nat × AV):=[(0,.sc (.vptr a.t [.ints .u64 8 a.W,.one a.tv,.ints .u64 1 a.nn,.one (.vptr a.kt [.ints .u64 80 a.kf])])),(2,.sc (.ptr 0 64 0 0 64)),(3,.sc (.ptr 1 64 0 0 64)),(4,.sc (.ptr 2 8 0 0 8))]
def u0H (a:UA) (S:Nat → Int):Heap:=[some (.ints .u8 64 1 a.g0),some (.ints .u8 64 1 a.g1),some (.ints .u64 8 1 (fun _ d=>S d)),none,some (.ints .u8 1 a.L a.R)]
def u0V (a:UA) (i M:Nat) (S:Nat → Int):St:=⟨tmOf ((5,.sc (.slice 4 1 i 0 1 M)) :: u0T a) 64 0,u0H a S⟩
theorem u0_round (a:UA) (i i' M M':Nat) (S S':Nat → Int) :
  roundB uE [(36,true)] 5 u0B (u0V a i M S) .normal (u0V a i' M' S') =
  some (ckL [decide ((M:Int) > 0) == true,inB 128 M,inB 128 M] && stB (u0V a (i+128) (M - 128) (lf (blkL S (fun j d=>a.R (i+0+j) (0+d)) a.kf))) (u0V a i' M' S')):=by kernel_rfl
theorem u0_stop (a:UA) (i M:Nat) (S:Nat → Int) :
  roundB uE [(36,false)] 5 u0B (u0V a i M S) (.exit 0) (u0V a i M S) =
  some (ckL [decide ((M:Int) > 0) == false] && stB (u0V a i M S) (u0V a i M S)):=by kernel_rfl
structure UB where
 a:UA
 i:Nat
 S:Nat → Int
def uCk (k0:IntKind) (z0 m0:Nat) (k1:IntKind) (z1 m1:Nat) (k2:IntKind) (z2 m2:Nat) (k4:IntKind) (z4:Nat) (k5:IntKind) (z5:Nat) (tv:SV) (k6:IntKind) (z6:Nat) (k7:IntKind) (z7:Nat) (id sz c esz:Nat) (tm:List AV):Bool :=
 ((kEq k5 .u64 && Nat.beq z5 8) && (okV 5 tv && ((kEq k6 .u64 && Nat.beq z6 1) && (kEq k7 .u64 && Nat.beq z7 80)))) && ((kEq k0 .u8 && (Nat.beq z0 64 && Nat.beq m0 1)) && ((kEq k1 .u8 && (Nat.beq z1 64 && Nat.beq m1 1)) && ((kEq k2 .u64 && (Nat.beq z2 8 && Nat.beq m2 1)) && ((kEq k4 .u8 && Nat.beq z4 1) &&
  ((Nat.beq id 4 && (Nat.beq sz 1 && (Nat.beq c 0 && Nat.beq esz 1))) && (Nat.beq tm.length 64 && tmIs 5 tm [(2,.sc (.ptr 0 64 0 0 64)),(3,.sc (.ptr 1 64 0 0 64)),(4,.sc (.ptr 2 8 0 0 8))]))))))
def u0Rd (s:St):Option UB:=match getA s.tm 0,getA s.tm 5,s.hp with
 | .sc (.vptr t [.ints k5 z5 W,.one tv,.ints k6 z6 nn,.one (.vptr kt [.ints k7 z7 kf])]),.sc (.slice id sz i c esz M),[some (.ints k0 z0 m0 g0),some (.ints k1 z1 m1 g1),some (.ints k2 z2 m2 S),none,some (.ints k4 z4 m4 R)] =>
  bif uCk k0 z0 m0 k1 z1 m1 k2 z2 m2 k4 z4 k5 z5 tv k6 z6 k7 z7 id sz c esz s.tm then some ⟨⟨g0,g1,t,W,tv,nn,kt,kf,m4,R,M⟩,i,lf (tabL (S 0) 8 0)⟩ else none
 | _,_,_=>none
def u0C (x:UB):Nat → Int:=fun j=>x.a.R (x.i+j) 0
def u0S (x:UB) (k:Nat):St:=u0V x.a (x.i+128 * k) (x.a.i0 - 128 * k) (hWk x.a.kf x.S (u0C x) k)
def u0F:LF:=famX u0Rd (fun x=>Nat.beq (x.a.i0 % 128) 0) (fun _=>.normal) (fun x=>u0S x (x.a.i0 / 128))
theorem u0_body:f_sha512_Hasher_Sum.body.map (bodiesOf 0)=some [.loop u0B]:=by kernel_rfl
theorem u0_ok:codeOK prog uE.env.isW u0B=true:=by kernel_rfl
theorem u0_self {a:UA} (i M:Nat) (S:Nat → Int) (ht:okV 5 a.tv=true):stB (u0V a i M S) (u0V a i M S)=true:=by
 refine stB_self ?_ ?_
 ·have:okT 5 (u0V a i M S).tm=okV 5 a.tv:=by
   simp [u0V,u0T,tmOf,okT,okA,okV,okG]
  show okT 5 (u0V a i M S).tm=true
  rw [this,ht]
 ·simp [u0H,okH,okB]
theorem u0_rd {s:St} {x:UB} (h:u0Rd s=some x):StLe s (u0S x 0) ∧ s.hp.length=5 ∧ okV 5 x.a.tv=true ∧ ∀ (i:Nat) (f:Nat → Int),s.hp[i]?=some none → (u0H x.a f)[i]?=some none:=by
 unfold u0Rd at h
 split at h
 case h_2=>simp at h
 rename_i t k5 z5 W tv k6 z6 nn kt k7 z7 kf id sz i c esz M k0 z0 m0 g0 k1 z1 m1 g1 k2 z2 m2 S k4 z4 m4 R h0 h5 hh
 cases hc:uCk k0 z0 m0 k1 z1 m1 k2 z2 m2 k4 z4 k5 z5 tv k6 z6 k7 z7 id sz c esz s.tm with
 | false=>rw [hc] at h; simp at h
 | true =>
  rw [hc] at h
  simp only [cond_true,Option.some.injEq] at h
  subst h
  unfold uCk at hc
  simp only [Bool.and_eq_true,beq_t] at hc
  obtain ⟨⟨⟨d5,rfl⟩,d0,⟨d6,rfl⟩,d7,rfl⟩,⟨c0,rfl,rfl⟩,⟨c1,rfl,rfl⟩,⟨c2,rfl,rfl⟩,⟨c4,rfl⟩,⟨rfl,rfl,rfl,rfl⟩,c9,c10⟩:=hc
  have c0:=kEq_spec c0
  have c1:=kEq_spec c1
  have c2:=kEq_spec c2
  have c4:=kEq_spec c4
  have d5:=kEq_spec d5
  have d6:=kEq_spec d6
  have d7:=kEq_spec d7
  subst c0 c1 c2 c4 d5 d6 d7
  have hS:eqF 1 8 S (fun _ d=>lf (tabL (S 0) 8 0) d)=true:=lf_tabE
  refine ⟨stX c9 c10 (fun p hp=>?_) ?_,by rw [hh]; rfl,d0,fun i t hi=>?_⟩
  ·simp only [u0T,List.mem_cons,List.not_mem_nil,or_false] at hp
   rcases hp with rfl | rfl | rfl | rfl | rfl
   ·refine .inr ?_
    show avB _ (getA s.tm 5) _=true
    rw [h5]
    simp [avB,svB,u0H]
   ·refine .inr ?_
    show avB _ (getA s.tm 0) _=true
    rw [h0]
    simp [avB,svB,segB,u0H,kEq_refl,eqN_refl,okV_self tv d0]
   ·exact .inl (by simp)
   ·exact .inl (by simp)
   ·exact .inl (by simp)
  ·rw [hh]
   simp [u0H,hpB,blkB,kEq_refl,eqF_refl,hWk,hS]
  ·rw [hh] at hi
   match i,hi with
   | 0,hi=>simp at hi
   | 1,hi=>simp at hi
   | 2,hi=>simp at hi
   | 3,hi=>rfl
   | 4,hi=>simp at hi
   | n+5,hi=>simp at hi
theorem u0_step (x:UB) (ht:okV 5 x.a.tv=true) (k:Nat) (hk:k < x.a.i0 / 128) (n:Nat):∃ s1 r,am uE.env 5 u0B (u0S x k)=some (.normal,s1) ∧ StLeR r s1 (u0S x (k+1)) ∧ ∀ i,i < n → r i=some i:=by
 have h1:u0V x.a (x.i+128 * k+128) (x.a.i0 - 128 * k - 128) (lf (blkL (hWk x.a.kf x.S (u0C x) k) (fun j d=>x.a.R (x.i+128 * k+0+j) (0+d)) x.a.kf))=u0S x (k+1):=by
  unfold u0S
  have e1:x.a.i0 - 128 * k - 128=x.a.i0 - 128 * (k+1):=by omega
  have e3:lf (blkL (hWk x.a.kf x.S (u0C x) k) (fun j d=>x.a.R (x.i+128 * k+0+j) (0+d)) x.a.kf)=hWk x.a.kf x.S (u0C x) (k+1):=by
   refine congrArg lf (blkL_congr fun j hj=>?_)
   show x.a.R (x.i+128 * k+0+j) (0+0)=x.a.R (x.i+(128 * k+j)) 0
   rw [show x.i+128 * k+0+j=x.i+(128 * k+j) by omega]
  rw [e1,e3,show x.i+128 * k+128=x.i+128 * (k+1) by omega]
 have hck:(ckL [decide (((x.a.i0 - 128 * k:Nat):Int) > 0) == true,inB 128 ((x.a.i0 - 128 * k:Nat):Int),inB 128 ((x.a.i0 - 128 * k:Nat):Int)] && stB (u0S x (k+1)) (u0S x (k+1)))=true:=by
  have h2:stB (u0S x (k+1)) (u0S x (k+1))=true:=u0_self _ _ _ ht
  have h3:inB 128 ((x.a.i0 - 128 * k:Nat):Int)=true:=by simp [inB]; omega
  rw [h2,h3,decide_eq_true (show ((x.a.i0 - 128 * k:Nat):Int) > 0 by omega)]
  rfl
 have:=u0_round x.a (x.i+128 * k) (x.i+128 * (k+1)) (x.a.i0 - 128 * k) (x.a.i0 - 128 * (k+1)) (hWk x.a.kf x.S (u0C x) k) (hWk x.a.kf x.S (u0C x) (k+1))
 rw [h1] at this
 exact roundB_toR this hck
theorem l_u0:LRow prog f_sha512_Hasher_Sum 0 u0F:=by
 refine LRow.famX (N:=5) (S:=u0S) (H7.env []) mix (fun x=>x.a.i0 / 128) (loop_of u0_body) u0_ok (fun w0 own0=>accOK_none (fun id=>rfl) u0B) fun s x h hck=>?_
 obtain ⟨q1,q2,q4,q5⟩:=u0_rd h
 have hm:x.a.i0 % 128=0:=beq_t.1 hck
 have hl:∀ k,(u0S x k).hp.length=5:=fun k=>rfl
 refine ⟨⟨some,q1.toR,fun _ _=>rfl⟩,fun k _=>by rw [q2,hl]; exact Nat.le_refl _,by rw [q2,hl]; exact Nat.le_refl _,fun i hi=>q5 i _ hi,fun k hk=>u0_step x q4 k hk _,?_⟩
 have hck:(ckL [decide (((x.a.i0 - 128 * (x.a.i0 / 128):Nat):Int) > 0) == false] && stB (u0S x (x.a.i0 / 128)) (u0S x (x.a.i0 / 128)))=true:=by
  have h2:stB (u0S x (x.a.i0 / 128)) (u0S x (x.a.i0 / 128))=true:=u0_self _ _ _ q4
  rw [h2,decide_eq_false (show ¬ ((x.a.i0 - 128 * (x.a.i0 / 128):Nat):Int) > 0 by omega)]
  rfl
 obtain ⟨s1,r,h1,h2,h3⟩:=roundB_toR (n:=s.hp.length) (u0_stop x.a _ _ _) hck
 exact ⟨_,s1,r,h1,rfl,h2,h3⟩
noncomputable abbrev sE:EnvP:=envL tt hs7 [] [(0,u0F)]
theorem c_sum:fnChk prog sE f_sha512_Hasher_Sum=true:=by kernel_rfl
def sumR (tl:Nat) (D:Nat → Nat → Int) (n:Int):Nat → Nat → Int:=fun r d=>bif Nat.ble (r+1) tl then (bif Nat.ble 0 (0+r) && Nat.ble (0+r+1) (0+Nat.min tl tl) then D (0+r - 0) (0+d) else 0) else padF n.toNat (r - tl)
theorem k_sum (t t' kt:Bool) (W nn kf:Nat → Int) (tl:Nat) (D:Nat → Nat → Int) :
  outP (apFunc sE [] 70 f_sha512_Hasher_Sum [.sc (.vptr t [.ints .u64 8 W,.one (.vints t' .u8 1 tl D),.ints .u64 1 nn,.one (.vptr kt [.ints .u64 80 kf])])] []) =
   some (ckL [inB (tl:Int) 512 && true,decide (0 ≤ nn 0) && decide (nn 0 < 9223372036854775808),fits (tl+padL (nn 0).toNat) 1 && true,Nat.beq ((tl+padL (nn 0).toNat) % 128) 0],
   .agg [.ints .u8 64 (lf (outL (hWk kf (lf (tabL W 8 0)) (fun j=>sumR tl D (nn 0) (0+j) 0) ((tl+padL (nn 0).toNat) / 128))))]):=by kernel_rfl
def tSum:TF:=fun args=>match args with
 | [.sc (.vptr _ [.ints .u64 8 W,.one (.vints _ .u8 1 tl D),.ints .u64 1 nn,.one (.vptr _ [.ints .u64 80 kf])])] =>
  some (decide (0 ≤ nn 0) && (decide (nn 0 < 9223372036854775808) && Nat.beq ((nn 0).toNat % 128) tl),.agg [.ints .u8 64 (lf (outL (hWk (lf (tabL kf 80 0)) (lf (tabL W 8 0)) (catF tl (fun j=>D j 0) (padF (nn 0).toNat)) ((tl+padL (nn 0).toNat) / 128))))])
 | _=>none
theorem r_sum:TRow prog F_sha512_Hasher_Sum tSum:=by
 intro args r h
 unfold tSum at h
 split at h
 case h_2=>simp at h
 rename_i t W t' tl D nn kt kf
 simp only [Option.some.injEq,Prod.mk.injEq,Bool.and_eq_true,decide_eq_true_eq,beq_t] at h
 obtain ⟨⟨h1,h2,h3⟩,rfl⟩:=h
 rw [hWk_tab]
 refine pure_of_outL H7 at_sha512_Hasher_Sum (LsOK.nil.cons l_u0) c_sum (N:=70) (gs:=[]) ?_
 obtain ⟨p1,p2,p3,p4⟩:=padL_sum (nn 0).toNat
 rw [h3] at p2
 have hf:fits (tl+padL (nn 0).toNat) 1=true:=by simp only [fits,decide_eq_true_eq]; omega
 have hR:(fun j=>sumR tl D (nn 0) (0+j) 0)=catF tl (fun j=>D j 0) (padF (nn 0).toNat):=by
  funext j
  unfold sumR
  rw [Nat.zero_add]
  by_cases hj:j < tl
  ·rw [catF_lt hj,show Nat.ble (j+1) tl=true from Nat.ble_eq_true_of_le hj,Nat.zero_add,Nat.zero_add,Nat.sub_zero,show Nat.ble 0 j=true from rfl,show Nat.min tl tl=tl from Nat.min_self tl,show Nat.ble (j+1) tl=true from Nat.ble_eq_true_of_le hj]
   rfl
  ·have hb:Nat.ble (j+1) tl=false:=by
    cases hb:Nat.ble (j+1) tl with
    | false=>rfl
    | true=>have:=Nat.le_of_ble_eq_true hb; omega
   rw [catF_ge (by omega),hb]; rfl
 rw [k_sum,hR,hf,decide_eq_true h1,decide_eq_true h2,show inB (tl:Int) 512=true by simp [inB]; omega,beq_t.2 p2]
 rfl
noncomputable def hs8:List (Nat × TF):=(F_sha512_Hasher_Sum,tSum) :: hs7
theorem H8:LibOK prog tt hs8 []:=H7.addT r_sum
end Go.Proofs.YtfpkegodflloiaaGreat
namespace Go.Proofs.YtfpkegodflloiaaGreat
open Go.Proofs.Tryz
open Go Go.AM
noncomputable def hw1:List (Nat × WF):=[(F_sha512_New,sW (envP tt hs8 []) [] 5 f_sha512_New)]
theorem HW1:LibOK prog tt hs8 hw1:=H8.sW at_sha512_New [] 5 (by kernel_rfl)
noncomputable def hw2:List (Nat × WF):=(F_sha512_Hasher_Write,wWrite) :: hw1
theorem HW2:LibOK prog tt hs8 hw2:=HW1.addW r_write
structure JA where
 g:Nat → Nat → Int
 kf:Nat → Int
 t0:Bool
 np:Nat
 tg:Nat → Bool
 m:Nat → Nat
 f:Nat → Nat → Nat → Int
noncomputable abbrev jE:EnvP:=envP tt hs8 hw2
noncomputable def j0B:Code:=match f_sha512_Join.body with | some c=>(match bodiesOf 0 c with | [.loop b]=>b | _=>.skip) | none=>.skip
def jRows (a:JA):SV:=.vrows a.t0 1 a.np (fun j=>[.one (.vints (a.tg j) .u8 1 (a.m j) (a.f j))])
def jT (a:JA):List (Nat × AV):=[(2,.sc (.ptr 0 64 0 0 64)),(3,.sc (.ptr 2 11 0 0 11)),(7,.sc (jRows a)),(8,.sc (.int .i64 a.np))]
def jH (a:JA) (W:Nat → Int) (tl:Nat) (nn:Nat → Int) (D:Nat → Nat → Int):Heap:=w1H ⟨a.g,a.kf,W,tl,nn,D,true,0,fun _ _=>0⟩
def jV (a:JA) (v:Int) (W:Nat → Int) (tl:Nat) (nn:Nat → Int) (D:Nat → Nat → Int):St:=⟨tmOf ((9,.sc (.int .i64 v)) :: jT a) 19 0,jH a W tl nn D⟩
def jC (a:JA) (v:Int) (W:Nat → Int) (tl:Nat) (nn:Nat → Int) (D:Nat → Nat → Int):HC:=⟨a.g,a.kf,W,tl,nn,D,a.tg v.toNat,a.m v.toNat,a.f v.toNat⟩
theorem j_round (a:JA) (v v':Int) (W:Nat → Int) (tl:Nat) (nn:Nat → Int) (D:Nat → Nat → Int) (W':Nat → Int) (tl':Nat) (nn':Nat → Int) (D':Nat → Nat → Int) :
  roundR jE [(10,true)] 5 3 [4] j0B (jV a v W tl nn D) .normal (jV a v' W' tl' nn' D') =
  some (ckL [decide (v < (a.np:Int)) == true,inR v a.np,((Nat.beq tl tl && true) && true) && (Nat.ble (tl+1) 128 && fits (tl+a.m v.toNat) 1)] &&
   stR (rnm 3 [3]) (jV a (wr .i64 (v+1)) (wW (jC a v W tl nn D)) ((tl+a.m v.toNat) % 128) (wN (jC a v W tl nn D)) (wD (jC a v W tl nn D))) (jV a v' W' tl' nn' D')):=by kernel_rfl
theorem j_stop (a:JA) (v:Int) (W:Nat → Int) (tl:Nat) (nn:Nat → Int) (D:Nat → Nat → Int) :
  roundR jE [(10,false)] 5 3 [3] j0B (jV a v W tl nn D) (.exit 0) (jV a v W tl nn D) =
  some (ckL [decide (v < (a.np:Int)) == false] && stR (rnm 3 [3]) (jV a v W tl nn D) (jV a v W tl nn D)):=by kernel_rfl
structure JB where
 a:JA
 W0:Nat → Int
 np2:Int
 row:Nat → List Seg
def jF (a:JA) (k:Nat):Nat → Int:=catB a.m (fun i j=>a.f i j 0) k
def jW (x:JB) (k:Nat):Nat → Int:=hWk x.a.kf x.W0 (jF x.a k) (catN x.a.m k / 128)
def jD (a:JA) (k:Nat):Nat → Nat → Int:=fun j _=>jF a k (128 * (catN a.m k / 128)+j)
def jS (x:JB) (k:Nat):St:=jV x.a (k:Int) (jW x k) (catN x.a.m k % 128) (fun _=>(catN x.a.m k:Int)) (jD x.a k)
theorem j_same (a:JA) (v:Int) {W W' nn nn':Nat → Int} {tl tl':Nat} {D D':Nat → Nat → Int} (h1:∀ d,d < 8 → W d=W' d) (h2:tl=tl') (h3:nn 0=nn' 0) (h4:∀ r,r < tl' → D r 0=D' r 0) :
  stR (rnm 3 [3]) (jV a v W tl nn D) (jV a v W' tl' nn' D')=true:=by
 subst h2
 have e1:eqN 8 W W'=true:=eqN_of h1
 have e2:eqF tl 1 D D'=true:=eqF_of fun r hr d hd=>by
  obtain rfl:d=0:=by omega
  exact h4 r hr
 have e3:eqN 1 nn nn'=true:=eqN_of fun d hd=>by
  obtain rfl:d=0:=by omega
  exact h3
 have hnd:ndR (rnm 3 [3]) (jV a v W' tl nn' D').hp 0 []=true:=rfl
 have htm:tmR (rnm 3 [3]) 4 (jV a v W tl nn D).tm (jV a v W' tl nn' D').tm=true:=by
  simp [jV,jT,jRows,tmOf,tmR,avR,svR,segR,rIs,rnm,kEq_refl,eqF_refl]
 have hhp:hpR (rnm 3 [3]) 4 (jV a v W tl nn D).hp (jV a v W' tl nn' D').hp 0=true:=by
  simp [jV,jH,w1H,hpR,rnm,blkR,segR,svR,rIs,kEq_refl,eqF_refl,lenS,e1,e2,e3]
 show (ndR (rnm 3 [3]) (jV a v W' tl nn' D').hp 0 [] && (tmR (rnm 3 [3]) 4 _ _ && hpR (rnm 3 [3]) 4 _ _ 0))=true
 rw [hnd,htm,hhp]; rfl
theorem catN_le (m:Nat → Nat) {k n:Nat} (h:k ≤ n):catN m k ≤ catN m n:=by
 induction n with
 | zero=>rw [show k=0 by omega]; exact Nat.le_refl _
 | succ n ih =>
  by_cases e:k=n+1
  ·subst e; exact Nat.le_refl _
  ·have:=ih (by omega)
   simp only [catN]; omega
theorem j_step (x:JB) (hn:x.a.np < 2 ^ 62) (hf:fits (catN x.a.m x.a.np) 1=true) (k:Nat) (hk:k < x.a.np):∃ s1 r,am jE.env 5 j0B (jS x k)=some (.normal,s1) ∧ StLeR r s1 (jS x (k+1)) ∧ ∀ i,i < 3 → r i=some i:=by
 have hb:catN x.a.m (k+1) ≤ 2 ^ 40:=by
  have:=catN_le x.a.m (show k+1 ≤ x.a.np by omega)
  simp only [fits,decide_eq_true_eq] at hf
  omega
 have hN:catN x.a.m (k+1)=catN x.a.m k+x.a.m k:=rfl
 have ek:((k:Nat):Int).toNat=k:=Int.toNat_natCast k
 refine roundR_toR (j_round x.a (k:Int) (((k+1:Nat)):Int) (jW x k) (catN x.a.m k % 128) (fun _=>(catN x.a.m k:Int)) (jD x.a k) (jW x (k+1)) (catN x.a.m (k+1) % 128) (fun _=>(catN x.a.m (k+1):Int)) (jD x.a (k+1))) ?_
 rw [ek,wr_i64 (x:=(k:Int)+1) (by omega) (by omega),show (k:Int)+1=((k+1:Nat):Int) by omega]
 have hC:∀ j,wC (jC x.a (k:Int) (jW x k) (catN x.a.m k % 128) (fun _=>(catN x.a.m k:Int)) (jD x.a k)) j=jF x.a (k+1) (128 * (catN x.a.m k / 128)+j):=fun j=>by
  unfold wC jC jD
  simp only [ek]
  show _=catF (catN x.a.m k) (jF x.a k) (fun j=>x.a.f k j 0) _
  by_cases hj:j < catN x.a.m k % 128
  ·rw [catF_lt hj,catF_lt (by omega)]
  ·rw [catF_ge (by omega),catF_ge (by omega),show 128 * (catN x.a.m k / 128)+j - catN x.a.m k=j - catN x.a.m k % 128 by omega]
 have hq:catN x.a.m (k+1) / 128=catN x.a.m k / 128+(catN x.a.m k % 128+x.a.m k) / 128:=by rw [hN]; omega
 have e1:∀ d,d < 8 → wW (jC x.a (k:Int) (jW x k) (catN x.a.m k % 128) (fun _=>(catN x.a.m k:Int)) (jD x.a k)) d=jW x (k+1) d:=fun d hd=>by
  unfold wW
  rw [show (jC x.a (k:Int) (jW x k) (catN x.a.m k % 128) (fun _=>(catN x.a.m k:Int)) (jD x.a k)).m=x.a.m k by simp only [jC,ek]]
  show hWk x.a.kf (lf (tabL (jW x k) 8 0)) _ ((catN x.a.m k % 128+x.a.m k) / 128) d=_
  rw [show wC (jC x.a (k:Int) (jW x k) (catN x.a.m k % 128) (fun _=>(catN x.a.m k:Int)) (jD x.a k))=fun j=>jF x.a (k+1) (128 * (catN x.a.m k / 128)+j) from funext hC]
  unfold jW
  rw [hq,hWk_add]
  refine hWk_init (fun d hd=>?_) _ d hd
  have h1:=lf_tab (hWk x.a.kf x.W0 (jF x.a k) (catN x.a.m k / 128)) 8 0 d hd
  rw [Nat.zero_add] at h1
  rw [h1]
  refine congrFun (hWk_congr _ fun j hj=>?_) d
  exact (catF_lt (n:=catN x.a.m k) (D:=jF x.a k) (f:=fun j=>x.a.f k j 0) (by omega)).symm
 have e2:(catN x.a.m k % 128+x.a.m k) % 128=catN x.a.m (k+1) % 128:=by rw [hN]; omega
 have e3:wN (jC x.a (k:Int) (jW x k) (catN x.a.m k % 128) (fun _=>(catN x.a.m k:Int)) (jD x.a k)) 0=(fun _=>(catN x.a.m (k+1):Int)) 0:=by
  unfold wN
  show wr .u64 ((catN x.a.m k:Int)+wr .u64 ((x.a.m (k:Int).toNat:Nat):Int))=(catN x.a.m (k+1):Int)
  rw [ek,hN]
  rw [show wr .u64 ((x.a.m k:Nat):Int)=(x.a.m k:Int) by rw [wr64]; omega,wr64]
  omega
 have e4:∀ r,r < catN x.a.m (k+1) % 128 → wD (jC x.a (k:Int) (jW x k) (catN x.a.m k % 128) (fun _=>(catN x.a.m k:Int)) (jD x.a k)) r 0=jD x.a (k+1) r 0:=fun r hr=>by
  unfold wD
  rw [hC,show (jC x.a (k:Int) (jW x k) (catN x.a.m k % 128) (fun _=>(catN x.a.m k:Int)) (jD x.a k)).m=x.a.m k by simp only [jC,ek]]
  unfold jD
  rw [hq]
  show jF x.a (k+1) (128 * (catN x.a.m k / 128)+(128 * ((catN x.a.m k % 128+x.a.m k) / 128)+r))=_
  rw [show 128 * (catN x.a.m k / 128)+(128 * ((catN x.a.m k % 128+x.a.m k) / 128)+r)=128 * (catN x.a.m k / 128+(catN x.a.m k % 128+x.a.m k) / 128)+r by omega]
 rw [j_same x.a _ e1 e2 e3 e4,beq_t.2 (rfl:catN x.a.m k % 128=catN x.a.m k % 128),ble_t.2 (show catN x.a.m k % 128+1 ≤ 128 by omega),show fits (catN x.a.m k % 128+x.a.m k) 1=true by simp only [fits,decide_eq_true_eq]; omega,
  inR_lt hk,decide_eq_true (show (k:Int) < (x.a.np:Int) by omega)]
 rfl
def okPart (s:List Seg):Bool:=match s with
 | [.one (.vints _ k z _ _)]=>kEq k .u8 && Nat.beq z 1
 | [.one .nils]=>true
 | _=>false
def paT (s:List Seg):Bool:=match s with | [.one (.vints t _ _ _ _)]=>t | _=>true
def paN (s:List Seg):Nat:=match s with | [.one (.vints _ _ _ n _)]=>n | _=>0
def paF (s:List Seg):Nat → Nat → Int:=match s with | [.one (.vints _ _ _ _ f)]=>f | _=>fun _ _=>0
theorem part_le {s:List Seg} (h:okPart s=true) (r:Nat → Option Nat) (n:Nat):segR r n s [.one (.vints (paT s) .u8 1 (paN s) (paF s))]=true:=by
 unfold okPart at h
 split at h
 ·simp only [Bool.and_eq_true,beq_t] at h
  obtain ⟨h1,rfl⟩:=h
  rw [kEq_spec h1]
  simp [segR,svR,paT,paN,paF,kEq_refl,eqF_refl]
 ·simp [segR,svR,paN]
 ·simp at h
def jA (g:Nat → Nat → Int) (kf:Nat → Int) (t0:Bool) (np:Nat) (row:Nat → List Seg):JA:=⟨g,kf,t0,np,fun j=>paT (row j),fun j=>paN (row j),fun j=>paF (row j)⟩
def jCk (k0:IntKind) (z0 m0:Nat) (k1:IntKind) (z1 m1 z2 m2:Nat) (k4:IntKind) (z4:Nat) (tv:SV) (k5:IntKind) (z5:Nat) (nf:Nat → Int) (kv:SV) (z:Nat) (tm:List AV):Bool :=
 (svR (rnm 3 []) 4 tv (.slice 3 1 0 0 1 0) && svR (rnm 3 []) 4 kv (.ptr 1 80 0 0 80)) && ((kEq k0 .u8 && (Nat.beq z0 64 && Nat.beq m0 1)) && ((kEq k1 .u64 && (Nat.beq z1 80 && Nat.beq m1 1)) && ((Nat.beq z2 11 && Nat.beq m2 1) &&
  ((kEq k4 .u64 && Nat.beq z4 8) && (((kEq k5 .u64 && Nat.beq z5 1) && decide (nf 0=0)) && (Nat.beq z 1 && (Nat.beq tm.length 19 && tmIsR (rnm 3 []) 4 tm [(9,.sc (.int .i64 0)),(2,.sc (.ptr 0 64 0 0 64)),(3,.sc (.ptr 2 11 0 0 11))])))))))
def jRd (s:St):Option JB:=match getA s.tm 7,getA s.tm 8,s.hp with
 | .sc (.vrows t z np row),.sc (.int .i64 np'),[some (.ints k0 z0 m0 g),some (.ints k1 z1 m1 kf),some (.mix z2 m2 hrow)]=>(match hrow 0 with
  | [.ints k4 z4 W,.one tv,.ints k5 z5 nf,.one kv]=>bif jCk k0 z0 m0 k1 z1 m1 z2 m2 k4 z4 tv k5 z5 nf kv z s.tm then some ⟨jA g (lf (tabL (kf 0) 80 0)) t np row,lf (tabL W 8 0),np',row⟩ else none
  | _=>none)
 | _,_,_=>none
def jCk2 (x:JB):Bool:=decide (x.np2=(x.a.np:Int)) && (Nat.ble x.a.np 4611686018427387903 && (fits (catN x.a.m x.a.np) 1 && (List.range x.a.np).all fun j=>okPart (x.row j)))
def jLF:LF:=famX jRd jCk2 (fun _=>.normal) (fun x=>jS x x.a.np)
theorem j_body:f_sha512_Join.body.map (bodiesOf 0)=some [.loop j0B]:=by kernel_rfl
theorem j_ok:codeOK prog jE.env.isW j0B=true:=by kernel_rfl
theorem j_rd {s:St} {x:JB} (h:jRd s=some x) (hck:jCk2 x=true):(∃ r,StLeR r s (jS x 0) ∧ ∀ i,i < s.hp.length → r i=some i) ∧ s.hp.length=3 ∧ ∀ (i:Nat) (t:Heap),s.hp[i]?=some none → t[i]?=some none:=by
 unfold jRd at h
 split at h
 case h_2=>simp at h
 rename_i t z np row np' k0 z0 m0 g k1 z1 m1 kf z2 m2 hrow h7 h8 hh
 split at h
 case h_2=>simp at h
 rename_i k4 z4 W tv k5 z5 nf kv hr0
 cases hc:jCk k0 z0 m0 k1 z1 m1 z2 m2 k4 z4 tv k5 z5 nf kv z s.tm with
 | false=>rw [hc] at h; simp at h
 | true =>
  rw [hc] at h
  simp only [cond_true,Option.some.injEq] at h
  subst h
  unfold jCk at hc
  simp only [Bool.and_eq_true,beq_t,decide_eq_true_eq] at hc
  obtain ⟨⟨p1,p2⟩,⟨c0,rfl,rfl⟩,⟨c1,rfl,rfl⟩,⟨rfl,rfl⟩,⟨c4,rfl⟩,⟨⟨c5,rfl⟩,q0⟩,rfl,c9,c10⟩:=hc
  have c0:=kEq_spec c0
  have c1:=kEq_spec c1
  have c4:=kEq_spec c4
  have c5:=kEq_spec c5
  subst c0 c1 c4 c5
  simp only [jCk2,Bool.and_eq_true,decide_eq_true_eq,List.all_eq_true,List.mem_range] at hck
  obtain ⟨hnp,-,-,hall⟩:=hck
  have hK:eqF 1 80 kf (fun _ d=>lf (tabL (kf 0) 80 0) d)=true:=lf_tabE
  have hW:eqN 8 W (lf (tabL W 8 0))=true:=eqN_of fun d hd=>by
   have:=lf_tab W 8 0 d hd
   rw [Nat.zero_add] at this
   exact this.symm
  have hn:eqN 1 nf (fun _=>0)=true:=eqN_of fun d hd=>by
   obtain rfl:d=0:=by omega
   exact q0
  refine ⟨⟨rnm 3 [],?_,by rw [hh]; exact rnm_lt⟩,by rw [hh]; rfl,fun i t hi=>?_⟩
  ·refine stXR c9 c10 (fun p hp=>?_) (hpLe_of ?_ rfl)
   ·simp only [jT,List.mem_cons,List.not_mem_nil,or_false] at hp
    rcases hp with rfl | rfl | rfl | rfl | rfl
    ·exact .inl (by simp)
    ·exact .inl (by simp)
    ·exact .inl (by simp)
    ·refine .inr ?_
     show avR _ _ (getA s.tm 7) _=true
     rw [h7]
     simp only [avR,jRows,jA,svR,beq_self_eq_true,nbeq_refl,Bool.and_self,Bool.true_and,List.all_eq_true,List.mem_range]
     exact fun j hj=>part_le (hall j hj) _ _
    ·refine .inr ?_
     show avR _ _ (getA s.tm 8) _=true
     rw [h8]
     simp [avR,svR,kEq_refl,hnp,jA]
   ·rw [hh]
    simp only [jH,w1H,hpR,rnm,jA,catN,Nat.zero_mod]
    simp [blkR,hr0,segR,lenS,kEq_refl,eqF_refl,p1,p2,hK,hn,jW,hWk,hW,catN,Blk.n]
  ·rw [hh] at hi
   match i,hi with
   | 0,hi=>simp at hi
   | 1,hi=>simp at hi
   | 2,hi=>simp at hi
   | n+3,hi=>simp at hi
theorem l_j:LRow prog f_sha512_Join 0 jLF:=by
 refine LRow.famX (N:=5) (S:=jS) (HW2.env []) mix (fun x=>x.a.np) (loop_of j_body) j_ok (fun w0 own0=>accOK_none (fun id=>rfl) j0B) fun s x h hck=>?_
 obtain ⟨q1,q2,q3⟩:=j_rd h hck
 simp only [jCk2,Bool.and_eq_true,decide_eq_true_eq,ble_t] at hck
 obtain ⟨-,hn,hf,-⟩:=hck
 have hl:∀ k,(jS x k).hp.length=4:=fun k=>rfl
 refine ⟨q1,fun k _=>by rw [q2,hl]; omega,by rw [q2,hl]; omega,fun i hi=>q3 i _ hi,fun k hk=>by rw [q2]; exact j_step x (by omega) hf k hk,?_⟩
 have hck:(ckL [decide ((x.a.np:Int) < (x.a.np:Int)) == false] && stR (rnm 3 [3]) (jS x x.a.np) (jS x x.a.np))=true:=by
  have h2:stR (rnm 3 [3]) (jS x x.a.np) (jS x x.a.np)=true:=j_same _ _ (fun _ _=>rfl) rfl rfl (fun _ _=>rfl)
  rw [h2,decide_eq_false (show ¬ (x.a.np:Int) < (x.a.np:Int) by omega)]
  rfl
 obtain ⟨s1,r,h1,h2,h3⟩:=roundR_toR (j_stop x.a (x.a.np:Int) _ _ _ _) hck
 exact ⟨_,s1,r,h1,rfl,h2,by rw [q2]; exact h3⟩
def fnS (x:Option (Bool × AV)):Nat → Int:=match x with | some (_,.agg [.ints _ _ f])=>f | _=>fun _=>0
noncomputable def kcL:List Int:=tabL (fnS (iT (envP tt hs3 []) [] 5 f_sha512_Constants [])) 80 0
noncomputable def bcL:List Int:=tabL (fnS (iT (envP tt hs4 []) [] 5 f_sha512_begin [])) 8 0
noncomputable abbrev JE:EnvP:=envL tt hs8 hw2 [(0,jLF)]
noncomputable def xJ (t:Bool) (np:Nat) (row:Nat → List Seg):JB:=⟨jA (fun _ _=>0) (lf kcL) t np row,lf bcL,(np:Int),row⟩
theorem c_join:fnChk prog JE f_sha512_Join=true:=by kernel_rfl
theorem k_join (t:Bool) (np:Nat) (row:Nat → List Seg):(outP (apFunc JE [] 5 f_sha512_Join [.sc (.vrows t 1 np row)] [])).map (·.2) =
  some (.agg [.ints .u8 64 (lf (outL (hWk (lf kcL) (lf (tabL (jW (xJ t np row) np) 8 0)) (catF (catN (xJ t np row).a.m np % 128) (fun j=>jD (xJ t np row).a np (0+j) (0+0)) (padF (catN (xJ t np row).a.m np:Int).toNat)) ((catN (xJ t np row).a.m np % 128+padL (catN (xJ t np row).a.m np:Int).toNat) / 128))))]):=by kernel_rfl
theorem ck_join (t:Bool) (np:Nat) (row:Nat → List Seg):(outP (apFunc JE [] 5 f_sha512_Join [.sc (.vrows t 1 np row)] [])).map (·.1) =
  some (ckL [jCk2 (xJ t np row),decide (0 ≤ (catN (xJ t np row).a.m np:Int)) && (decide ((catN (xJ t np row).a.m np:Int) < 9223372036854775808) && Nat.beq ((catN (xJ t np row).a.m np:Int).toNat % 128) (catN (xJ t np row).a.m np % 128))]):=by kernel_rfl
def jmF (row:Nat → List Seg):Nat → Nat:=fun j=>paN (row j)
def jfF (row:Nat → List Seg):Nat → Nat → Int:=fun i j=>paF (row i) j 0
def jN (np:Nat) (row:Nat → List Seg):Nat:=catN (jmF row) np
def jB (np:Nat) (row:Nat → List Seg):Nat → Int:=catB (jmF row) (jfF row) np
noncomputable def tJoin:TF:=fun args=>match args with
 | [.sc (.vrows _ 1 np row)]=>some (Nat.ble np 4611686018427387903 && (fits (jN np row) 1 && (List.range np).all fun j=>okPart (row j)),.agg [.ints .u8 64 (lf (digL (lf kcL) (lf bcL) (jN np row) (jB np row)))])
 | _=>none
theorem r_join:TRow prog F_sha512_Join tJoin:=by
 intro args r h
 unfold tJoin at h
 split at h
 case h_2=>simp at h
 rename_i t np row
 simp only [Option.some.injEq,Prod.mk.injEq,Bool.and_eq_true] at h
 obtain ⟨⟨h1,h2,h3⟩,rfl⟩:=h
 refine pure_of_outL HW2 at_sha512_Join (LsOK.nil.cons l_j) c_join (N:=5) (gs:=[]) ?_
 have e:=both (ck_join t np row) (k_join t np row)
 have hN:catN (xJ t np row).a.m np=jN np row:=rfl
 have hf:fits (catN (xJ t np row).a.m np) 1=true:=h2
 have hb:jN np row ≤ 2 ^ 40:=by
  have h2:=h2
  simp only [fits,decide_eq_true_eq,Nat.mul_one] at h2
  exact h2
 have c1:jCk2 (xJ t np row)=true:=by
  show (decide ((np:Int)=(np:Int)) && (Nat.ble np 4611686018427387903 && (fits (catN (xJ t np row).a.m np) 1 && (List.range np).all fun j=>okPart (row j))))=true
  rw [h1,hf,h3,decide_eq_true rfl]; rfl
 rw [c1,hN,Int.toNat_natCast,decide_eq_true (show (0:Int) ≤ (jN np row:Int) by omega),decide_eq_true (show (jN np row:Int) < 9223372036854775808 by omega),beq_t.2 (rfl:jN np row % 128=jN np row % 128)] at e
 have key:outL (hWk (lf kcL) (lf (tabL (jW (xJ t np row) np) 8 0)) (catF (jN np row % 128) (fun j=>jD (xJ t np row).a np (0+j) (0+0)) (padF (jN np row))) ((jN np row % 128+padL (jN np row)) / 128))=digL (lf kcL) (lf bcL) (jN np row) (jB np row):=by
  have:(fun j=>jD (xJ t np row).a np (0+j) (0+0))=fun j=>jB np row (128 * (jN np row / 128)+j):=by
   funext j
   rw [Nat.zero_add]; rfl
  rw [this]
  exact dig_law
 rw [key] at e
 exact e
noncomputable def hs9:List (Nat × TF):=(F_sha512_Join,tJoin) :: hs8
theorem H9:LibOK prog tt hs9 []:=H8.addT r_join
end Go.Proofs.YtfpkegodflloiaaGreat
namespace Go.Proofs.YtfpkegodflloiaaGreat
open Go.Proofs.Tryz
open Go Go.AM
theorem ior_comm (k:IntKind) (a b:Int):ior k a b=ior k b a:=by unfold ior; rw [BitVec.or_comm]
def tRor3:TF:=fun args=>match args with
 | [.sc (.int .u64 x),.sc (.int .u64 n)]=>some (decide (1 ≤ n) && decide (n ≤ 63),.sc (.int .u64 (rorS x n)))
 | _=>none
theorem c_ror3:fnChk prog (envP tt [] []) f_rimeref03_ror=true:=by kernel_rfl
theorem k_ror3 (x n:Int):outP (apFunc (envP tt [] []) [] 5 f_rimeref03_ror [.sc (.int .u64 x),.sc (.int .u64 n)] []) =
  some (ckL [!decide (n < 0),!decide (wr .u64 (64 - n) < 0)],.sc (.int .u64 (ior .u64 (ishr .u64 x n) (ishl .u64 x (wr .u64 (64 - n)))))):=by kernel_rfl
theorem r_ror3:TRow prog F_rimeref03_ror tRor3:=by
 intro args r h
 unfold tRor3 at h
 split at h
 case h_2=>simp at h
 rename_i x n
 simp only [Option.some.injEq,Prod.mk.injEq,Bool.and_eq_true,decide_eq_true_eq] at h
 obtain ⟨⟨h1,h2⟩,rfl⟩:=h
 refine pure_of_out L0 at_rimeref03_ror c_ror3 (N:=5) (gs:=[]) ?_
 have e1:wr .u64 (64 - n)=64 - n:=by rw [wr64]; omega
 rw [k_ror3,e1,ior_comm,decide_eq_false (show ¬ n < 0 by omega),decide_eq_false (show ¬ 64 - n < 0 by omega)]
 rfl
noncomputable def hr1:List (Nat × TF):=[(F_rimeref03_ror,tRor3)]
theorem HR1:LibOK prog tt hr1 []:=L0.addT r_ror3
noncomputable def hr2:List (Nat × TF):=(F_rimeref03_Constants,iT (envP tt hr1 []) [] 5 f_rimeref03_Constants) :: hr1
theorem HR2:LibOK prog tt hr2 []:=HR1.iT at_rimeref03_Constants [] 5 (by kernel_rfl)
noncomputable def hr3:List (Nat × TF):=(F_rimeref03_Words,iT (envP tt hr2 []) [] 5 f_rimeref03_Words) :: hr2
theorem HR3:LibOK prog tt hr3 []:=HR2.iT at_rimeref03_Words [] 5 (by kernel_rfl)
noncomputable abbrev hrE:EnvP:=envP tt hr3 []
end Go.Proofs.YtfpkegodflloiaaGreat
namespace Go.Proofs.YtfpkegodflloiaaGreat
open Go.Proofs.Tryz
open Go Go.AM
noncomputable def rb4B:Code:=match Func.body f_rimeref03_block with | some c=>(match bodiesOf 4 c with | [.loop b]=>b | _=>.skip) | none=>.skip
theorem rb4_body:(Func.body f_rimeref03_block).map (bodiesOf 4)=some [.loop rb4B]:=by kernel_rfl
theorem rb4_ok:codeOK prog (EnvP.env hrE).isW rb4B=true:=by kernel_rfl
def rb4S (s:Nat → Int) (z:Nat → Int) (K:Nat → Int) (i1:Int) (x1:Nat → Int):St:=⟨tmOf [(2,AV.sc (SV.ptr 0 8 0 0 8)),(4,AV.sc (SV.ptr 1 8 0 0 8)),(5,AV.sc (SV.ptr 2 80 0 0 80)),(6,AV.sc (SV.ptr 3 80 0 0 80)),(9,AV.sc (SV.int IntKind.i64 i1))] 179 0,[some (Blk.ints IntKind.u64 8 1 fun j=>s),some (Blk.ints IntKind.u64 8 1 fun j=>z),some (Blk.ints IntKind.u64 80 1 fun j=>K),some (Blk.ints IntKind.u64 80 1 fun r=>x1)]⟩
-- entry: rb4S s z K (16) (W)  blocks []
def rb4_n1_x1 (s:Nat → Int) (z:Nat → Int) (K:Nat → Int) (i1:Int) (x1:Nat → Int):Nat → Int:=fun d=>bif Nat.beq d (0+Int.toNat i1 * 1) then wr IntKind.u64 (wr IntKind.u64 (wr IntKind.u64 (x1 (0+Int.toNat (wr IntKind.i64 (i1 - 16)) * 1)+ixor IntKind.u64 (ixor IntKind.u64 (rorS (x1 (0+Int.toNat (wr IntKind.i64 (i1 - 15)) * 1)) 1) (rorS (x1 (0+Int.toNat (wr IntKind.i64 (i1 - 15)) * 1)) 8)) (ishr IntKind.u64 (x1 (0+Int.toNat (wr IntKind.i64 (i1 - 15)) * 1)) 7))+x1 (0+Int.toNat (wr IntKind.i64 (i1 - 7)) * 1))+ixor IntKind.u64 (ixor IntKind.u64 (rorS (x1 (0+Int.toNat (wr IntKind.i64 (i1 - 2)) * 1)) 19) (rorS (x1 (0+Int.toNat (wr IntKind.i64 (i1 - 2)) * 1)) 61)) (ishr IntKind.u64 (x1 (0+Int.toNat (wr IntKind.i64 (i1 - 2)) * 1)) 6)) else x1 d
theorem rb4_r1 (s:Nat → Int) (z:Nat → Int) (K:Nat → Int) (i1:Int) (x1:Nat → Int):roundV (hrE) [(44,true)] 20 4 [] [] [2,4,5,6,9] [.one,.one,.one,.one] rb4B (rb4S s z K i1 x1) =
 some (ckL [decide (i1 < 80) == true,inR (wr IntKind.i64 (i1 - 15)) 80,inR (wr IntKind.i64 (i1 - 2)) 80,inR (wr IntKind.i64 (i1 - 16)) 80,inR (wr IntKind.i64 (i1 - 7)) 80,inR i1 80],(ckL [],(.normal,rb4S s z K (wr IntKind.i64 (i1+1)) (rb4_n1_x1 s z K i1 x1)))):=by kernel_rfl
theorem rb4_R1 (s:Nat → Int) (z:Nat → Int) (K:Nat → Int) (i1:Int) (x1:Nat → Int) (h:ckL [decide (i1 < 80) == true,inR (wr IntKind.i64 (i1 - 15)) 80,inR (wr IntKind.i64 (i1 - 2)) 80,inR (wr IntKind.i64 (i1 - 16)) 80,inR (wr IntKind.i64 (i1 - 7)) 80,inR i1 80]=true) (h':ckL []=true):Rd prog 20 4 rb4B (rb4S s z K i1 x1) .normal (rb4S s z K (wr IntKind.i64 (i1+1)) (rb4_n1_x1 s z K i1 x1)):=Rd.of_round HR3 LsOK.nil rb4_body rb4_ok (rb4_r1 s z K i1 x1) h h'
def rb4T1 (s:Nat → Int) (z:Nat → Int) (K:Nat → Int) (x1:Nat → Int):St:=⟨tmOf [(2,(AV.sc (SV.ptr 0 8 0 0 8))),(4,(AV.sc (SV.ptr 1 8 0 0 8))),(5,(AV.sc (SV.ptr 2 80 0 0 80))),(6,(AV.sc (SV.ptr 3 80 0 0 80)))] 179 0,[some (Blk.ints IntKind.u64 8 1 (fun _=>s)),some (Blk.ints IntKind.u64 8 1 (fun _=>z)),some (Blk.ints IntKind.u64 80 1 (fun _=>K)),some (Blk.ints IntKind.u64 80 1 (fun _=>x1))]⟩
theorem rb4_e1 (s:Nat → Int) (z:Nat → Int) (K:Nat → Int) (i1:Int) (x1:Nat → Int):roundV (hrE) [(44,false)] 20 4 [] [] [2,4,5,6] [.one,.one,.one,.one] rb4B (rb4S s z K i1 x1) =
 some (ckL [decide (i1 < 80) == false],(ckL [],((.exit 4),rb4T1 (s) (z) (K) (x1)))):=by kernel_rfl
theorem rb4_E1 (s:Nat → Int) (z:Nat → Int) (K:Nat → Int) (i1:Int) (x1:Nat → Int) (h:ckL [decide (i1 < 80) == false]=true) (h':ckL []=true):Rd prog 20 4 rb4B (rb4S s z K i1 x1) (.exit 4) (rb4T1 (s) (z) (K) (x1)):=Rd.of_round HR3 LsOK.nil rb4_body rb4_ok (rb4_e1 s z K i1 x1) h h'
noncomputable def rb6B:Code:=match Func.body f_rimeref03_block with | some c=>(match bodiesOf 6 c with | [.loop b]=>b | _=>.skip) | none=>.skip
theorem rb6_body:(Func.body f_rimeref03_block).map (bodiesOf 6)=some [.loop rb6B]:=by kernel_rfl
theorem rb6_ok:codeOK prog (EnvP.env hrE).isW rb6B=true:=by kernel_rfl
def rb6S (s:Nat → Int) (z:Nat → Int) (K:Nat → Int) (W:Nat → Int) (i1:Int) (x1:Nat → Int):St:=⟨tmOf [(2,AV.sc (SV.ptr 0 8 0 0 8)),(4,AV.sc (SV.ptr 1 8 0 0 8)),(5,AV.sc (SV.ptr 2 80 0 0 80)),(6,AV.sc (SV.ptr 3 80 0 0 80)),(12,AV.sc (SV.ptr 4 8 0 0 8)),(13,AV.sc (SV.int IntKind.i64 i1))] 179 0,[some (Blk.ints IntKind.u64 8 1 fun j=>s),some (Blk.ints IntKind.u64 8 1 fun j=>z),some (Blk.ints IntKind.u64 80 1 fun j=>K),some (Blk.ints IntKind.u64 80 1 fun j=>W),some (Blk.ints IntKind.u64 8 1 fun r=>x1)]⟩
def rb60 (s:Nat → Int) (z:Nat → Int) (K:Nat → Int) (W:Nat → Int) (t:Nat → Int):St:=⟨tmOf [(2,AV.sc (SV.ptr 0 8 0 0 8)),(4,AV.sc (SV.ptr 1 8 0 0 8)),(5,AV.sc (SV.ptr 2 80 0 0 80)),(6,AV.sc (SV.ptr 3 80 0 0 80)),(12,AV.sc (SV.ptr 4 8 0 0 8)),(13,AV.sc (SV.int IntKind.i64 0))] 179 0,[some (Blk.ints IntKind.u64 8 1 fun j=>s),some (Blk.ints IntKind.u64 8 1 fun j=>z),some (Blk.ints IntKind.u64 80 1 fun j=>K),some (Blk.ints IntKind.u64 80 1 fun j=>W),some (Blk.ints IntKind.u64 8 1 fun j=>t)]⟩
-- entry: rb6S s z K W (0) (t)  blocks []
def rb6_n1_x1 (s:Nat → Int) (z:Nat → Int) (K:Nat → Int) (W:Nat → Int) (i1:Int) (x1:Nat → Int):Nat → Int:=lf [wr IntKind.u64 (wr IntKind.u64 (wr IntKind.u64 (wr IntKind.u64 (wr IntKind.u64 (x1 7+ixor IntKind.u64 (ixor IntKind.u64 (rorS (x1 4) 14) (rorS (x1 4) 18)) (rorS (x1 4) 41))+ixor IntKind.u64 (iand IntKind.u64 (x1 4) (x1 5)) (iand IntKind.u64 (ixor IntKind.u64 18446744073709551615 (x1 4)) (x1 6)))+K (0+Int.toNat i1 * 1))+W (0+Int.toNat i1 * 1))+wr IntKind.u64 (ixor IntKind.u64 (ixor IntKind.u64 (rorS (x1 0) 28) (rorS (x1 0) 34)) (rorS (x1 0) 39)+ixor IntKind.u64 (ixor IntKind.u64 (iand IntKind.u64 (x1 0) (x1 1)) (iand IntKind.u64 (x1 0) (x1 2))) (iand IntKind.u64 (x1 1) (x1 2)))),x1 0,x1 1,x1 2,wr IntKind.u64 (x1 3+wr IntKind.u64 (wr IntKind.u64 (wr IntKind.u64 (wr IntKind.u64 (x1 7+ixor IntKind.u64 (ixor IntKind.u64 (rorS (x1 4) 14) (rorS (x1 4) 18)) (rorS (x1 4) 41))+ixor IntKind.u64 (iand IntKind.u64 (x1 4) (x1 5)) (iand IntKind.u64 (ixor IntKind.u64 18446744073709551615 (x1 4)) (x1 6)))+K (0+Int.toNat i1 * 1))+W (0+Int.toNat i1 * 1))),x1 4,x1 5,x1 6]
theorem rb6_r1 (s:Nat → Int) (z:Nat → Int) (K:Nat → Int) (W:Nat → Int) (i1:Int) (x1:Nat → Int):roundV (hrE) [(86,true)] 20 5 [] [] [2,4,5,6,12,13] [.one,.one,.one,.one,.tab] rb6B (rb6S s z K W i1 x1) =
 some (ckL [decide (i1 < 80) == true,inR i1 80,inR i1 80],(ckL [],(.normal,rb6S s z K W (wr IntKind.i64 (i1+1)) (rb6_n1_x1 s z K W i1 x1)))):=by kernel_rfl
theorem rb6_R1 (s:Nat → Int) (z:Nat → Int) (K:Nat → Int) (W:Nat → Int) (i1:Int) (x1:Nat → Int) (h:ckL [decide (i1 < 80) == true,inR i1 80,inR i1 80]=true) (h':ckL []=true):Rd prog 20 5 rb6B (rb6S s z K W i1 x1) .normal (rb6S s z K W (wr IntKind.i64 (i1+1)) (rb6_n1_x1 s z K W i1 x1)):=Rd.of_round HR3 LsOK.nil rb6_body rb6_ok (rb6_r1 s z K W i1 x1) h h'
def rb6T1 (s:Nat → Int) (z:Nat → Int) (K:Nat → Int) (W:Nat → Int) (x1:Nat → Int):St:=⟨tmOf [(2,(AV.sc (SV.ptr 0 8 0 0 8))),(4,(AV.sc (SV.ptr 1 8 0 0 8))),(12,(AV.sc (SV.ptr 4 8 0 0 8)))] 179 0,[some (Blk.ints IntKind.u64 8 1 (fun _=>s)),some (Blk.ints IntKind.u64 8 1 (fun _=>z)),some (Blk.ints IntKind.u64 80 1 (fun _=>K)),some (Blk.ints IntKind.u64 80 1 (fun _=>W)),some (Blk.ints IntKind.u64 8 1 (fun _=>x1))]⟩
theorem rb6_e1 (s:Nat → Int) (z:Nat → Int) (K:Nat → Int) (W:Nat → Int) (i1:Int) (x1:Nat → Int):roundV (hrE) [(86,false)] 20 5 [] [] [2,4,12] [.one,.one,.one,.one,.one] rb6B (rb6S s z K W i1 x1) =
 some (ckL [decide (i1 < 80) == false],(ckL [],((.exit 6),rb6T1 (s) (z) (K) (W) (x1)))):=by kernel_rfl
theorem rb6_E1 (s:Nat → Int) (z:Nat → Int) (K:Nat → Int) (W:Nat → Int) (i1:Int) (x1:Nat → Int) (h:ckL [decide (i1 < 80) == false]=true) (h':ckL []=true):Rd prog 20 5 rb6B (rb6S s z K W i1 x1) (.exit 6) (rb6T1 (s) (z) (K) (W) (x1)):=Rd.of_round HR3 LsOK.nil rb6_body rb6_ok (rb6_e1 s z K W i1 x1) h h'
theorem l_rb4 (s z K W:Nat → Int):LRow prog f_rimeref03_block 4 (famV 4 [] (rb4S s z K 16 W) .normal (rb4T1 s z K (wK W 64))):=by
 refine LRow.famV mix (N:=20) (S:=fun k=>rb4S s z K ((16+k:Nat):Int) (wK W k)) 64 rb4_body (fun _ _=>Nat.le_refl _) (fun k hk=>?_) ⟨.exit 4,rfl,?_⟩
 ·have ew:∀ c:Nat,c ≤ 16 → wr .i64 (((16+k:Nat):Int) - (c:Int))=((16+k - c:Nat):Int):=fun c hc=>by rw [wr_i64 (by omega) (by omega)]; omega
  have e16:wr .i64 (((16+k:Nat):Int) - 16)=((k:Nat):Int):=by have:=ew 16 (by omega); rw [show 16+k - 16=k by omega] at this; exact this
  have e15:wr .i64 (((16+k:Nat):Int) - 15)=((k+1:Nat):Int):=by have:=ew 15 (by omega); rw [show 16+k - 15=k+1 by omega] at this; exact this
  have e7:wr .i64 (((16+k:Nat):Int) - 7)=((k+9:Nat):Int):=by have:=ew 7 (by omega); rw [show 16+k - 7=k+9 by omega] at this; exact this
  have e2:wr .i64 (((16+k:Nat):Int) - 2)=((k+14:Nat):Int):=by have:=ew 2 (by omega); rw [show 16+k - 2=k+14 by omega] at this; exact this
  have en:wr .i64 (((16+k:Nat):Int)+1)=((16+(k+1):Nat):Int):=by rw [wr_i64 (by omega) (by omega)]; omega
  have h:=rb4_R1 s z K ((16+k:Nat):Int) (wK W k)
  have hD:rb4_n1_x1 s z K ((16+k:Nat):Int) (wK W k)=wK W (k+1):=by
   unfold rb4_n1_x1
   rw [e16,e15,e7,e2]
   simp only [Int.toNat_natCast,Nat.zero_add,Nat.mul_one]
   rfl
  rw [hD,en,e16,e15,e7,e2,inR_lt (show k < 80 by omega),inR_lt (show k+1 < 80 by omega),inR_lt (show k+9 < 80 by omega),inR_lt (show k+14 < 80 by omega),inR_lt (show 16+k < 80 by omega),decide_eq_true (show ((16+k:Nat):Int) < 80 by omega)] at h
  exact h rfl rfl
 ·exact rb4_E1 s z K ((16+64:Nat):Int) (wK W 64) rfl rfl
theorem l_rb6 (s z K W t:Nat → Int):LRow prog f_rimeref03_block 6 (famV 5 [] (rb6S s z K W 0 t) .normal (rb6T1 s z K W (tR t K W 80))):=by
 refine LRow.famV mix (N:=20) (S:=fun k=>rb6S s z K W ((k:Nat):Int) (tR t K W k)) 80 rb6_body (fun _ _=>Nat.le_refl _) (fun k hk=>?_) ⟨.exit 6,rfl,?_⟩
 ·have en:wr .i64 ((k:Int)+1)=((k+1:Nat):Int):=by rw [wr_i64 (by omega) (by omega)]; omega
  have h:=rb6_R1 s z K W (k:Int) (tR t K W k)
  have hD:rb6_n1_x1 s z K W (k:Int) (tR t K W k)=tR t K W (k+1):=by
   unfold rb6_n1_x1
   simp only [Int.toNat_natCast,Nat.zero_add,Nat.mul_one]
   rfl
  rw [hD,en,inR_lt hk,decide_eq_true (show (k:Int) < 80 by omega)] at h
  exact h rfl rfl
 ·exact rb6_E1 s z K W ((80:Nat):Int) (tR t K W 80) rfl rfl
end Go.Proofs.YtfpkegodflloiaaGreat
namespace Go.Proofs.YtfpkegodflloiaaGreat
open Go.Proofs.Tryz
open Go Go.AM
def z8:Nat → Int:=fun _=>0
def w0P (b:Nat → Nat → Int) (i:Nat):Nat → (Nat → Nat → Int) → Nat → Nat → Int
 | 0,D=>D
 | j+1,D=>fun r d=>bif Nat.beq r 0 && Nat.beq d i then ior .u64 (ishl .u64 (w0P b i j D 0 i) 8) (wr .u64 (b (8 * i+j) 0)) else w0P b i j D r d
def w0N (b:Nat → Nat → Int):Nat → Nat → Nat → Int
 | 0=>fun _ _=>0
 | i+1=>w0P b i 8 (w0N b i)
noncomputable def rbE (s:Nat → Int) (b:Nat → Nat → Int):EnvP:=envL tt hr3 [] [(6,famV 5 [] (rb6S s z8 (lf kcL) (wK (lf (w0L b)) 64) 0 s) .normal (rb6T1 s z8 (lf kcL) (wK (lf (w0L b)) 64) (tR s (lf kcL) (wK (lf (w0L b)) 64) 80))),(4,famV 4 [] (rb4S s z8 (lf kcL) 16 (lf (w0L b))) .normal (rb4T1 s z8 (lf kcL) (wK (lf (w0L b)) 64)))]
theorem c_block3 (s:Nat → Int) (b:Nat → Nat → Int):fnChk prog (rbE s b) f_rimeref03_block=true:=by kernel_rfl
def rb41 (s:Nat → Int) (z:Nat → Int) (K:Nat → Int) (W:Nat → Nat → Int):St:=⟨tmOf [(2,AV.sc (SV.ptr 0 8 0 0 8)),(4,AV.sc (SV.ptr 1 8 0 0 8)),(5,AV.sc (SV.ptr 2 80 0 0 80)),(6,AV.sc (SV.ptr 3 80 0 0 80)),(9,AV.sc (SV.int IntKind.i64 16))] 179 0,[some (Blk.ints IntKind.u64 8 1 fun _=>s),some (Blk.ints IntKind.u64 8 1 fun _=>z),some (Blk.ints IntKind.u64 80 1 fun _=>K),some (Blk.ints IntKind.u64 80 1 W)]⟩
def addL8 (T s:Nat → Int):List Int:=[wr .u64 (T 0+s 0),wr .u64 (T 1+s 1),wr .u64 (T 2+s 2),wr .u64 (T 3+s 3),wr .u64 (T 4+s 4),wr .u64 (T 5+s 5),wr .u64 (T 6+s 6),wr .u64 (T 7+s 7)]
noncomputable def rbR (s:Nat → Int) (t:Bool) (b:Nat → Nat → Int):Option (Bool × AV):=outP (apFunc (rbE s b) [] 20 f_rimeref03_block [.agg [.ints .u64 8 s],.sc (.vints t .u8 1 128 b)] [])
theorem k_block3v (s:Nat → Int) (t:Bool) (b:Nat → Nat → Int):(rbR s t b).map (·.2)=some (.agg [.ints .u64 8 (lf (addL8 (tR s (lf kcL) (wK (lf (w0L b)) 64) 80) s))]):=by kernel_rfl
theorem k_block3c (s:Nat → Int) (t:Bool) (b:Nat → Nat → Int):(rbR s t b).map (·.1)=some (ckL [stZ [] (rnm 4 []) (rb41 s z8 (lf kcL) (w0N b 16)) (rb4S s z8 (lf kcL) 16 (lf (w0L b))),stZ [] (rnm 5 []) (rb60 s z8 (lf kcL) (wK (lf (w0L b)) 64) s) (rb6S s z8 (lf kcL) (wK (lf (w0L b)) 64) 0 s)]):=by kernel_rfl
end Go.Proofs.YtfpkegodflloiaaGreat
namespace Go.Proofs.YtfpkegodflloiaaGreat
open Go.Proofs.Tryz
open Go Go.AM
theorem w0N_tab (b:Nat → Nat → Int):tabL (w0N b 16 0) 80 0=w0L b:=by kernel_rfl
theorem w0N_eq (b:Nat → Nat → Int):eqF 1 80 (w0N b 16) (fun _=>lf (w0L b))=true:=eqF_of fun r hr d hd=>by
 obtain rfl:r=0:=by omega
 have:=lf_tab (w0N b 16 0) 80 0 d hd
 rw [Nat.zero_add] at this
 rw [← this,w0N_tab]
theorem rb_in4 (s z K:Nat → Int) (b:Nat → Nat → Int):stZ [] (rnm 4 []) (rb41 s z K (w0N b 16)) (rb4S s z K 16 (lf (w0L b)))=true :=
 stZ_tmOf rfl rfl (by
  have e:=w0N_eq b
  simp [hpZ,blkZ,rnm,isZ,kEq_refl,eqF_refl,e])
theorem rb_in6 (s z K W:Nat → Int):stZ [] (rnm 5 []) (rb60 s z K W s) (rb6S s z K W 0 s)=true :=
 stZ_tmOf rfl rfl (by simp [hpZ,blkZ,rnm,isZ,kEq_refl,eqF_refl])
noncomputable def tBlock3:TF:=fun args=>match args with
 | [.agg [.ints .u64 8 s],.sc (.vints _ .u8 1 n b)]=>some (Nat.beq n 128,.agg [.ints .u64 8 (lf (blkL s b (lf kcL)))])
 | _=>none
theorem addL_comm (T s:Nat → Int):addL8 T s=[wr .u64 (s 0+T 0),wr .u64 (s 1+T 1),wr .u64 (s 2+T 2),wr .u64 (s 3+T 3),wr .u64 (s 4+T 4),wr .u64 (s 5+T 5),wr .u64 (s 6+T 6),wr .u64 (s 7+T 7)]:=by
 unfold addL8
 simp only [Int.add_comm]
theorem tR_t0 (s K W:Nat → Int):∀ k,tR (lf (t0L s)) K W (k+1)=tR s K W (k+1)
 | 0=>rfl
 | k+1=>by
  show lf (rndL (tR (lf (t0L s)) K W (k+1)) (K (k+1)) (W (k+1)))=_
  rw [tR_t0 s K W k]; rfl
theorem r_block3:TRow prog F_rimeref03_block tBlock3:=by
 intro args r h
 unfold tBlock3 at h
 split at h
 case h_2=>simp at h
 rename_i s t n b
 simp only [Option.some.injEq,Prod.mk.injEq,beq_t] at h
 obtain ⟨rfl,rfl⟩:=h
 have e:=both (k_block3c s t b) (k_block3v s t b)
 rw [rb_in4,rb_in6,addL_comm] at e
 have e2:blkL s b (lf kcL)=[wr .u64 (s 0+tR s (lf kcL) (wK (lf (w0L b)) 64) 80 0),wr .u64 (s 1+tR s (lf kcL) (wK (lf (w0L b)) 64) 80 1),wr .u64 (s 2+tR s (lf kcL) (wK (lf (w0L b)) 64) 80 2),wr .u64 (s 3+tR s (lf kcL) (wK (lf (w0L b)) 64) 80 3),
   wr .u64 (s 4+tR s (lf kcL) (wK (lf (w0L b)) 64) 80 4),wr .u64 (s 5+tR s (lf kcL) (wK (lf (w0L b)) 64) 80 5),wr .u64 (s 6+tR s (lf kcL) (wK (lf (w0L b)) 64) 80 6),wr .u64 (s 7+tR s (lf kcL) (wK (lf (w0L b)) 64) 80 7)]:=by
  have:blkT s b (lf kcL)=tR s (lf kcL) (wK (lf (w0L b)) 64) 80:=tR_t0 s (lf kcL) (wK (lf (w0L b)) 64) 79
  simp only [blkL,this]
 rw [e2]
 exact pure_of_outL HR3 at_rimeref03_block ((LsOK.nil.cons (l_rb4 _ _ _ _)).cons (l_rb6 _ _ _ _ _)) (c_block3 s b) e
end Go.Proofs.YtfpkegodflloiaaGreat
namespace Go.Proofs.YtfpkegodflloiaaGreat
open Go.Proofs.Tryz
open Go Go.AM
noncomputable def rpaB:Code:=match Func.body f_rimeref03_Pad with | some c=>(match bodiesOf 0 c with | [.loop b]=>b | _=>.skip) | none=>.skip
theorem rpa_body:(Func.body f_rimeref03_Pad).map (bodiesOf 0)=some [.loop rpaB]:=by kernel_rfl
theorem rpa_ok:codeOK prog (EnvP.env (envP tt [] [])).isW rpaB=true:=by kernel_rfl
def rpaS (n:Int) (k1:Nat) (D1:Nat → Nat → Int):St:=⟨tmOf [(0,AV.sc (SV.int IntKind.u64 n)),(4,AV.sc (SV.slice 1 1 0 0 1 k1))] 42 0,[none,some (Blk.ints IntKind.u8 1 k1 D1)]⟩
-- entry: rpaS n (1) (fun r d=>0)  blocks [(some 0)]
def rpa_n1_D1 (n:Int) (k1:Nat) (D1:Nat → Nat → Int):Nat → Nat → Int:=fun r d=>bif Nat.ble (r+1) k1 then D1 (0+r) (0+d) else svInt (cellAt (List.getD [[Seg.ints IntKind.u8 1 fun j=>0]] (0+(r - k1)) []) (0+d))
theorem rpa_r1 (n:Int) (k1:Nat) (D1:Nat → Nat → Int):roundV (envP tt [] []) [(16,true)] 20 1 [] [3] [0,4] [.keep,.keep] rpaB (rpaS n k1 D1) =
 some (ckL [(Int.tmod (wr IntKind.u64 (n+wr IntKind.u64 ↑k1)) 128 != 112) == true,fits (k1+1) 1 && true],(ckL [],(.normal,rpaS n (k1+1) (rpa_n1_D1 n k1 D1)))):=by kernel_rfl
theorem rpa_R1 (n:Int) (k1:Nat) (D1:Nat → Nat → Int) (h:ckL [(Int.tmod (wr IntKind.u64 (n+wr IntKind.u64 ↑k1)) 128 != 112) == true,fits (k1+1) 1 && true]=true) (h':ckL []=true):Rd prog 20 1 rpaB (rpaS n k1 D1) .normal (rpaS n (k1+1) (rpa_n1_D1 n k1 D1)):=Rd.of_round L0 LsOK.nil rpa_body rpa_ok (rpa_r1 n k1 D1) h h'
def rpaT1 (n:Int) (k1:Nat) (D1:Nat → Nat → Int):St:=⟨tmOf [(0,(AV.sc (SV.int IntKind.u64 n))),(4,(AV.sc (SV.slice 1 1 (0) (0) 1 k1)))] 42 0,[none,some (Blk.ints IntKind.u8 1 k1 D1)]⟩
theorem rpa_e1 (n:Int) (k1:Nat) (D1:Nat → Nat → Int):roundV (envP tt [] []) [(16,false)] 20 1 [] [1] [0,4] [.keep,.keep] rpaB (rpaS n k1 D1) =
 some (ckL [(Int.tmod (wr IntKind.u64 (n+wr IntKind.u64 ↑k1)) 128 != 112) == false],(ckL [],((.exit 0),rpaT1 (n) (k1) (D1)))):=by kernel_rfl
theorem rpa_E1 (n:Int) (k1:Nat) (D1:Nat → Nat → Int) (h:ckL [(Int.tmod (wr IntKind.u64 (n+wr IntKind.u64 ↑k1)) 128 != 112) == false]=true) (h':ckL []=true):Rd prog 20 1 rpaB (rpaS n k1 D1) (.exit 0) (rpaT1 (n) (k1) (D1)):=Rd.of_round L0 LsOK.nil rpa_body rpa_ok (rpa_e1 n k1 D1) h h'
noncomputable def rp2B:Code:=match Func.body f_rimeref03_Pad with | some c=>(match bodiesOf 2 c with | [.loop b]=>b | _=>.skip) | none=>.skip
theorem rp2_body:(Func.body f_rimeref03_Pad).map (bodiesOf 2)=some [.loop rp2B]:=by kernel_rfl
theorem rp2_ok:codeOK prog (EnvP.env (envL tt [] [] [])).isW rp2B=true:=by kernel_rfl
def rp2S (n:Int) (i1:Int) (k1:Nat) (D1:Nat → Nat → Int):St:=⟨tmOf [(0,AV.sc (SV.int IntKind.u64 n)),(4,AV.sc (SV.slice 2 1 0 0 1 k1)),(5,AV.sc (SV.int IntKind.i64 i1))] 42 0,[none,none,some (Blk.ints IntKind.u8 1 k1 D1)]⟩
def rp20 (n:Int) (m:Nat) (D:Nat → Nat → Int):St:=⟨tmOf [(0,AV.sc (SV.int IntKind.u64 n)),(4,AV.sc (SV.slice 1 1 0 0 1 m)),(5,AV.sc (SV.int IntKind.i64 0))] 42 0,[none,some (Blk.ints IntKind.u8 1 m D)]⟩
-- entry: rp2S n (0) (m) (fun r d=>0)  blocks [(some 1)]
def rp2_n1_D1 (n:Int) (i1:Int) (k1:Nat) (D1:Nat → Nat → Int):Nat → Nat → Int:=fun r d=>bif Nat.ble (r+1) k1 then D1 (0+r) (0+d) else svInt (cellAt (List.getD [[Seg.ints IntKind.u8 1 fun j=>0]] (0+(r - k1)) []) (0+d))
theorem rp2_r1 (n:Int) (i1:Int) (k1:Nat) (D1:Nat → Nat → Int):roundV (envL tt [] [] []) [(21,true)] 20 2 [] [4] [0,4,5] [.keep,.keep,.keep] rp2B (rp2S n i1 k1 D1) =
 some (ckL [decide (i1 < 8) == true,fits (k1+1) 1 && true],(ckL [],(.normal,rp2S n (wr IntKind.i64 (i1+1)) (k1+1) (rp2_n1_D1 n i1 k1 D1)))):=by kernel_rfl
theorem rp2_R1 (n:Int) (i1:Int) (k1:Nat) (D1:Nat → Nat → Int) (h:ckL [decide (i1 < 8) == true,fits (k1+1) 1 && true]=true) (h':ckL []=true):Rd prog 20 2 rp2B (rp2S n i1 k1 D1) .normal (rp2S n (wr IntKind.i64 (i1+1)) (k1+1) (rp2_n1_D1 n i1 k1 D1)):=Rd.of_round L0 LsOK.nil rp2_body rp2_ok (rp2_r1 n i1 k1 D1) h h'
def rp2T1 (n:Int) (k1:Nat) (D1:Nat → Nat → Int):St:=⟨tmOf [(0,(AV.sc (SV.int IntKind.u64 n))),(4,(AV.sc (SV.slice 2 1 (0) (0) 1 k1)))] 42 0,[none,none,some (Blk.ints IntKind.u8 1 k1 D1)]⟩
theorem rp2_e1 (n:Int) (i1:Int) (k1:Nat) (D1:Nat → Nat → Int):roundV (envL tt [] [] []) [(21,false)] 20 2 [] [2] [0,4] [.keep,.keep,.keep] rp2B (rp2S n i1 k1 D1) =
 some (ckL [decide (i1 < 8) == false],(ckL [],((.exit 2),rp2T1 (n) (k1) (D1)))):=by kernel_rfl
theorem rp2_E1 (n:Int) (i1:Int) (k1:Nat) (D1:Nat → Nat → Int) (h:ckL [decide (i1 < 8) == false]=true) (h':ckL []=true):Rd prog 20 2 rp2B (rp2S n i1 k1 D1) (.exit 2) (rp2T1 (n) (k1) (D1)):=Rd.of_round L0 LsOK.nil rp2_body rp2_ok (rp2_e1 n i1 k1 D1) h h'
noncomputable def rp4B:Code:=match Func.body f_rimeref03_Pad with | some c=>(match bodiesOf 4 c with | [.loop b]=>b | _=>.skip) | none=>.skip
theorem rp4_body:(Func.body f_rimeref03_Pad).map (bodiesOf 4)=some [.loop rp4B]:=by kernel_rfl
theorem rp4_ok:codeOK prog (EnvP.env (envL tt [] [] [])).isW rp4B=true:=by kernel_rfl
def rp4S (n:Int) (i1:Int) (k1:Nat) (D1:Nat → Nat → Int):St:=⟨tmOf [(0,AV.sc (SV.int IntKind.u64 n)),(4,AV.sc (SV.slice 3 1 0 0 1 k1)),(6,AV.sc (SV.int IntKind.i64 i1))] 42 0,[none,none,none,some (Blk.ints IntKind.u8 1 k1 D1)]⟩
def rp40 (n:Int) (m:Nat) (m2:Nat) (D:Nat → Nat → Int) (E2:Nat → Nat → Int):St:=⟨tmOf [(0,AV.sc (SV.int IntKind.u64 n)),(4,AV.sc (SV.slice 2 1 0 0 1 m2)),(6,AV.sc (SV.int IntKind.i64 7))] 42 0,[none,none,some (Blk.ints IntKind.u8 1 m2 E2)]⟩
-- entry: rp4S n (7) (m2) (fun r d=>0)  blocks [(some 2)]
def rp4_n1_D1 (n:Int) (i1:Int) (k1:Nat) (D1:Nat → Nat → Int):Nat → Nat → Int:=fun r d=>bif Nat.ble (r+1) k1 then D1 (0+r) (0+d) else svInt (cellAt (List.getD [[Seg.ints IntKind.u8 1 fun j=>wr IntKind.u8 (ishr IntKind.u64 (wr IntKind.u64 (n * 8)) (wr IntKind.u64 (wr IntKind.i64 (8 * i1))))]] (0+(r - k1)) []) (0+d))
theorem rp4_r1 (n:Int) (i1:Int) (k1:Nat) (D1:Nat → Nat → Int):roundV (envL tt [] [] []) [(28,true)] 20 3 [] [5] [0,4,6] [.keep,.keep,.keep,.keep] rp4B (rp4S n i1 k1 D1) =
 some (ckL [decide (i1 ≥ 0) == true,!decide (wr IntKind.u64 (wr IntKind.i64 (8 * i1)) < 0),fits (k1+1) 1 && true],(ckL [],(.normal,rp4S n (wr IntKind.i64 (i1 - 1)) (k1+1) (rp4_n1_D1 n i1 k1 D1)))):=by kernel_rfl
theorem rp4_R1 (n:Int) (i1:Int) (k1:Nat) (D1:Nat → Nat → Int) (h:ckL [decide (i1 ≥ 0) == true,!decide (wr IntKind.u64 (wr IntKind.i64 (8 * i1)) < 0),fits (k1+1) 1 && true]=true) (h':ckL []=true):Rd prog 20 3 rp4B (rp4S n i1 k1 D1) .normal (rp4S n (wr IntKind.i64 (i1 - 1)) (k1+1) (rp4_n1_D1 n i1 k1 D1)):=Rd.of_round L0 LsOK.nil rp4_body rp4_ok (rp4_r1 n i1 k1 D1) h h'
def rp4T1 (k1:Nat) (D1:Nat → Nat → Int):St:=⟨tmOf [(4,(AV.sc (SV.slice 3 1 (0) (0) 1 k1)))] 42 0,[none,none,none,some (Blk.ints IntKind.u8 1 k1 D1)]⟩
theorem rp4_e1 (n:Int) (i1:Int) (k1:Nat) (D1:Nat → Nat → Int):roundV (envL tt [] [] []) [(28,false)] 20 3 [] [3] [4] [.keep,.keep,.keep,.keep] rp4B (rp4S n i1 k1 D1) =
 some (ckL [decide (i1 ≥ 0) == false],(ckL [],((.exit 4),rp4T1 (k1) (D1)))):=by kernel_rfl
theorem rp4_E1 (n:Int) (i1:Int) (k1:Nat) (D1:Nat → Nat → Int) (h:ckL [decide (i1 ≥ 0) == false]=true) (h':ckL []=true):Rd prog 20 3 rp4B (rp4S n i1 k1 D1) (.exit 4) (rp4T1 (k1) (D1)):=Rd.of_round L0 LsOK.nil rp4_body rp4_ok (rp4_e1 n i1 k1 D1) h h'
end Go.Proofs.YtfpkegodflloiaaGreat
namespace Go.Proofs.YtfpkegodflloiaaGreat
open Go.Proofs.Tryz
open Go Go.AM
noncomputable abbrev pE:EnvP:=envP tt [] []
def big (n:Nat):Bool:=Nat.ble n 4611686018427387904
theorem body_of {fn:Func} {id:Nat} {B:Code} (h:fn.body.map (bodiesOf id)=some [.loop B]):∀ c,fn.body=some c → ∀ b ∈ bodiesOf id c,b=.loop B:=by
 intro c hc b hb
 rw [hc] at h
 simp only [Option.map_some,Option.some.injEq] at h
 rw [h] at hb
 simpa using hb
theorem wr_small {x:Int} (h0:0 ≤ x) (h1:x < 9223372036854775808):wr .i64 x=x:=by
 show IntKind.i64.wrap x=x
 rw [IntKind.wrap_i64]; omega
theorem inR_nat {k n:Nat} (h:k < n):inR k n=true:=by simp [inR]; omega
end Go.Proofs.YtfpkegodflloiaaGreat
namespace Go.Proofs.YtfpkegodflloiaaGreat
open Go.Proofs.Tryz
open Go Go.AM
theorem bls_t {r k:Nat} (h:r < k):Nat.ble (r+1) k=true:=Nat.ble_eq_true_of_le h
theorem bls_f {r k:Nat} (h:¬ r < k):Nat.ble (r+1) k=false:=by
 cases hb:Nat.ble (r+1) k with
 | false=>rfl
 | true=>exact absurd (Nat.le_of_ble_eq_true hb) h
def upto (k:Nat) (f g:Nat → Nat → Int):Nat → Nat → Int:=fun r d=>bif Nat.ble (r+1) k then f r d else g r d
def hp1 (s:St):Nat:=s.hp.length - 1
end Go.Proofs.YtfpkegodflloiaaGreat
namespace Go.Proofs.YtfpkegodflloiaaGreat
open Go.Proofs.Tryz
open Go Go.AM
def apD (k:Nat) (D:Nat → Nat → Int) (kd:IntKind) (z:Nat) (x:Nat → Int):Nat → Nat → Int:=fun r d=>bif Nat.ble (r+1) k then D (0+r) (0+d) else svInt (cellAt (List.getD [[Seg.ints kd z x]] (0+(r - k)) []) (0+d))
theorem apD_lt {k r:Nat} {D:Nat → Nat → Int} {kd:IntKind} {z:Nat} {x:Nat → Int} (h:r < k) (d:Nat):apD k D kd z x r d=D r d:=by
 unfold apD
 rw [bls_t h,Nat.zero_add,Nat.zero_add]; rfl
theorem apD_at {k:Nat} {D:Nat → Nat → Int} {kd:IntKind} {z:Nat} {x:Nat → Int} (d:Nat):apD k D kd z x k d=x d:=by
 unfold apD
 rw [bls_f (Nat.lt_irrefl k),Nat.sub_self]
 show svInt (cellAt [Seg.ints kd z x] (0+d))=x d
 rw [Nat.zero_add]; rfl
theorem rv2 {k:IntKind} {z n:Nat} {f g:Nat → Nat → Int} {a:Int} (h:eqF n z f g=true):rvR (.tup [.sc (.vints true k z n f),.sc (.int .i64 a)]) (.tup [.sc (.vints true k z n g),.sc (.int .i64 a)])=true:=by
 simp [rvR,twR,svR,kEq_refl,h]
end Go.Proofs.YtfpkegodflloiaaGreat
namespace Go.Proofs.YtfpkegodflloiaaGreat
open Go.Proofs.Tryz
open Go Go.AM
theorem rpa_ap (n:Int) (k:Nat) (D:Nat → Nat → Int):rpa_n1_D1 n k D=apD k D .u8 1 (fun _=>0):=rfl
theorem rp2_ap (n i:Int) (k:Nat) (D:Nat → Nat → Int):rp2_n1_D1 n i k D=apD k D .u8 1 (fun _=>0):=rfl
def padX (n i:Int):Int:=wr .u8 (ishr .u64 (wr .u64 (n * 8)) (wr .u64 (wr .i64 (8 * i))))
theorem rp4_ap (n i:Int) (k:Nat) (D:Nat → Nat → Int):rp4_n1_D1 n i k D=apD k D .u8 1 (fun _=>padX n i):=rfl
def padA:Nat → Nat → Nat → Int
 | 0=>fun _ _=>128
 | k+1=>apD (1+k) (padA k) .u8 1 (fun _=>0)
def padB (m:Nat) (D:Nat → Nat → Int):Nat → Nat → Nat → Int
 | 0=>D
 | k+1=>apD (m+k) (padB m D k) .u8 1 (fun _=>0)
def padC (n:Int) (m:Nat) (D:Nat → Nat → Int):Nat → Nat → Nat → Int
 | 0=>D
 | k+1=>apD (m+k) (padC n m D k) .u8 1 (fun _=>padX n (7 - (k:Int)))
theorem padA_at:∀ k r,r < 1+k → padA k r 0=if r=0 then 128 else 0
 | 0,r,h=>by rw [if_pos (by omega)]; rfl
 | k+1,r,h=>by
  show apD (1+k) (padA k) .u8 1 (fun _=>0) r 0=_
  by_cases e:r < 1+k
  ·rw [apD_lt e,padA_at k r e]
  ·obtain rfl:r=1+k:=by omega
   rw [apD_at,if_neg (by omega)]
theorem padB_at (m:Nat) (D:Nat → Nat → Int):∀ k r,r < m+k → padB m D k r 0=if r < m then D r 0 else 0
 | 0,r,h=>by rw [if_pos (show r < m from h)]; rfl
 | k+1,r,h=>by
  show apD (m+k) (padB m D k) .u8 1 (fun _=>0) r 0=_
  by_cases e:r < m+k
  ·rw [apD_lt e,padB_at m D k r e]
  ·obtain rfl:r=m+k:=by omega
   rw [apD_at,if_neg (by omega)]
theorem padC_at (n:Int) (m:Nat) (D:Nat → Nat → Int):∀ k r,r < m+k → padC n m D k r 0=if r < m then D r 0 else padX n (7 - ((r - m:Nat):Int))
 | 0,r,h=>by rw [if_pos (show r < m from h)]; rfl
 | k+1,r,h=>by
  show apD (m+k) (padC n m D k) .u8 1 (fun _=>padX n (7 - (k:Int))) r 0=_
  by_cases e:r < m+k
  ·rw [apD_lt e,padC_at n m D k r e]
  ·obtain rfl:r=m+k:=by omega
   rw [apD_at,if_neg (by omega),show m+k - m=k by omega]
def padM (N:Nat):Nat:=(239 - N % 128) % 128
theorem l_rpa {N:Nat} (hN:N < 2305843009213693952):LRow prog f_rimeref03_Pad 0 (famV 1 [0] (rpaS (N:Int) 1 (fun _ _=>128)) .normal (rpaT1 (N:Int) (1+padM N) (padA (padM N)))):=by
 have ew:∀ k:Nat,k ≤ 200 → Int.tmod (wr .u64 ((N:Int)+wr .u64 (k:Int))) 128=(((N+k) % 128:Nat):Int):=fun k hk=>by
  rw [show wr .u64 (k:Int)=(k:Int) by rw [wr64]; omega,show wr .u64 ((N:Int)+(k:Int))=((N+k:Nat):Int) by rw [wr64]; omega]
  rfl
 have hm:padM N < 128:=by unfold padM; omega
 refine LRow.famV mix (N:=20) (S:=fun k=>rpaS (N:Int) (1+k) (padA k)) (padM N) rpa_body (fun _ _=>by show 1 ≤ 2; omega) (fun k hk=>?_) ⟨.exit 0,rfl,?_⟩
 ·have h:=rpa_R1 (N:Int) (1+k) (padA k)
  rw [rpa_ap,ew (1+k) (by omega)] at h
  refine h ?_ rfl
  have:(((((N+(1+k)) % 128:Nat):Int) != 112) == true)=true:=by unfold padM at hk; simp; omega
  rw [this,show fits (1+k+1) 1=true by simp [fits]; omega]; rfl
 ·have h:=rpa_E1 (N:Int) (1+padM N) (padA (padM N))
  rw [ew (1+padM N) (by omega)] at h
  refine h ?_ rfl
  have:(((((N+(1+padM N)) % 128:Nat):Int) != 112) == false)=true:=by unfold padM; simp; omega
  rw [this]; rfl
theorem l_rp2 (n:Int) {m:Nat} (hm:m ≤ 200) (D:Nat → Nat → Int):LRow prog f_rimeref03_Pad 2 (famV 2 [1] (rp2S n 0 m D) .normal (rp2T1 n (m+8) (padB m D 8))):=by
 refine LRow.famV mix (N:=20) (S:=fun k=>rp2S n ((k:Nat):Int) (m+k) (padB m D k)) 8 rp2_body (fun _ _=>by show 2 ≤ 3; omega) (fun k hk=>?_) ⟨.exit 2,rfl,rp2_E1 n ((8:Nat):Int) (m+8) (padB m D 8) rfl rfl⟩
 have en:wr .i64 ((k:Int)+1)=((k+1:Nat):Int):=by rw [wr_i64 (by omega) (by omega)]; omega
 have h:=rp2_R1 n (k:Int) (m+k) (padB m D k)
 rw [rp2_ap,en,decide_eq_true (show (k:Int) < 8 by omega),show fits (m+k+1) 1=true by simp [fits]; omega] at h
 exact h rfl rfl
theorem l_rp4 (n:Int) {m:Nat} (hm:m ≤ 200) (D:Nat → Nat → Int):LRow prog f_rimeref03_Pad 4 (famV 3 [2] (rp4S n 7 m D) .normal (rp4T1 (m+8) (padC n m D 8))):=by
 refine LRow.famV mix (N:=20) (S:=fun k=>rp4S n (7 - ((k:Nat):Int)) (m+k) (padC n m D k)) 8 rp4_body (fun _ _=>by show 3 ≤ 4; omega) (fun k hk=>?_) ⟨.exit 4,rfl,rp4_E1 n (7 - ((8:Nat):Int)) (m+8) (padC n m D 8) rfl rfl⟩
 have en:wr .i64 (7 - (k:Int) - 1)=7 - ((k+1:Nat):Int):=by rw [wr_i64 (by omega) (by omega)]; omega
 have e8:wr .u64 (wr .i64 (8 * (7 - (k:Int))))=8 * (7 - (k:Int)):=by rw [wr_i64 (by omega) (by omega),wr64]; omega
 have h:=rp4_R1 n (7 - (k:Int)) (m+k) (padC n m D k)
 rw [rp4_ap,en,e8,decide_eq_true (show 7 - (k:Int) ≥ 0 by omega),decide_eq_false (show ¬ 8 * (7 - (k:Int)) < 0 by omega),show fits (m+k+1) 1=true by simp [fits]; omega] at h
 exact h rfl rfl
noncomputable def rpkE (n:Int) (m m2 m3:Nat) (D E2 E3:Nat → Nat → Int):EnvP:=envL tt [] [] [(4,famV 3 [2] (rp4S n 7 m2 E2) .normal (rp4T1 m3 E3)),(2,famV 2 [1] (rp2S n 0 m D) .normal (rp2T1 n m2 E2)),(0,famV 1 [0] (rpaS n 1 (fun _ _=>128)) .normal (rpaT1 n m D))]
theorem rpk_c (n:Int) (m m2 m3:Nat) (D E2 E3:Nat → Nat → Int):fnChk prog (rpkE n m m2 m3 D E2 E3) f_rimeref03_Pad=true:=by kernel_rfl
def rpk0 (n:Int):St:=⟨tmOf [(0,AV.sc (SV.int IntKind.u64 n)),(4,AV.sc (SV.slice 0 1 0 0 1 1))] 42 0,[some (Blk.ints IntKind.u8 1 1 fun r d=>svInt (cellAt (List.getD [[Seg.ints IntKind.u8 1 fun j=>128]] r []) d))]⟩
theorem rpk_k2 (n:Int) (m m2 m3:Nat) (D E2 E3:Nat → Nat → Int):outP (apFunc (rpkE n m m2 m3 D E2 E3) [(8,false)] 20 f_rimeref03_Pad [AV.sc (SV.int IntKind.u64 n)] []) =
  some (ckL [decide (n ≥ 2305843009213693952) == false,stZ [] (rnm 1 [0]) (rpk0 n) (rpaS n 1 fun _ _=>128),stZ [] (rnm 2 [1]) (rp20 n m D) (rp2S n 0 m D),stZ [] (rnm 3 [2]) (rp40 n m m2 D E2) (rp4S n 7 m2 E2)],AV.tup [AV.sc (SV.vints true IntKind.u8 1 m3 fun j d=>E3 (0+j) (0+d)),AV.sc (SV.int IntKind.i64 0)]):=by kernel_rfl
theorem rpk_in0 (n:Int):stZ [] (rnm 1 [0]) (rpk0 n) (rpaS n 1 fun _ _=>128)=true :=
 stZ_tmOf rfl (by simp [tmAt,avZ,svZ,svR,kEq_refl,rIs,rnm]) (by decide)
theorem rpk_in2 (n:Int) (m:Nat) (D:Nat → Nat → Int):stZ [] (rnm 2 [1]) (rp20 n m D) (rp2S n 0 m D)=true :=
 stZ_tmOf rfl (by simp [tmAt,avZ,svZ,svR,kEq_refl,rIs,rnm]) (by simp [hpZ,blkZ,rnm,isZ,kEq_refl,eqF_refl])
theorem rpk_in4 (n:Int) (m m2:Nat) (D E2:Nat → Nat → Int):stZ [] (rnm 3 [2]) (rp40 n m m2 D E2) (rp4S n 7 m2 E2)=true :=
 stZ_tmOf rfl (by simp [tmAt,avZ,svZ,svR,kEq_refl,rIs,rnm]) (by simp [hpZ,blkZ,rnm,isZ,kEq_refl,eqF_refl])
def tPad3:TF:=fun args=>match args with
 | [.sc (.int .u64 n)]=>some (decide (0 ≤ n) && decide (n < 2305843009213693952),.tup [.sc (.vints true .u8 1 (padL n.toNat) (fun j _=>padF n.toNat j)),.sc (.int .i64 0)])
 | _=>none
theorem pad_len (N:Nat):1+padM N+8+8=padL N:=by unfold padM padL; omega
theorem pad_fun {N:Nat} (hN:N < 2305843009213693952) {r:Nat} (hr:r < padL N):padC (N:Int) (1+padM N+8) (padB (1+padM N) (padA (padM N)) 8) 8 r 0=padF N r:=by
 have hl:=pad_len N
 have hm:padM N < 128:=by unfold padM; omega
 rw [padC_at _ _ _ 8 r (by omega)]
 unfold padF
 by_cases h1:r < 1+padM N+8
 ·rw [if_pos h1,padB_at _ _ 8 r h1]
  by_cases h2:r < 1+padM N
  ·rw [if_pos h2,padA_at _ r h2]
   by_cases h3:r=0
   ·rw [if_pos h3,if_pos h3]
   ·rw [if_neg h3,if_neg h3,if_pos (by omega)]
  ·rw [if_neg h2,if_neg (by omega),if_pos (by omega)]
 ·rw [if_neg h1,if_neg (by omega),if_neg (by omega)]
  unfold padX
  have e:wr .u64 (wr .i64 (8 * (7 - ((r - (1+padM N+8):Nat):Int))))=8 * ((padL N - 1 - r:Nat):Int):=by
   rw [wr_i64 (by omega) (by omega),wr64]; omega
  rw [e]
theorem r_pad3:TRow prog F_rimeref03_Pad tPad3:=by
 intro args r h
 unfold tPad3 at h
 split at h
 case h_2=>simp at h
 rename_i n
 simp only [Option.some.injEq,Prod.mk.injEq,Bool.and_eq_true,decide_eq_true_eq] at h
 obtain ⟨⟨h0,h1⟩,rfl⟩:=h
 obtain ⟨N,rfl⟩:=Int.eq_ofNat_of_zero_le h0
 have hN:N < 2305843009213693952:=by omega
 have hm:padM N < 128:=by unfold padM; omega
 have e:=rpk_k2 (N:Int) (1+padM N) (1+padM N+8) (1+padM N+8+8) (padA (padM N)) (padB (1+padM N) (padA (padM N)) 8) (padC (N:Int) (1+padM N+8) (padB (1+padM N) (padA (padM N)) 8) 8)
 rw [rpk_in0,rpk_in2,rpk_in4,decide_eq_false (show ¬ (N:Int) ≥ 2305843009213693952 by omega)] at e
 refine pure_rv (pure_of_outL L0 at_rimeref03_Pad (((LsOK.nil.cons (l_rpa hN)).cons (l_rp2 _ (by omega) _)).cons (l_rp4 _ (by omega) _)) (rpk_c _ _ _ _ _ _ _) e) ?_
 rw [Int.toNat_natCast,← pad_len N]
 have q:eqF (1+padM N+8+8) 1 (fun j d=>padC (N:Int) (1+padM N+8) (padB (1+padM N) (padA (padM N)) 8) 8 (0+j) (0+d)) (fun j _=>padF N j)=true:=eqF_of fun r hr d hd=>by
  obtain rfl:d=0:=by omega
  rw [Nat.zero_add]
  exact pad_fun hN (by rw [← pad_len N]; exact hr)
 exact rv2 q
end Go.Proofs.YtfpkegodflloiaaGreat
namespace Go.Proofs.YtfpkegodflloiaaGreat
open Go.Proofs.Tryz
open Go Go.AM
noncomputable def hr5:List (Nat × TF):=(F_rimeref03_Pad,tPad3) :: (F_rimeref03_block,tBlock3) :: hr3
theorem HR5:LibOK prog tt hr5 []:=(HR3.addT r_block3).addT r_pad3
noncomputable def rf0B:Code:=match Func.body f_rimeref03_Finish with | some c=>(match bodiesOf 0 c with | [.loop b]=>b | _=>.skip) | none=>.skip
theorem rf0_body:(Func.body f_rimeref03_Finish).map (bodiesOf 0)=some [.loop rf0B]:=by kernel_rfl
theorem rf0_ok:codeOK prog (EnvP.env (envP tt hr5 [])).isW rf0B=true:=by kernel_rfl
def rf0S (m:Nat) (f:Nat → Nat → Int) (N:Int) (i1:Int) (x1:Nat → Int):St:=⟨tmOf [(3,AV.sc (SV.ptr 0 8 0 0 8)),(6,AV.sc (SV.ptr 1 64 0 0 64)),(9,AV.sc (SV.slice 3 1 0 0 1 (0+m+padL (Int.toNat N)))),(10,AV.sc (SV.int IntKind.i64 i1))] 56 0,[some (Blk.ints IntKind.u64 8 1 fun r=>x1),some (Blk.ints IntKind.u8 64 1 fun j d=>0),none,some (Blk.ints IntKind.u8 1 (0+m+padL (Int.toNat N)) fun r d=>bif Nat.ble (r+1) (0+m) then f (0+r) (0+d) else padF (Int.toNat N) (r - (0+m)))]⟩
def rf00 (s:Nat → Int) (t:Bool) (m:Nat) (f:Nat → Nat → Int) (N:Int):St:=⟨tmOf [(3,AV.sc (SV.ptr 0 8 0 0 8)),(6,AV.sc (SV.ptr 1 64 0 0 64)),(9,AV.sc (SV.slice 3 1 0 0 1 (0+m+padL (Int.toNat N)))),(10,AV.sc (SV.int IntKind.i64 0))] 56 0,[some (Blk.ints IntKind.u64 8 1 fun j=>s),some (Blk.ints IntKind.u8 64 1 fun j d=>0),none,some (Blk.ints IntKind.u8 1 (0+m+padL (Int.toNat N)) fun r d=>bif Nat.ble (r+1) (0+m) then f (0+r) (0+d) else padF (Int.toNat N) (r - (0+m)))]⟩
-- entry: rf0S m f N (0) (s)  blocks []
noncomputable def rf0_n1_x1 (m:Nat) (f:Nat → Nat → Int) (N:Int) (i1:Int) (x1:Nat → Int):Nat → Int:=lf [lf (blkL (fun j=>x1 (0+j)) (fun j d=>(fun r d=>bif Nat.ble (r+1) (0+m) then f (0+r) (0+d) else padF (Int.toNat N) (r - (0+m))) (0+Int.toNat i1+j) (0+d)) (lf kcL)) 0,lf (blkL (fun j=>x1 (0+j)) (fun j d=>(fun r d=>bif Nat.ble (r+1) (0+m) then f (0+r) (0+d) else padF (Int.toNat N) (r - (0+m))) (0+Int.toNat i1+j) (0+d)) (lf kcL)) 1,lf (blkL (fun j=>x1 (0+j)) (fun j d=>(fun r d=>bif Nat.ble (r+1) (0+m) then f (0+r) (0+d) else padF (Int.toNat N) (r - (0+m))) (0+Int.toNat i1+j) (0+d)) (lf kcL)) 2,lf (blkL (fun j=>x1 (0+j)) (fun j d=>(fun r d=>bif Nat.ble (r+1) (0+m) then f (0+r) (0+d) else padF (Int.toNat N) (r - (0+m))) (0+Int.toNat i1+j) (0+d)) (lf kcL)) 3,lf (blkL (fun j=>x1 (0+j)) (fun j d=>(fun r d=>bif Nat.ble (r+1) (0+m) then f (0+r) (0+d) else padF (Int.toNat N) (r - (0+m))) (0+Int.toNat i1+j) (0+d)) (lf kcL)) 4,lf (blkL (fun j=>x1 (0+j)) (fun j d=>(fun r d=>bif Nat.ble (r+1) (0+m) then f (0+r) (0+d) else padF (Int.toNat N) (r - (0+m))) (0+Int.toNat i1+j) (0+d)) (lf kcL)) 5,lf (blkL (fun j=>x1 (0+j)) (fun j d=>(fun r d=>bif Nat.ble (r+1) (0+m) then f (0+r) (0+d) else padF (Int.toNat N) (r - (0+m))) (0+Int.toNat i1+j) (0+d)) (lf kcL)) 6,lf (blkL (fun j=>x1 (0+j)) (fun j d=>(fun r d=>bif Nat.ble (r+1) (0+m) then f (0+r) (0+d) else padF (Int.toNat N) (r - (0+m))) (0+Int.toNat i1+j) (0+d)) (lf kcL)) 7]
theorem rf0_r1 (m:Nat) (f:Nat → Nat → Int) (N:Int) (i1:Int) (x1:Nat → Int):roundV (envP tt hr5 []) [(28,true)] 5 4 [] [] [3,6,9,10] [.tab,.one,.keep,.keep] rf0B (rf0S m f N i1 x1) =
 some (ckL [decide (wr IntKind.i64 (i1+128) ≤ ↑(0+m+padL (Int.toNat N))) == true,inB i1 (wr IntKind.i64 (i1+128)) && decide (wr IntKind.i64 (i1+128) ≤ ↑(0+m+padL (Int.toNat N))),Nat.beq (Int.toNat (wr IntKind.i64 (i1+128)) - Int.toNat i1) 128],(ckL [],(.normal,rf0S m f N (wr IntKind.i64 (i1+128)) (rf0_n1_x1 m f N i1 x1)))):=by kernel_rfl
theorem rf0_R1 (m:Nat) (f:Nat → Nat → Int) (N:Int) (i1:Int) (x1:Nat → Int) (h:ckL [decide (wr IntKind.i64 (i1+128) ≤ ↑(0+m+padL (Int.toNat N))) == true,inB i1 (wr IntKind.i64 (i1+128)) && decide (wr IntKind.i64 (i1+128) ≤ ↑(0+m+padL (Int.toNat N))),Nat.beq (Int.toNat (wr IntKind.i64 (i1+128)) - Int.toNat i1) 128]=true) (h':ckL []=true):Rd prog 5 4 rf0B (rf0S m f N i1 x1) .normal (rf0S m f N (wr IntKind.i64 (i1+128)) (rf0_n1_x1 m f N i1 x1)):=Rd.of_round HR5 LsOK.nil rf0_body rf0_ok (rf0_r1 m f N i1 x1) h h'
def rf0T1 (x1:Nat → Int) (y2:Nat) (y3:Nat → Nat → Int):St:=⟨tmOf [(3,(AV.sc (SV.ptr 0 8 0 0 8))),(6,(AV.sc (SV.ptr 1 64 0 0 64)))] 56 0,[some (Blk.ints IntKind.u64 8 1 (fun _=>x1)),some (Blk.ints IntKind.u8 64 1 (fun _=>(fun d=>0))),none,some (Blk.ints IntKind.u8 1 y2 y3)]⟩
theorem rf0_e1 (m:Nat) (f:Nat → Nat → Int) (N:Int) (i1:Int) (x1:Nat → Int):roundV (envP tt hr5 []) [(28,false)] 5 4 [] [] [3,6] [.one,.one,.keep,.keep] rf0B (rf0S m f N i1 x1) =
 some (ckL [decide (wr IntKind.i64 (i1+128) ≤ ↑(0+m+padL (Int.toNat N))) == false],(ckL [],((.exit 0),rf0T1 (x1) (0+m+padL (Int.toNat N)) (fun r d=>bif Nat.ble (r+1) (0+m) then f (0+r) (0+d) else padF (Int.toNat N) (r - (0+m)))))):=by kernel_rfl
theorem rf0_E1 (m:Nat) (f:Nat → Nat → Int) (N:Int) (i1:Int) (x1:Nat → Int) (h:ckL [decide (wr IntKind.i64 (i1+128) ≤ ↑(0+m+padL (Int.toNat N))) == false]=true) (h':ckL []=true):Rd prog 5 4 rf0B (rf0S m f N i1 x1) (.exit 0) (rf0T1 (x1) (0+m+padL (Int.toNat N)) (fun r d=>bif Nat.ble (r+1) (0+m) then f (0+r) (0+d) else padF (Int.toNat N) (r - (0+m)))):=Rd.of_round HR5 LsOK.nil rf0_body rf0_ok (rf0_e1 m f N i1 x1) h h'
noncomputable def rs0B:Code:=match Func.body f_rimeref03_Sum with | some c=>(match bodiesOf 0 c with | [.loop b]=>b | _=>.skip) | none=>.skip
theorem rs0_body:(Func.body f_rimeref03_Sum).map (bodiesOf 0)=some [.loop rs0B]:=by kernel_rfl
theorem rs0_ok:codeOK prog (EnvP.env (envP tt hr5 [])).isW rs0B=true:=by kernel_rfl
def rs0S (t:Bool) (m:Nat) (f:Nat → Nat → Int) (i1:Int) (x1:Nat → Int):St:=⟨tmOf [(0,AV.sc (SV.vints t IntKind.u8 1 m f)),(2,AV.sc (SV.ptr 0 64 0 0 64)),(3,AV.sc (SV.ptr 1 8 0 0 8)),(4,AV.sc (SV.int IntKind.i64 i1))] 28 0,[some (Blk.ints IntKind.u8 64 1 fun j d=>0),some (Blk.ints IntKind.u64 8 1 fun r=>x1)]⟩
def rs00 (t:Bool) (m:Nat) (f:Nat → Nat → Int):St:=⟨tmOf [(0,AV.sc (SV.vints t IntKind.u8 1 m f)),(2,AV.sc (SV.ptr 0 64 0 0 64)),(3,AV.sc (SV.ptr 1 8 0 0 8)),(4,AV.sc (SV.int IntKind.i64 0))] 28 0,[some (Blk.ints IntKind.u8 64 1 fun j d=>0),some (Blk.ints IntKind.u64 8 1 fun r d=>bif Nat.beq r 0 && (Nat.ble 0 d && Nat.ble (d+1) 8) then lf [7640891576956012808,13503953896175478587,4354685564936845355,11912009170470909681,5840696475078001361,11170449401992604703,2270897969802886507,6620516959819538809] (d - 0) else 0)]⟩
-- entry: rs0S t m f (0) (fun d=>bif Nat.ble 0 d && Nat.ble (d+1) 8 then lf [7640891576956012808,13503953896175478587,4354685564936845355,11912009170470909681,5840696475078001361,11170449401992604703,2270897969802886507,6620516959819538809] (d - 0) else 0)  blocks []
noncomputable def rs0_n1_x1 (t:Bool) (m:Nat) (f:Nat → Nat → Int) (i1:Int) (x1:Nat → Int):Nat → Int:=lf [lf (blkL (fun j=>x1 (0+j)) (fun j=>f (Int.toNat i1+j)) (lf kcL)) 0,lf (blkL (fun j=>x1 (0+j)) (fun j=>f (Int.toNat i1+j)) (lf kcL)) 1,lf (blkL (fun j=>x1 (0+j)) (fun j=>f (Int.toNat i1+j)) (lf kcL)) 2,lf (blkL (fun j=>x1 (0+j)) (fun j=>f (Int.toNat i1+j)) (lf kcL)) 3,lf (blkL (fun j=>x1 (0+j)) (fun j=>f (Int.toNat i1+j)) (lf kcL)) 4,lf (blkL (fun j=>x1 (0+j)) (fun j=>f (Int.toNat i1+j)) (lf kcL)) 5,lf (blkL (fun j=>x1 (0+j)) (fun j=>f (Int.toNat i1+j)) (lf kcL)) 6,lf (blkL (fun j=>x1 (0+j)) (fun j=>f (Int.toNat i1+j)) (lf kcL)) 7]
theorem rs0_r1 (t:Bool) (m:Nat) (f:Nat → Nat → Int) (i1:Int) (x1:Nat → Int):roundV (envP tt hr5 []) [(10,true)] 5 2 [] [] [0,2,3,4] [.one,.tab] rs0B (rs0S t m f i1 x1) =
 some (ckL [decide (wr IntKind.i64 (i1+128) ≤ ↑m) == true,inB i1 (wr IntKind.i64 (i1+128)) && decide (wr IntKind.i64 (i1+128) ≤ ↑m),Nat.beq (Int.toNat (wr IntKind.i64 (i1+128)) - Int.toNat i1) 128],(ckL [],(.normal,rs0S t m f (wr IntKind.i64 (i1+128)) (rs0_n1_x1 t m f i1 x1)))):=by kernel_rfl
theorem rs0_R1 (t:Bool) (m:Nat) (f:Nat → Nat → Int) (i1:Int) (x1:Nat → Int) (h:ckL [decide (wr IntKind.i64 (i1+128) ≤ ↑m) == true,inB i1 (wr IntKind.i64 (i1+128)) && decide (wr IntKind.i64 (i1+128) ≤ ↑m),Nat.beq (Int.toNat (wr IntKind.i64 (i1+128)) - Int.toNat i1) 128]=true) (h':ckL []=true):Rd prog 5 2 rs0B (rs0S t m f i1 x1) .normal (rs0S t m f (wr IntKind.i64 (i1+128)) (rs0_n1_x1 t m f i1 x1)):=Rd.of_round HR5 LsOK.nil rs0_body rs0_ok (rs0_r1 t m f i1 x1) h h'
def rs0T1 (t:Bool) (m:Nat) (f:Nat → Nat → Int) (i1:Int) (x1:Nat → Int):St:=⟨tmOf [(0,(AV.sc (SV.vints t IntKind.u8 1 m f))),(2,(AV.sc (SV.ptr 0 64 0 0 64))),(3,(AV.sc (SV.ptr 1 8 0 0 8))),(4,(AV.sc (SV.int IntKind.i64 i1)))] 28 0,[some (Blk.ints IntKind.u8 64 1 (fun _=>(fun d=>0))),some (Blk.ints IntKind.u64 8 1 (fun _=>x1))]⟩
theorem rs0_e1 (t:Bool) (m:Nat) (f:Nat → Nat → Int) (i1:Int) (x1:Nat → Int):roundV (envP tt hr5 []) [(10,false)] 5 2 [] [] [0,2,3,4] [.one,.one] rs0B (rs0S t m f i1 x1) =
 some (ckL [decide (wr IntKind.i64 (i1+128) ≤ ↑m) == false],(ckL [],((.exit 0),rs0T1 (t) (m) (f) (i1) (x1)))):=by kernel_rfl
theorem rs0_E1 (t:Bool) (m:Nat) (f:Nat → Nat → Int) (i1:Int) (x1:Nat → Int) (h:ckL [decide (wr IntKind.i64 (i1+128) ≤ ↑m) == false]=true) (h':ckL []=true):Rd prog 5 2 rs0B (rs0S t m f i1 x1) (.exit 0) (rs0T1 (t) (m) (f) (i1) (x1)):=Rd.of_round HR5 LsOK.nil rs0_body rs0_ok (rs0_e1 t m f i1 x1) h h'
def fnC (m:Nat) (f:Nat → Nat → Int) (N:Nat):Nat → Nat → Int:=fun r d=>bif Nat.ble (r+1) (0+m) then f (0+r) (0+d) else padF N (r - (0+m))
theorem fnC_cat (m:Nat) (f:Nat → Nat → Int) (N:Nat) (r:Nat):fnC m f N r 0=catF m (fun j=>f j 0) (padF N) r:=by
 unfold fnC catF
 rw [Nat.zero_add,Nat.zero_add]
theorem rf0_blk (m:Nat) (f:Nat → Nat → Int) (N i:Int) (x:Nat → Int):rf0_n1_x1 m f N i x=lf (blkL (fun j=>x (0+j)) (fun j d=>fnC m f N.toNat (0+i.toNat+j) (0+d)) (lf kcL)):=rfl
theorem eta0 (x:Nat → Int):(fun j=>x (0+j))=x:=funext fun j=>by rw [Nat.zero_add]
theorem l_rf0 (s:Nat → Int) {m:Nat} (f:Nat → Nat → Int) {N:Nat} (hm:m+padL N ≤ 1099511627776):LRow prog f_rimeref03_Finish 0 (famV 4 [] (rf0S m f (N:Int) 0 s) .normal (rf0T1 (hWk (lf kcL) s (catF m (fun j=>f j 0) (padF N)) ((m+padL N) / 128)) (0+m+padL N) (fnC m f N))):=by
 refine LRow.famV mix (N:=5) (S:=fun k=>rf0S m f (N:Int) ((128 * k:Nat):Int) (hWk (lf kcL) s (catF m (fun j=>f j 0) (padF N)) k)) ((m+padL N) / 128) rf0_body (fun _ _=>Nat.le_refl _) (fun k hk=>?_) ⟨.exit 0,rfl,?_⟩
 ·have en:wr .i64 (((128 * k:Nat):Int)+128)=((128 * (k+1):Nat):Int):=by rw [wr_i64 (by omega) (by omega)]; omega
  have h:=rf0_R1 m f (N:Int) ((128 * k:Nat):Int) (hWk (lf kcL) s (catF m (fun j=>f j 0) (padF N)) k)
  have hx:rf0_n1_x1 m f (N:Int) ((128 * k:Nat):Int) (hWk (lf kcL) s (catF m (fun j=>f j 0) (padF N)) k)=hWk (lf kcL) s (catF m (fun j=>f j 0) (padF N)) (k+1):=by
   rw [rf0_blk,eta0,Int.toNat_natCast,Int.toNat_natCast]
   refine congrArg lf (blkL_congr fun j hj=>?_)
   rw [Nat.zero_add,Nat.zero_add]
   exact fnC_cat m f N (128 * k+j)
  rw [hx,en,Int.toNat_natCast,Int.toNat_natCast,Int.toNat_natCast,Nat.zero_add,decide_eq_true (show ((128 * (k+1):Nat):Int) ≤ ((m+padL N:Nat):Int) by omega),show 128 * (k+1) - 128 * k=128 by omega] at h
  rw [show inB ((128 * k:Nat):Int) ((128 * (k+1):Nat):Int)=true by simp [inB]; omega] at h
  exact h rfl rfl
 ·have h:=rf0_E1 m f (N:Int) ((128 * ((m+padL N) / 128):Nat):Int) (hWk (lf kcL) s (catF m (fun j=>f j 0) (padF N)) ((m+padL N) / 128))
  rw [wr_i64 (by omega) (by omega),Int.toNat_natCast] at h
  refine h ?_ rfl
  rw [decide_eq_false (by omega)]; rfl
noncomputable def rfE (s:Nat → Int) (m:Nat) (f:Nat → Nat → Int) (N:Int) (x:Nat → Int) (q:Nat) (y:Nat → Nat → Int):EnvP:=envL tt hr5 [] [(0,famV 4 [] (rf0S m f N 0 s) .normal (rf0T1 x q y))]
theorem c_fin3 (s:Nat → Int) (m:Nat) (f:Nat → Nat → Int) (N:Int) (x:Nat → Int) (q:Nat) (y:Nat → Nat → Int):fnChk prog (rfE s m f N x q y) f_rimeref03_Finish=true:=by kernel_rfl
theorem k_fin3 (s:Nat → Int) (t:Bool) (m:Nat) (f:Nat → Nat → Int) (N:Int) (x:Nat → Int) (q:Nat) (y:Nat → Nat → Int):outP (apFunc (rfE s m f N x q y) [] 70 f_rimeref03_Finish [.agg [.ints .u64 8 s],.sc (.vints t .u8 1 m f),.sc (.int .u64 N)] []) =
  some (ckL [decide (0 ≤ N) && decide (N < 2305843009213693952),fits (0+m) 1 && true,fits (0+m+padL N.toNat) 1 && true,stZ [] (rnm 4 []) (rf00 s t m f N) (rf0S m f N 0 s)],.agg [.ints .u8 64 (lf (outL x))]):=by kernel_rfl
theorem rf_in (s:Nat → Int) (t:Bool) (m:Nat) (f:Nat → Nat → Int) (N:Int):stZ [] (rnm 4 []) (rf00 s t m f N) (rf0S m f N 0 s)=true :=
 stZ_tmOf rfl (by simp [tmAt,avZ,svZ,svR,kEq_refl,rIs,rnm]) (by simp [hpZ,blkZ,rnm,isZ,kEq_refl,eqF_refl])
noncomputable def tFin3:TF:=fun args=>match args with
 | [.agg [.ints .u64 8 s],.sc (.vints _ .u8 1 m f),.sc (.int .u64 N)]=>some ((decide (0 ≤ N) && decide (N < 2305843009213693952)) && Nat.ble m 1000000000000,.agg [.ints .u8 64 (lf (outL (hWk (lf kcL) s (catF m (fun j=>f j 0) (padF N.toNat)) ((m+padL N.toNat) / 128))))])
 | _=>none
theorem r_fin3:TRow prog F_rimeref03_Finish tFin3:=by
 intro args r h
 unfold tFin3 at h
 split at h
 case h_2=>simp at h
 rename_i s t m f n
 simp only [Option.some.injEq,Prod.mk.injEq,Bool.and_eq_true,decide_eq_true_eq,ble_t] at h
 obtain ⟨⟨⟨h0,h1⟩,hm⟩,rfl⟩:=h
 obtain ⟨N,rfl⟩:=Int.eq_ofNat_of_zero_le h0
 rw [Int.toNat_natCast]
 have hp:=padL_sum N
 have e:=k_fin3 s t m f (N:Int) (hWk (lf kcL) s (catF m (fun j=>f j 0) (padF N)) ((m+padL N) / 128)) (0+m+padL N) (fnC m f N)
 rw [rf_in,Int.toNat_natCast,decide_eq_true h0,decide_eq_true h1,show fits (0+m) 1=true by simp [fits]; omega,show fits (0+m+padL N) 1=true by simp [fits]; omega] at e
 exact pure_of_outL HR5 at_rimeref03_Finish (LsOK.nil.cons (l_rf0 s f (by omega))) (c_fin3 _ _ _ _ _ _ _) e
noncomputable def hr6:List (Nat × TF):=(F_rimeref03_Finish,tFin3) :: hr5
theorem HR6:LibOK prog tt hr6 []:=HR5.addT r_fin3
theorem rs0_blk (t:Bool) (m:Nat) (f:Nat → Nat → Int) (i:Int) (x:Nat → Int):rs0_n1_x1 t m f i x=lf (blkL (fun j=>x (0+j)) (fun j=>f (i.toNat+j)) (lf kcL)):=rfl
theorem l_rs0 (t:Bool) {m:Nat} (f:Nat → Nat → Int) (hm:m ≤ 1099511627776):LRow prog f_rimeref03_Sum 0 (famV 2 [] (rs0S t m f 0 (lf bcL)) .normal (rs0T1 t m f ((128 * (m / 128):Nat):Int) (hWk (lf kcL) (lf bcL) (fun j=>f j 0) (m / 128)))):=by
 refine LRow.famV mix (N:=5) (S:=fun k=>rs0S t m f ((128 * k:Nat):Int) (hWk (lf kcL) (lf bcL) (fun j=>f j 0) k)) (m / 128) rs0_body (fun _ _=>Nat.le_refl _) (fun k hk=>?_) ⟨.exit 0,rfl,?_⟩
 ·have en:wr .i64 (((128 * k:Nat):Int)+128)=((128 * (k+1):Nat):Int):=by rw [wr_i64 (by omega) (by omega)]; omega
  have h:=rs0_R1 t m f ((128 * k:Nat):Int) (hWk (lf kcL) (lf bcL) (fun j=>f j 0) k)
  have hx:rs0_n1_x1 t m f ((128 * k:Nat):Int) (hWk (lf kcL) (lf bcL) (fun j=>f j 0) k)=hWk (lf kcL) (lf bcL) (fun j=>f j 0) (k+1):=by
   rw [rs0_blk,eta0,Int.toNat_natCast]
   exact congrArg lf (blkL_congr fun j hj=>rfl)
  rw [hx,en,Int.toNat_natCast,Int.toNat_natCast,decide_eq_true (show ((128 * (k+1):Nat):Int) ≤ (m:Int) by omega),show 128 * (k+1) - 128 * k=128 by omega] at h
  rw [show inB ((128 * k:Nat):Int) ((128 * (k+1):Nat):Int)=true by simp [inB]; omega] at h
  exact h rfl rfl
 ·have h:=rs0_E1 t m f ((128 * (m / 128):Nat):Int) (hWk (lf kcL) (lf bcL) (fun j=>f j 0) (m / 128))
  rw [wr_i64 (by omega) (by omega)] at h
  refine h ?_ rfl
  rw [decide_eq_false (by omega)]; rfl
noncomputable def rsE (t:Bool) (m:Nat) (f:Nat → Nat → Int) (i:Int) (x:Nat → Int):EnvP:=envL tt hr6 [] [(0,famV 2 [] (rs0S t m f 0 (lf bcL)) .normal (rs0T1 t m f i x))]
theorem c_sum3 (t:Bool) (m:Nat) (f:Nat → Nat → Int) (i:Int) (x:Nat → Int):fnChk prog (rsE t m f i x) f_rimeref03_Sum=true:=by kernel_rfl
theorem k_sum3 (t:Bool) (m:Nat) (f:Nat → Nat → Int) (i:Int) (x:Nat → Int):outP (apFunc (rsE t m f i x) [] 5 f_rimeref03_Sum [.sc (.vints t .u8 1 m f)] []) =
  some (ckL [stZ [] (rnm 2 []) (rs00 t m f) (rs0S t m f 0 (lf bcL)),inB i (m:Int),(decide (0 ≤ wr .u64 (m:Int)) && decide (wr .u64 (m:Int) < 2305843009213693952)) && Nat.ble (m - i.toNat) 1000000000000],
   .agg [.ints .u8 64 (lf (tabL (lf (outL (hWk (lf kcL) (fun j=>x (0+j)) (catF (m - i.toNat) (fun j=>f (i.toNat+j) 0) (padF (wr .u64 (m:Int)).toNat)) ((m - i.toNat+padL (wr .u64 (m:Int)).toNat) / 128)))) 64 0))]):=by kernel_rfl
theorem rs_bc:eqF 1 8 (fun r d=>bif Nat.beq r 0 && (Nat.ble 0 d && Nat.ble (d+1) 8) then lf [7640891576956012808,13503953896175478587,4354685564936845355,11912009170470909681,5840696475078001361,11170449401992604703,2270897969802886507,6620516959819538809] (d - 0) else 0) (fun _=>lf bcL)=true:=by kernel_rfl
theorem rs_in (t:Bool) (m:Nat) (f:Nat → Nat → Int):stZ [] (rnm 2 []) (rs00 t m f) (rs0S t m f 0 (lf bcL))=true :=
 stZ_tmOf rfl (by simp [tmAt,avZ,svZ,svR,kEq_refl,rIs,rnm,eqF_refl]) (by
  have e:=rs_bc
  simp only [hpZ,blkZ,rnm,isZ,kEq_refl,eqF_refl,e]
  rfl)
noncomputable def tSum3:TF:=fun args=>match args with
 | [.sc (.vints _ .u8 1 m f)]=>some (Nat.ble m 1099511627776,.agg [.ints .u8 64 (lf (digL (lf kcL) (lf bcL) m (fun j=>f j 0)))])
 | _=>none
theorem r_sum3:TRow prog F_rimeref03_Sum tSum3:=by
 intro args r h
 unfold tSum3 at h
 split at h
 case h_2=>simp at h
 rename_i t m f
 simp only [Option.some.injEq,Prod.mk.injEq,ble_t] at h
 obtain ⟨hm,rfl⟩:=h
 have e:=k_sum3 t m f ((128 * (m / 128):Nat):Int) (hWk (lf kcL) (lf bcL) (fun j=>f j 0) (m / 128))
 have eu:wr .u64 (m:Int)=(m:Int):=by rw [wr64]; omega
 have en:m - 128 * (m / 128)=m % 128:=by omega
 rw [rs_in,eu,Int.toNat_natCast,Int.toNat_natCast,en,eta0,decide_eq_true (show (0:Int) ≤ (m:Int) by omega),decide_eq_true (show (m:Int) < 2305843009213693952 by omega),show inB ((128 * (m / 128):Nat):Int) (m:Int)=true by simp [inB]; omega,show Nat.ble (m % 128) 1000000000000=true from Nat.ble_eq_true_of_le (by omega)] at e
 have e2:outL (hWk (lf kcL) (hWk (lf kcL) (lf bcL) (fun j=>f j 0) (m / 128)) (catF (m % 128) (fun j=>f (128 * (m / 128)+j) 0) (padF m)) ((m % 128+padL m) / 128))=digL (lf kcL) (lf bcL) m (fun j=>f j 0):=by
  rw [← dig_law (kf:=lf kcL) (W0:=lf bcL) (F:=fun j=>f j 0) (n:=m)]
  refine outL_congr fun d hd=>hWk_init (fun d hd=>?_) _ d hd
  have:=lf_tab (hWk (lf kcL) (lf bcL) (fun j=>f j 0) (m / 128)) 8 0 d hd
  rw [Nat.zero_add] at this
  exact this.symm
 rw [e2] at e
 have h1:=pure_of_outL HR6 at_rimeref03_Sum (LsOK.nil.cons (l_rs0 t f hm)) (c_sum3 t m f _ _) e
 refine pure_rv h1 ?_
 simp only [rvR,segR,kEq_refl,nbeq_refl,Bool.and_self,Bool.true_and,Bool.and_true]
 exact eqN_of fun d hd=>by
  have:=lf_tab (lf (digL (lf kcL) (lf bcL) m (fun j=>f j 0))) 64 0 d hd
  rwa [Nat.zero_add] at this
noncomputable def hr7:List (Nat × TF):=(F_rimeref03_Sum,tSum3) :: hr6
theorem HR7:LibOK prog tt hr7 []:=HR6.addT r_sum3
end Go.Proofs.YtfpkegodflloiaaGreat
namespace Go.Proofs.YtfpkegodflloiaaGreat
open Go.Proofs.Tryz
open Go Go.AM
def tMul64:TF:=fun args=>match args with
 | [.sc (.int .u64 x),.sc (.int .u64 y)]=>some (inU x && inU y,.tup [.sc (.int .u64 (x * y / 18446744073709551616)),.sc (.int .u64 (x * y % 18446744073709551616))])
 | _=>none
theorem c_mul64:fnChk prog (envP tt ts6 []) f_bits_Mul64=true:=by kernel_rfl
theorem k_mul64 (x y:Int):outP (apFunc (envP tt ts6 []) [] 50 f_bits_Mul64 [.sc (.int .u64 x),.sc (.int .u64 y)] [])=some (true,.tup [.sc (.int .u64 (mHi x y)),.sc (.int .u64 (wr .u64 (x * y)))]):=by kernel_rfl
theorem r_mul64:TRow prog F_bits_Mul64 tMul64:=by
 intro args r h
 unfold tMul64 at h
 split at h
 case h_2=>simp at h
 rename_i x y
 simp only [Option.some.injEq,Prod.mk.injEq,Bool.and_eq_true] at h
 obtain ⟨⟨hx,hy⟩,rfl⟩:=h
 refine pure_of_out L6 at_bits_Mul64 c_mul64 (N:=50) (gs:=[]) ?_
 rw [k_mul64 x y,mHi_law (inU_t hx) (inU_t hy),wr64]
def ts7:List (Nat × TF):=(F_bits_Mul64,tMul64) :: ts6
theorem L7:LibOK prog tt ts7 []:=L6.addT r_mul64
def tMuladd:TF:=fun args=>match args with
 | [.sc (.int .u64 a),.sc (.int .u64 b),.sc (.int .u64 x),.sc (.int .u64 c)]=>some (inU a && (inU b && (inU x && inU c)),.tup [.sc (.int .u64 ((a * b+x+c) / 18446744073709551616)),.sc (.int .u64 ((a * b+x+c) % 18446744073709551616))])
 | _=>none
theorem c_muladd:fnChk prog (envP tt ts7 []) f_scalar_muladd=true:=by kernel_rfl
def muladdV (a b x c:Int):AV :=
 let lo:=a * b % 18446744073709551616
 let lo2:=addLo lo x false
 .tup [.sc (.int .u64 (wr .u64 (wr .u64 (a * b / 18446744073709551616+b2i (addC lo x false))+b2i (addC lo2 c false)))),.sc (.int .u64 (addLo lo2 c false))]
theorem k_muladd (a b x c:Int):outP (apFunc (envP tt ts7 []) [] 50 f_scalar_muladd [.sc (.int .u64 a),.sc (.int .u64 b),.sc (.int .u64 x),.sc (.int .u64 c)] []) =
  some (ckL [inU a && inU b,inU (a * b % 18446744073709551616) && inU x,inU (addLo (a * b % 18446744073709551616) x false) && inU c],muladdV a b x c):=by kernel_rfl
theorem r_muladd:TRow prog F_scalar_muladd tMuladd:=by
 intro args r h
 unfold tMuladd at h
 split at h
 case h_2=>simp at h
 rename_i a b x c
 simp only [Option.some.injEq,Prod.mk.injEq,Bool.and_eq_true] at h
 obtain ⟨⟨ha,hb,hx,hc⟩,rfl⟩:=h
 refine pure_of_out L7 at_scalar_muladd c_muladd (N:=50) (gs:=[]) ?_
 obtain ⟨e1,e2⟩:=muladd_law (inU_t ha) (inU_t hb) (inU_t hx) (inU_t hc)
 rw [k_muladd a b x c]
 simp only [muladdV,e1,e2]
 simp [ckL,ha,hb,hx,hc,inU_mod,inU_addLo]
def ts8:List (Nat × TF):=(F_scalar_muladd,tMuladd) :: ts7
theorem L8:LibOK prog tt ts8 []:=L7.addT r_muladd
def tRadix:TF:=fun args=>match args with
 | []=>some (true,u4 (lf [11819153939886771969,14991950615390032711,14910419812499177061,259310039853996605]))
 | _=>none
theorem c_radix:fnChk prog (envP tt ts8 []) f_scalar_radix=true:=by kernel_rfl
theorem r_radix:TRow prog F_scalar_radix tRadix:=by
 intro args r h
 unfold tRadix at h
 split at h
 case h_2=>simp at h
 simp only [Option.some.injEq,Prod.mk.injEq,true_and] at h
 subst h
 exact pure_of_out L8 at_scalar_radix c_radix (N:=50) (gs:=[]) (by kernel_rfl)
def ts9:List (Nat × TF):=(F_scalar_radix,tRadix) :: ts8
theorem L9:LibOK prog tt ts9 []:=L8.addT r_radix
end Go.Proofs.YtfpkegodflloiaaGreat
namespace Go.Proofs.YtfpkegodflloiaaGreat
open Go.Proofs.Tryz
open Go Go.AM
noncomputable def montB:Code:=match f_scalar_mont.body with | some c=>(match bodiesOf 0 c with | [.loop b]=>b | _=>.skip) | none=>.skip
def montT:List (Nat × AV):=[(2,.sc (.ptr 0 4 0 0 4)),(3,.sc (.ptr 1 4 0 0 4)),(4,.sc (.ptr 2 4 0 0 4)),(5,.sc (.ptr 3 4 0 0 4)),(6,.sc (.ptr 4 6 0 0 6))]
def montH (fa fb fr ft:Nat → Int):Heap:=[some (.ints .u64 4 1 (fun _ d=>fa d)),some (.ints .u64 4 1 (fun _ d=>fb d)),some (.ints .u64 4 1 (fun _ d=>fr d)),some (.ints .u64 4 1 (fun _ d=>limbs4 ordL d)),some (.ints .u64 6 1 (fun _ d=>ft d))]
def montS (k:Nat) (fa fb fr ft:Nat → Int):St:=⟨tmOf ((14,.sc (.int .i64 (k:Int))) :: montT) 101 0,montH fa fb fr ft⟩
abbrev mE:EnvP:=envP tt ts9 []
noncomputable def mRun (k:Nat) (fa fb fr ft:Nat → Int):Option (Ex × PS):=ap mE [] 20 montB ⟨true,montS k fa fb fr ft⟩
theorem m_c (fa fb fr ft:Nat → Int) (k:Nat) (hk:k < 4):exP (mRun k fa fb fr ft)=some .normal ∧ (stP (mRun k fa fb fr ft)).ck=ckL (iterCk (fa k) fb ft) ∧ cells 6 (stP (mRun k fa fb fr ft)) 4=iter (fa k) fb ft ∧
  cells 4 (stP (mRun k fa fb fr ft)) 0=[fa 0,fa 1,fa 2,fa 3] ∧ cells 4 (stP (mRun k fa fb fr ft)) 1=[fb 0,fb 1,fb 2,fb 3] ∧ cells 4 (stP (mRun k fa fb fr ft)) 2=[fr 0,fr 1,fr 2,fr 3] ∧
  cells 4 (stP (mRun k fa fb fr ft)) 3=[limbs4 ordL 0,limbs4 ordL 1,limbs4 ordL 2,limbs4 ordL 3] ∧ getA (stP (mRun k fa fb fr ft)).st.tm 14=.sc (.int .i64 ((k+1:Nat):Int)) ∧ (stP (mRun k fa fb fr ft)).st.tm.length=101:=by
 match k,hk with
 | 0,_=>exact ⟨by kernel_rfl,by kernel_rfl,by kernel_rfl,by kernel_rfl,by kernel_rfl,by kernel_rfl,by kernel_rfl,by kernel_rfl,by kernel_rfl⟩
 | 1,_=>exact ⟨by kernel_rfl,by kernel_rfl,by kernel_rfl,by kernel_rfl,by kernel_rfl,by kernel_rfl,by kernel_rfl,by kernel_rfl,by kernel_rfl⟩
 | 2,_=>exact ⟨by kernel_rfl,by kernel_rfl,by kernel_rfl,by kernel_rfl,by kernel_rfl,by kernel_rfl,by kernel_rfl,by kernel_rfl,by kernel_rfl⟩
 | 3,_=>exact ⟨by kernel_rfl,by kernel_rfl,by kernel_rfl,by kernel_rfl,by kernel_rfl,by kernel_rfl,by kernel_rfl,by kernel_rfl,by kernel_rfl⟩
def mPlaces (x:PS):Bool :=
 let p:=fun (v:AV) (id sz:Nat)=>match v with | .sc (.ptr a b i c e)=>Nat.beq a id && (Nat.beq b sz && (Nat.beq i 0 && (Nat.beq c 0 && Nat.beq e sz))) | _=>false
 Nat.ble 5 x.st.hp.length && (p (getA x.st.tm 2) 0 4 && (p (getA x.st.tm 3) 1 4 && (p (getA x.st.tm 4) 2 4 && (p (getA x.st.tm 5) 3 4 && p (getA x.st.tm 6) 4 6))))
def mShape (x:PS):List (Option (IntKind × (Nat × Nat))):=[AM.shape x 0,AM.shape x 1,AM.shape x 2,AM.shape x 3,AM.shape x 4]
theorem m_p (fa fb fr ft:Nat → Int) (k:Nat) (hk:k < 4):mPlaces (stP (mRun k fa fb fr ft))=true ∧ mShape (stP (mRun k fa fb fr ft))=[some (.u64,4,1),some (.u64,4,1),some (.u64,4,1),some (.u64,4,1),some (.u64,6,1)]:=by
 match k,hk with
 | 0,_=>exact ⟨by kernel_rfl,by kernel_rfl⟩
 | 1,_=>exact ⟨by kernel_rfl,by kernel_rfl⟩
 | 2,_=>exact ⟨by kernel_rfl,by kernel_rfl⟩
 | 3,_=>exact ⟨by kernel_rfl,by kernel_rfl⟩
theorem m_stop (fa fb fr ft:Nat → Int):exP (mRun 4 fa fb fr ft)=some (.exit 0) ∧ (stP (mRun 4 fa fb fr ft)).ck=true ∧ mPlaces (stP (mRun 4 fa fb fr ft))=true ∧
  mShape (stP (mRun 4 fa fb fr ft))=[some (.u64,4,1),some (.u64,4,1),some (.u64,4,1),some (.u64,4,1),some (.u64,6,1)] ∧ (stP (mRun 4 fa fb fr ft)).st.hp=montH fa fb fr ft:=by
 exact ⟨by kernel_rfl,by kernel_rfl,by kernel_rfl,by kernel_rfl,by kernel_rfl⟩
theorem mPlaces_t {x:PS} (h:mPlaces x=true):5 ≤ x.st.hp.length ∧ getA x.st.tm 2=.sc (.ptr 0 4 0 0 4) ∧ getA x.st.tm 3=.sc (.ptr 1 4 0 0 4) ∧ getA x.st.tm 4=.sc (.ptr 2 4 0 0 4) ∧ getA x.st.tm 5=.sc (.ptr 3 4 0 0 4) ∧ getA x.st.tm 6=.sc (.ptr 4 6 0 0 6):=by
 have q:∀ (v:AV) (id sz:Nat),(match v with | .sc (.ptr a b i c e)=>Nat.beq a id && (Nat.beq b sz && (Nat.beq i 0 && (Nat.beq c 0 && Nat.beq e sz))) | _=>false)=true → v=.sc (.ptr id sz 0 0 sz):=by
  intro v id sz hv
  split at hv
  ·simp only [Bool.and_eq_true,beq_t] at hv
   obtain ⟨rfl,rfl,rfl,rfl,rfl⟩:=hv; rfl
  ·simp at hv
 simp only [mPlaces,Bool.and_eq_true,ble_t] at h
 obtain ⟨h0,h2,h3,h4,h5,h6⟩:=h
 exact ⟨h0,q _ _ _ h2,q _ _ _ h3,q _ _ _ h4,q _ _ _ h5,q _ _ _ h6⟩
theorem m_next {x:PS} {fa fb fr ft g:Nat → Int} {k:Nat} (hp:mPlaces x=true) (hs:mShape x=[some (.u64,4,1),some (.u64,4,1),some (.u64,4,1),some (.u64,4,1),some (.u64,6,1)])
  (h0:cells 4 x 0=tabL fa 4 0) (h1:cells 4 x 1=tabL fb 4 0) (h2:cells 4 x 2=tabL fr 4 0) (h3:cells 4 x 3=tabL (limbs4 ordL) 4 0) (h4:cells 6 x 4=tabL g 6 0)
  (ht:getA x.st.tm 14=.sc (.int .i64 (k:Int))) (hl:x.st.tm.length=101):StLe x.st (montS k fa fb fr g):=by
 obtain ⟨p0,p2,p3,p4,p5,p6⟩:=mPlaces_t hp
 simp only [mShape,List.cons.injEq,and_true] at hs
 obtain ⟨s0,s1,s2,s3,s4⟩:=hs
 refine ⟨tmOf_le (n:=5) hl ?_,p0,fun id c hc=>?_⟩
 ·intro p hpm
  simp only [montT,List.mem_cons,List.not_mem_nil,or_false] at hpm
  rcases hpm with rfl | rfl | rfl | rfl | rfl | rfl
  ·rw [ht]; exact ALe.sc (SLe.int _ _ _)
  ·rw [p2]; exact ALe.sc (SLe.ptr (by omega) _ _ _ _)
  ·rw [p3]; exact ALe.sc (SLe.ptr (by omega) _ _ _ _)
  ·rw [p4]; exact ALe.sc (SLe.ptr (by omega) _ _ _ _)
  ·rw [p5]; exact ALe.sc (SLe.ptr (by omega) _ _ _ _)
  ·rw [p6]; exact ALe.sc (SLe.ptr (by omega) _ _ _ _)
 ·match id with
  | 0=>simp only [montS,montH,List.getElem?_cons_zero,Option.some.injEq] at hc; subst hc; exact cells_ble s0 h0
  | 1=>simp only [montS,montH,List.getElem?_cons_succ,List.getElem?_cons_zero,Option.some.injEq] at hc; subst hc; exact cells_ble s1 h1
  | 2=>simp only [montS,montH,List.getElem?_cons_succ,List.getElem?_cons_zero,Option.some.injEq] at hc; subst hc; exact cells_ble s2 h2
  | 3=>simp only [montS,montH,List.getElem?_cons_succ,List.getElem?_cons_zero,Option.some.injEq] at hc; subst hc; exact cells_ble s3 h3
  | 4=>simp only [montS,montH,List.getElem?_cons_succ,List.getElem?_cons_zero,Option.some.injEq] at hc; subst hc; exact cells_ble s4 h4
  | n+5=>simp [montS,montH] at hc
theorem inU4_at {f:Nat → Int} (h:inU4 f=true):∀ k,k < 4 → 0 ≤ f k ∧ f k < 18446744073709551616
 | 0,_=>(inU4_t h).1
 | 1,_=>(inU4_t h).2.1
 | 2,_=>(inU4_t h).2.2.1
 | 3,_=>(inU4_t h).2.2.2
 | n+4,h=>by omega
theorem m_am {fa fb fr ft:Nat → Int} {k:Nat} {e:Ex} (he:exP (mRun k fa fb fr ft)=some e) (hck:(stP (mRun k fa fb fr ft)).ck=true):am mE.env 20 montB (montS k fa fb fr ft)=some (e,(stP (mRun k fa fb fr ft)).st):=by
 unfold mRun at *
 exact am_of_ap he hck
theorem m_step (fa fb fr ft:Nat → Int) (k:Nat) (hk:k < 4) (ha:inU4 fa=true) (hb:inU4 fb=true) (ht:inU5 ft=true) :
  ∃ s1,am mE.env 20 montB (montS k fa fb fr ft)=some (.normal,s1) ∧ StLe s1 (montS (k+1) fa fb fr (lf (iter (fa k) fb ft))):=by
 have hk':=inU4_at ha k hk
 have hc:=iterCk_law hk' hb ht
 obtain ⟨e1,e2,e3,e4,e5,e6,e7,e8,e9⟩:=m_c fa fb fr ft k hk
 obtain ⟨q1,q2⟩:=m_p fa fb fr ft k hk
 generalize hx:mRun k fa fb fr ft=x at *
 rw [hc] at e2
 have:=m_am (k:=k) (fa:=fa) (fb:=fb) (fr:=fr) (ft:=ft) (e:=.normal) (by rw [hx]; exact e1) (by rw [hx]; exact e2)
 rw [hx] at this
 refine ⟨_,this,m_next (ft:=ft) q1 q2 e4 e5 e6 e7 ?_ e8 e9⟩
 rw [e3]; rfl
end Go.Proofs.YtfpkegodflloiaaGreat
namespace Go.Proofs.YtfpkegodflloiaaGreat
open Go.Proofs.Tryz
open Go Go.AM
def isP (v:AV) (id sz:Nat):Bool:=match v with | .sc (.ptr a b i c e)=>Nat.beq a id && (Nat.beq b sz && (Nat.beq i 0 && (Nat.beq c 0 && Nat.beq e sz))) | _=>false
def isI (v:AV) (n:Int):Bool:=match v with | .sc (.int .i64 x)=>decide (x=n) | _=>false
def isB4 (k:IntKind) (s n sz:Nat):Bool:=kEq k .u64 && (Nat.beq s sz && Nat.beq n 1)
def montF:LF:=fun s=>match s.hp with
 | [some (.ints k0 s0 n0 fa),some (.ints k1 s1 n1 fb),some (.ints k2 s2 n2 fr),some (.ints k3 s3 n3 fo),some (.ints k4 s4 n4 ft)] =>
  some ((isB4 k0 s0 n0 4 && (isB4 k1 s1 n1 4 && (isB4 k2 s2 n2 4 && (isB4 k3 s3 n3 4 && isB4 k4 s4 n4 6)))) &&
   ((isP (getA s.tm 2) 0 4 && (isP (getA s.tm 3) 1 4 && (isP (getA s.tm 4) 2 4 && (isP (getA s.tm 5) 3 4 && isP (getA s.tm 6) 4 6)))) &&
   (isI (getA s.tm 14) 0 && (Nat.beq s.tm.length 101 && (eqN 4 (fo 0) (limbs4 ordL) && (eqN 6 (ft 0) (lf [0,0,0,0,0,0]) && (inU4 (fa 0) && inU4 (fb 0))))))),
   (.normal,⟨tmOf montT 101 0,montH (fa 0) (fb 0) (fr 0) (lf (tK (fa 0) (fb 0) 4))⟩))
 | _=>none
theorem mb:f_scalar_mont.body.map (bodiesOf 0)=some [.loop montB]:=by kernel_rfl
theorem mok:codeOK prog mE.env.isW montB=true:=by kernel_rfl
theorem isP_t {v:AV} {id sz:Nat} (h:isP v id sz=true):v=.sc (.ptr id sz 0 0 sz):=by
 unfold isP at h
 split at h
 ·simp only [Bool.and_eq_true,beq_t] at h
  obtain ⟨rfl,rfl,rfl,rfl,rfl⟩:=h; rfl
 ·simp at h
theorem isI_t {v:AV} {n:Int} (h:isI v n=true):v=.sc (.int .i64 n):=by
 unfold isI at h
 split at h
 ·rw [dec_t.1 h]
 ·simp at h
theorem isB4_t {k:IntKind} {s n sz:Nat} (h:isB4 k s n sz=true):k=.u64 ∧ s=sz ∧ n=1:=by
 simpa only [isB4,Bool.and_eq_true,kEq_t,beq_t] using h
theorem eqN_t_mont2 {n:Nat} {f g:Nat → Int} (h:eqN n f g=true):∀ c,c < n → f c=g c:=fun c hc=>by
 have:=List.all_eq_true.1 h c (by simpa using hc)
 simpa using this
theorem l_mont_body:∀ c,f_scalar_mont.body=some c → ∀ b ∈ bodiesOf 0 c,b=.loop montB:=by
 intro c hc b hb
 have:=mb
 rw [hc] at this
 simp only [Option.map_some,Option.some.injEq] at this
 rw [this] at hb
 simpa using hb
theorem tK_U {a b:Nat → Int} (ha:inU4 a=true) (hb:inU4 b=true):∀ k,k ≤ 4 → inU5 (lf (tK a b k))=true
 | 0,_=>rfl
 | k+1,hk=>by
  obtain ⟨m,_,_,_,h⟩:=iter_law (inU4_at ha k (by omega)) hb (tK_U ha hb k (by omega))
  exact h
theorem m_len (fa fb fr ft:Nat → Int):(stP (mRun 4 fa fb fr ft)).st.tm.length=101:=by kernel_rfl
theorem m_end (fa fb fr ft:Nat → Int):∃ s1,am mE.env 20 montB (montS 4 fa fb fr ft)=some (.exit 0,s1) ∧ StLe s1 ⟨tmOf montT 101 0,montH fa fb fr ft⟩:=by
 obtain ⟨e1,e2,e3,_,e5⟩:=m_stop fa fb fr ft
 have el:=m_len fa fb fr ft
 have ha:=m_am (k:=4) e1 e2
 generalize stP (mRun 4 fa fb fr ft)=x at *
 obtain ⟨p0,p2,p3,p4,p5,p6⟩:=mPlaces_t e3
 refine ⟨_,ha,tmOf_le (n:=5) el ?_,by rw [e5]; exact Nat.le_refl _,fun id c hc=>?_⟩
 ·intro p hpm
  simp only [montT,List.mem_cons,List.not_mem_nil,or_false] at hpm
  rcases hpm with rfl | rfl | rfl | rfl | rfl
  ·rw [p2]; exact ALe.sc (SLe.ptr (by omega) _ _ _ _)
  ·rw [p3]; exact ALe.sc (SLe.ptr (by omega) _ _ _ _)
  ·rw [p4]; exact ALe.sc (SLe.ptr (by omega) _ _ _ _)
  ·rw [p5]; exact ALe.sc (SLe.ptr (by omega) _ _ _ _)
  ·rw [p6]; exact ALe.sc (SLe.ptr (by omega) _ _ _ _)
 ·rw [e5]
  refine ⟨c,hc,?_⟩
  match id with
  | 0=>simp only [montH,List.getElem?_cons_zero,Option.some.injEq] at hc; subst hc; exact BLe.ints fun _ _ _ _=>rfl
  | 1=>simp only [montH,List.getElem?_cons_succ,List.getElem?_cons_zero,Option.some.injEq] at hc; subst hc; exact BLe.ints fun _ _ _ _=>rfl
  | 2=>simp only [montH,List.getElem?_cons_succ,List.getElem?_cons_zero,Option.some.injEq] at hc; subst hc; exact BLe.ints fun _ _ _ _=>rfl
  | 3=>simp only [montH,List.getElem?_cons_succ,List.getElem?_cons_zero,Option.some.injEq] at hc; subst hc; exact BLe.ints fun _ _ _ _=>rfl
  | 4=>simp only [montH,List.getElem?_cons_succ,List.getElem?_cons_zero,Option.some.injEq] at hc; subst hc; exact BLe.ints fun _ _ _ _=>rfl
  | n+5=>simp [montH] at hc
theorem l_mont:LRow prog f_scalar_mont 0 montF:=by
 refine LRow.loop (L9.env []) mix (N:=20) (body:=montB) l_mont_body mok (fun w0 own0=>accOK_none (fun id=>rfl) montB) ?_
 intro s e s' h
 unfold montF at h
 split at h
 case h_2=>simp at h
 rename_i k0 s0 n0 fa k1 s1 n1 fb k2 s2 n2 fr k3 s3 n3 fo k4 s4 n4 ft hh
 simp only [Option.some.injEq,Prod.mk.injEq,Bool.and_eq_true,beq_t] at h
 obtain ⟨⟨⟨b0,b1,b2,b3,b4⟩,⟨p2,p3,p4,p5,p6⟩,i14,hl,ho,ht,ha,hb⟩,rfl,rfl⟩:=h
 obtain ⟨rfl,rfl,rfl⟩:=isB4_t b0
 obtain ⟨rfl,rfl,rfl⟩:=isB4_t b1
 obtain ⟨rfl,rfl,rfl⟩:=isB4_t b2
 obtain ⟨rfl,rfl,rfl⟩:=isB4_t b3
 obtain ⟨rfl,rfl,rfl⟩:=isB4_t b4
 have ho:=eqN_t_mont2 ho
 have ht:=eqN_t_mont2 ht
 refine ⟨rfl,fun i hi=>?_,fun k=>montS k (fa 0) (fb 0) (fr 0) (lf (tK (fa 0) (fb 0) k)),4,?_,by rw [hh]; rfl,fun _ _=>rfl,Nat.le_refl _,fun k hk=>?_,?_⟩
 ·rw [hh] at hi
  match i,hi with
  | 0,hi=>simp at hi
  | 1,hi=>simp at hi
  | 2,hi=>simp at hi
  | 3,hi=>simp at hi
  | 4,hi=>simp at hi
  | n+5,hi=>simp at hi
 ·refine ⟨tmOf_le (n:=5) hl ?_,by rw [hh]; exact Nat.le_refl _,fun id c hc=>?_⟩
  ·intro p hpm
   simp only [montT,List.mem_cons,List.not_mem_nil,or_false] at hpm
   rcases hpm with rfl | rfl | rfl | rfl | rfl | rfl
   ·rw [isI_t i14]; exact ALe.sc (SLe.int _ _ _)
   ·rw [isP_t p2]; exact ALe.sc (SLe.ptr (by omega) _ _ _ _)
   ·rw [isP_t p3]; exact ALe.sc (SLe.ptr (by omega) _ _ _ _)
   ·rw [isP_t p4]; exact ALe.sc (SLe.ptr (by omega) _ _ _ _)
   ·rw [isP_t p5]; exact ALe.sc (SLe.ptr (by omega) _ _ _ _)
   ·rw [isP_t p6]; exact ALe.sc (SLe.ptr (by omega) _ _ _ _)
  ·rw [hh]
   match id with
   | 0=>simp only [montS,montH,List.getElem?_cons_zero,Option.some.injEq] at hc; subst hc; exact ⟨_,rfl,BLe.ints fun r hr d hd=>by obtain rfl:r=0:=(by omega); rfl⟩
   | 1=>simp only [montS,montH,List.getElem?_cons_succ,List.getElem?_cons_zero,Option.some.injEq] at hc; subst hc; exact ⟨_,rfl,BLe.ints fun r hr d hd=>by obtain rfl:r=0:=(by omega); rfl⟩
   | 2=>simp only [montS,montH,List.getElem?_cons_succ,List.getElem?_cons_zero,Option.some.injEq] at hc; subst hc; exact ⟨_,rfl,BLe.ints fun r hr d hd=>by obtain rfl:r=0:=(by omega); rfl⟩
   | 3=>simp only [montS,montH,List.getElem?_cons_succ,List.getElem?_cons_zero,Option.some.injEq] at hc; subst hc; exact ⟨_,rfl,BLe.ints fun r hr d hd=>by obtain rfl:r=0:=(by omega); exact ho d hd⟩
   | 4=>simp only [montS,montH,List.getElem?_cons_succ,List.getElem?_cons_zero,Option.some.injEq] at hc; subst hc; exact ⟨_,rfl,BLe.ints fun r hr d hd=>by obtain rfl:r=0:=(by omega); exact ht d hd⟩
   | n+5=>simp [montS,montH] at hc
 ·exact m_step (fa 0) (fb 0) (fr 0) (lf (tK (fa 0) (fb 0) k)) k hk ha hb (tK_U ha hb k (by omega))
 ·exact m_end _ _ _ _
end Go.Proofs.YtfpkegodflloiaaGreat
namespace Go.Proofs.YtfpkegodflloiaaGreat
open Go.Proofs.Tryz
open Go Go.AM
theorem c_mont:fnChk prog (envL tt ts9 [] [(0,montF)]) f_scalar_mont=true:=by kernel_rfl
theorem k_mont (a b:Nat → Int):((outP (apFunc (envL tt ts9 [] [(0,montF)]) [] 50 f_scalar_mont [u4 a,u4 b] [])).map (·.2))=some (n4 (low (val4 (lf [lf (tK a b 4) 0,lf (tK a b 4) 1,lf (tK a b 4) 2,lf (tK a b 4) 3])))):=by kernel_rfl
theorem ck_mont (a b:Nat → Int):((outP (apFunc (envL tt ts9 [] [(0,montF)]) [] 50 f_scalar_mont [u4 a,u4 b] [])).map (·.1))=some (ckL [inU4 a && inU4 b,inU4 (lf [lf (tK a b 4) 0,lf (tK a b 4) 1,lf (tK a b 4) 2,lf (tK a b 4) 3])]):=by kernel_rfl
def tMont:TF:=fun args=>match args with
 | [.agg [.ints .u64 4 a],.agg [.ints .u64 4 b]]=>some (inU4 a && (inU4 b && decide (val4 a * val4 b < ordL * 115792089237316195423570985008687907853269984665640564039457584007913129639936)),n4 (val4 a * val4 b * rInv % ordL))
 | _=>none
theorem r_mont:TRow prog F_scalar_mont tMont:=by
 intro args r h
 unfold tMont at h
 split at h
 case h_2=>simp at h
 rename_i a b
 simp only [Option.some.injEq,Prod.mk.injEq,Bool.and_eq_true,decide_eq_true_eq] at h
 obtain ⟨⟨ha,hb,hlt⟩,rfl⟩:=h
 refine pure_of_outL L9 at_scalar_mont (LsOK.nil.cons l_mont) c_mont (N:=50) (gs:=[]) ?_
 have e:=both (ck_mont a b) (k_mont a b)
 simp only [u4] at e
 rw [e]
 have hU:=tK_U ha hb 4 (by omega)
 have h4:inU4 (lf [lf (tK a b 4) 0,lf (tK a b 4) 1,lf (tK a b 4) 2,lf (tK a b 4) 3])=true:=by
  simp only [inU5,Bool.and_eq_true] at hU
  simp only [inU4,lf,hU,Bool.and_self]
 have hv:low (val4 (lf [lf (tK a b 4) 0,lf (tK a b 4) 1,lf (tK a b 4) 2,lf (tK a b 4) 3]))=val4 a * val4 b * rInv % ordL:=mont_law ha hb hlt
 rw [hv]
 simp [ckL,ha,hb,h4]
end Go.Proofs.YtfpkegodflloiaaGreat
namespace Go.Proofs.YtfpkegodflloiaaGreat
open Go.Proofs.Tryz
open Go Go.AM
def ts10:List (Nat × TF):=(F_scalar_Add,tAdd) :: (F_scalar_IsZero,tIsZero) :: (F_scalar_mont,tMont) :: ts9
theorem L10:LibOK prog tt ts10 []:=((L9.addT r_mont).addT r_isZero).addT r_add
def R2L:Nat → Int:=lf [11819153939886771969,14991950615390032711,14910419812499177061,259310039853996605]
def tTimes:TF:=fun args=>match args with
 | [.agg [.ints .u64 4 a],.agg [.ints .u64 4 b]]=>some (inU4 a && (inU4 b && decide (val4 a * val4 b < ordL * 115792089237316195423570985008687907853269984665640564039457584007913129639936)),n4 (val4 a * val4 b % ordL))
 | _=>none
theorem c_times:fnChk prog (envP tt ts10 []) f_scalar_times=true:=by kernel_rfl
theorem k_times (a b:Nat → Int):outP (apFunc (envP tt ts10 []) [] 5 f_scalar_times [u4 a,u4 b] []) =
  some (ckL [inU4 a && (inU4 b && decide (val4 a * val4 b < ordL * 115792089237316195423570985008687907853269984665640564039457584007913129639936)),
   inU4 (limbs4 (val4 a * val4 b * rInv % ordL)) && (inU4 R2L && decide (val4 (limbs4 (val4 a * val4 b * rInv % ordL)) * val4 R2L < ordL * 115792089237316195423570985008687907853269984665640564039457584007913129639936))],
   n4 (val4 (limbs4 (val4 a * val4 b * rInv % ordL)) * val4 R2L * rInv % ordL)):=by kernel_rfl
theorem R2L_val:val4 R2L=1627715501170711445284395025044413883736156588369414752970002579683115011841:=by decide
theorem r_times:TRow prog F_scalar_times tTimes:=by
 intro args r h
 unfold tTimes at h
 split at h
 case h_2=>simp at h
 rename_i a b
 simp only [Option.some.injEq,Prod.mk.injEq] at h
 obtain ⟨hc,rfl⟩:=h
 refine pure_of_out L10 at_scalar_times c_times (N:=5) (gs:=[]) ?_
 have e:=k_times a b
 have hm:=modL_range (val4 a * val4 b * rInv)
 have hv:val4 (limbs4 (val4 a * val4 b * rInv % ordL))=val4 a * val4 b * rInv % ordL:=val4_limbs hm.1 (by omega)
 rw [hc,hv,R2L_val,rInv2,inU4_limbs,show inU4 R2L=true by decide] at e
 have hlt:val4 a * val4 b * rInv % ordL * 1627715501170711445284395025044413883736156588369414752970002579683115011841 < ordL * 115792089237316195423570985008687907853269984665640564039457584007913129639936:=by
  generalize val4 a * val4 b * rInv % ordL=x at *
  unfold ordL at *
  omega
 rw [decide_eq_true hlt] at e
 exact e
def ts11:List (Nat × TF):=(F_scalar_times,tTimes) :: ts10
theorem L11:LibOK prog tt ts11 []:=L10.addT r_times
def CC:Int:=hval (lf (byL 32 (val4 (lf [0,0,0,1])))) 32 0
def pc (f:Nat → Nat → Int) (at_ n:Nat):Nat → Int:=fun c=>bif Nat.ble (c+1) n then f (at_+c) 0 else 0
def stV (v:Int) (p:Nat → Int):Int:=low ((val4 (limbs4 (v * val4 (limbs4 CC) % ordL))+val4 (limbs4 (hval p 32 0 % ordL))) % 115792089237316195423570985008687907853269984665640564039457584007913129639936)
def stCk (r p:Nat → Int):List Bool:=[areB (lf (byL 32 (val4 (lf [0,0,0,1])))) 32 0,inU4 r && (inU4 (limbs4 CC) && decide (val4 r * val4 (limbs4 CC) < ordL * 115792089237316195423570985008687907853269984665640564039457584007913129639936)),areB p 32 0,
 inU4 (limbs4 (val4 r * val4 (limbs4 CC) % ordL)) && inU4 (limbs4 (hval p 32 0 % ordL))]
def r1L (f:Nat → Nat → Int):Nat → Int:=limbs4 (stV (val4 (fun _=>0)) (pc f 48 16))
def r2L (f:Nat → Nat → Int):Nat → Int:=limbs4 (stV (val4 (r1L f)) (pc f 24 24))
def r3L (f:Nat → Nat → Int):Nat → Int:=limbs4 (stV (val4 (r2L f)) (pc f 0 24))
theorem c_reduce:fnChk prog (envP tt ts11 []) f_scalar_Reduce=true:=by kernel_rfl
theorem k_reduce64 (t:Bool) (f:Nat → Nat → Int):(outP (apFunc (envP tt ts11 []) [] 5 f_scalar_Reduce [.sc (.vints t .u8 1 64 f)] [])).map (·.2)=some (b32 (val4 (r3L f))):=by kernel_rfl
theorem ck_reduce64 (t:Bool) (f:Nat → Nat → Int):(outP (apFunc (envP tt ts11 []) [] 5 f_scalar_Reduce [.sc (.vints t .u8 1 64 f)] [])).map (·.1) =
  some (ckL ([inU4 (lf [0,0,0,1])] ++ (stCk (fun _=>0) (pc f 48 16) ++ (stCk (r1L f) (pc f 24 24) ++ (stCk (r2L f) (pc f 0 24) ++ [inU4 (r3L f)]))))):=by kernel_rfl
theorem CC_eq:CC=6277101735386680763835789423207666416102355444464034512896:=by decide
theorem CC_val:val4 (limbs4 CC)=6277101735386680763835789423207666416102355444464034512896:=by rw [CC_eq]; exact val4_limbs (by decide) (by decide)
theorem stV_law (v:Int) (p:Nat → Int):stV v p=(v * 6277101735386680763835789423207666416102355444464034512896+hval p 32 0) % ordL:=by
 unfold stV
 have h1:=modL_range (v * val4 (limbs4 CC))
 have h2:=modL_range (hval p 32 0)
 rw [val4_limbs h1.1 (by omega),val4_limbs h2.1 (by omega),low_add,CC_val]
theorem stV_range (v:Int) (p:Nat → Int):0 ≤ stV v p ∧ stV v p < ordL ∧ ordL < 115792089237316195423570985008687907853269984665640564039457584007913129639936:=by rw [stV_law]; exact modL_range _
theorem hval_congr2 {s t:Nat → Int}:∀ {n j j':Nat},(∀ i,i < n → s (j+i)=t (j'+i)) → hval s n j=hval t n j'
 | 0,_,_,_=>rfl
 | n+1,j,j',h=>by
  have h0:s j=t j':=h 0 (by omega)
  have e:hval s n (j+1)=hval t n (j'+1):=hval_congr2 fun i hi=>by
   have:=h (i+1) (by omega)
   rw [show j+(i+1)=j+1+i by omega,show j'+(i+1)=j'+1+i by omega] at this
   exact this
  simp only [hval,h0,e]
theorem pc_hval (f:Nat → Nat → Int) (a n:Nat) (hn:n ≤ 32):hval (pc f a n) 32 0=hval (fun j=>f j 0) n a:=by
 rw [show (32:Nat)=n+(32 - n) by omega,hval_add,hval_zero (n:=32 - n) fun i hi=>by
  unfold pc
  have:Nat.ble (0+n+i+1) n=false:=by cases hb:Nat.ble (0+n+i+1) n with | false=>rfl | true=>exact absurd (Nat.le_of_ble_eq_true hb) (by omega)
  rw [this]; rfl]
 rw [Int.mul_zero,Int.add_zero]
 exact hval_congr2 fun i hi=>by
  unfold pc
  rw [show Nat.ble (0+i+1) n=true from Nat.ble_eq_true_of_le (by omega),Nat.zero_add]; rfl
theorem areB_of {s:Nat → Int}:∀ {n j:Nat},(∀ i,i < n → 0 ≤ s (j+i) ∧ s (j+i) < 256) → areB s n j=true
 | 0,_,_=>rfl
 | n+1,j,h=>by
  simp only [areB,Bool.and_eq_true]
  refine ⟨by have:=h 0 (by omega); simpa [isB] using this,areB_of fun i hi=>?_⟩
  have:=h (i+1) (by omega)
  rw [show j+(i+1)=j+1+i by omega] at this
  exact this
theorem pc_areB {f:Nat → Nat → Int} {m:Nat} (h:areB (fun j=>f j 0) m 0=true) (a n:Nat) (hn:a+n ≤ m):areB (pc f a n) 32 0=true:=by
 refine areB_of fun i hi=>?_
 unfold pc
 cases hb:Nat.ble (0+i+1) n with
 | false=>exact ⟨Int.le_refl 0,show (0:Int) < 256 by decide⟩
 | true =>
  have:=Nat.le_of_ble_eq_true hb
  have h2:=areB_t h (a+(0+i)) (by omega)
  rw [Nat.zero_add] at h2
  exact h2
theorem red64 {f:Nat → Nat → Int}:r3L f=limbs4 (hval (fun j=>f j 0) 64 0 % ordL):=by
 have v1:val4 (r1L f)=stV (val4 (fun _=>0)) (pc f 48 16):=val4_limbs (stV_range _ _).1 (by have:=stV_range (val4 (fun _=>0)) (pc f 48 16); omega)
 have v2:val4 (r2L f)=stV (val4 (r1L f)) (pc f 24 24):=val4_limbs (stV_range _ _).1 (by have:=stV_range (val4 (r1L f)) (pc f 24 24); omega)
 unfold r3L
 rw [stV_law,v2,stV_law,v1,stV_law,pc_hval f 48 16 (by omega),pc_hval f 24 24 (by omega),pc_hval f 0 24 (by omega)]
 have z:val4 (fun _=>(0:Int))=0:=by decide
 rw [z]
 have e1:=hval_add (fun j=>f j 0) 24 40 0
 have e2:=hval_add (fun j=>f j 0) 24 16 24
 simp only [Nat.reduceAdd] at e1 e2
 rw [e1,e2,show (256:Int) ^ 24=6277101735386680763835789423207666416102355444464034512896 by decide]
 generalize hval (fun j=>f j 0) 24 0=A
 generalize hval (fun j=>f j 0) 24 24=B
 generalize hval (fun j=>f j 0) 16 48=C
 refine congrArg limbs4 ?_
 unfold ordL
 omega
theorem z_val:val4 (fun _=>(0:Int)) < ordL:=by decide
theorem z_in:inU4 (fun _=>(0:Int))=true:=by decide
theorem stCk_law {r p:Nat → Int} (hr:inU4 r=true) (hv:val4 r < ordL) (hp:areB p 32 0=true):∀ b ∈ stCk r p,b=true:=by
 have hlt:val4 r * val4 (limbs4 CC) < ordL * 115792089237316195423570985008687907853269984665640564039457584007913129639936:=by
  rw [CC_val]
  have:=(val4_range hr).1
  unfold ordL at *
  omega
 intro b hb
 simp only [stCk,List.mem_cons,List.not_mem_nil,or_false] at hb
 rcases hb with rfl | rfl | rfl | rfl
 ·decide
 ·rw [hr,inU4_limbs,decide_eq_true hlt]; rfl
 ·exact hp
 ·rw [inU4_limbs,inU4_limbs]; rfl
def tReduce64:TF:=fun args=>match args with
 | [.sc (.vints _ .u8 1 64 f)]=>some (areB (fun j=>f j 0) 64 0,b32 (hval (fun j=>f j 0) 64 0 % ordL))
 | _=>none
theorem r_reduce64:TRow prog F_scalar_Reduce tReduce64:=by
 intro args r h
 unfold tReduce64 at h
 split at h
 case h_2=>simp at h
 rename_i t f
 simp only [Option.some.injEq,Prod.mk.injEq] at h
 obtain ⟨ha,rfl⟩:=h
 refine pure_of_out L11 at_scalar_Reduce c_reduce (N:=5) (gs:=[]) ?_
 have hck:ckL ([inU4 (lf [0,0,0,1])] ++ (stCk (fun _=>0) (pc f 48 16) ++ (stCk (r1L f) (pc f 24 24) ++ (stCk (r2L f) (pc f 0 24) ++ [inU4 (r3L f)]))))=true:=by
  refine ckL_t.2 fun b hb=>?_
  have b1:=stV_range (val4 (fun _=>0)) (pc f 48 16)
  have b2:=stV_range (val4 (r1L f)) (pc f 24 24)
  have v1:val4 (r1L f)=stV (val4 (fun _=>0)) (pc f 48 16):=val4_limbs b1.1 (by omega)
  have v2:val4 (r2L f)=stV (val4 (r1L f)) (pc f 24 24):=val4_limbs b2.1 (by omega)
  simp only [List.mem_append,List.mem_singleton] at hb
  rcases hb with hb | hb | hb | hb | hb
  ·rw [hb]; exact (by decide:inU4 (lf [0,0,0,1])=true)
  ·exact stCk_law z_in z_val (pc_areB ha 48 16 (by omega)) b hb
  ·exact stCk_law (r:=r1L f) (inU4_limbs _) (by rw [v1]; exact b1.2.1) (pc_areB ha 24 24 (by omega)) b hb
  ·exact stCk_law (r:=r2L f) (inU4_limbs _) (by rw [v2]; exact b2.2.1) (pc_areB ha 0 24 (by omega)) b hb
  ·rw [hb]; exact inU4_limbs _
 have e:=both (ck_reduce64 t f) (k_reduce64 t f)
 have hm:=modL_range (hval (fun j=>f j 0) 64 0)
 rw [hck,red64,val4_limbs hm.1 (by omega)] at e
 exact e
end Go.Proofs.YtfpkegodflloiaaGreat
