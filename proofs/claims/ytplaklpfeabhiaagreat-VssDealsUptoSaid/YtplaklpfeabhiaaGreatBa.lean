/-
  Texts of the claim: DSc DMul DMont DMont2 DMont3 DScal VSc DFe DPt DFe2 DFe3 DRoot DTimes DForm DOpen DEdw.
-/
import Derived.Test.YtplaklpfeabhiaaGreatAc
import Derived.Test.YtplaklpfeabhiaaGreatAd
import Derived.Test.YtplaklpfeabhiaaGreatAe
import Derived.Test.YtplaklpfeabhiaaGreatTy
namespace Go.Proofs.YtplaklpfeabhiaaGreat
open Go.Proofs.Tryz
open Go Go.AM
theorem L0:LibOK prog tt [] []:=LibOK.nil mix tt_ok
def ts1:List (Nat × TF):=[(F_bits_Sub64,tSub64),(F_bits_Add64,tAdd64)]
theorem L1:LibOK prog tt ts1 [] :=
 (L0.addT (znT at_bits_Add64 (by kernel_rfl) (by kernel_rfl) (by kernel_rfl) (by kernel_rfl))).addT (zmL at_bits_Sub64 (by kernel_rfl) (by kernel_rfl) (by kernel_rfl) (by kernel_rfl))
def tLess:TF:=fun args=>match args with
 | [.agg [.ints .u64 4 a],.agg [.ints .u64 4 b]]=>some (inU4 a&&inU4 b,.tup [n4 (if val4 a<val4 b then val4 a - val4 b+115792089237316195423570985008687907853269984665640564039457584007913129639936 else val4 a - val4 b),.sc (.bit (decide (val4 a<val4 b)))])
 | _=>none
def lessCk (a b:Nat→Int):Bool:=ckL [inU (a 0)&&inU (b 0),inU (a 1)&&inU (b 1),inU (a 2)&&inU (b 2),inU (a 3)&&inU (b 3)]
theorem zyX:fnChk prog (envP tt ts1 []) f_scalar_less=true:=by kernel_rfl
theorem zw2 (a b:Nat→Int):outP (apFunc (envP tt ts1 []) [] 50 f_scalar_less [u4 a,u4 b] [])=some (lessCk a b,.tup [u4 (lf (lessL a b)),.sc (.bit (brK a b 4))]):=by kernel_rfl
theorem zv5:TRow prog F_scalar_less tLess:=by
 intro args r h
 unfold tLess at h
 split at h
 case h_2=>simp at h
 rename_i a b
 simp only [Option.some.injEq,Prod.mk.injEq,Bool.and_eq_true] at h
 obtain ⟨⟨ha,hb⟩,rfl⟩:=h
 refine zab L1 at_scalar_less zyX (N:=50) (gs:=[]) ?_
 have:=zw2 a b
 simp only [u4] at this
 rw [this,(zkC ha hb).1,(zkC ha hb).2]
 have hc:lessCk a b=true:=by
  simp only [inU4,Bool.and_eq_true] at ha hb
  simp [lessCk,ckL,ha,hb]
 rw [hc];rfl
def tOrder:TF:=fun args=>match args with
 | []=>some (true,n4 ordL)
 | _=>none
theorem zvA:fnChk prog (envP tt ts1 []) f_scalar_order=true:=by kernel_rfl
theorem zu4:TRow prog F_scalar_order tOrder:=by
 intro args r h
 unfold tOrder at h
 split at h
 case h_2=>simp at h
 simp only [Option.some.injEq,Prod.mk.injEq,true_and] at h
 subst h
 exact zab L1 at_scalar_order zvA (N:=50) (gs:=[]) (by kernel_rfl)
def ts2:List (Nat × TF):=(F_scalar_order,tOrder)::(F_scalar_less,tLess)::ts1
theorem L2:LibOK prog tt ts2 []:=(L1.addT zv5).addT zu4
def tLowered:TF:=fun args=>match args with
 | [.agg [.ints .u64 4 a]]=>some (inU4 a,n4 (low (val4 a)))
 | _=>none
theorem zhR:fnChk prog (envP tt ts2 []) f_scalar_lowered=true:=by kernel_rfl
theorem zxN (a:Nat→Int):outP (apFunc (envP tt ts2 []) [(12,true)] 50 f_scalar_lowered [u4 a] []) =
  some (ckL [inU4 a&&inU4 (limbs4 ordL),(b2i (decide (val4 a<val4 (limbs4 ordL)))==0)==true],n4 (if val4 a<val4 (limbs4 ordL) then val4 a - val4 (limbs4 ordL)+115792089237316195423570985008687907853269984665640564039457584007913129639936 else val4 a - val4 (limbs4 ordL))):=by kernel_rfl
theorem zye (a:Nat→Int):outP (apFunc (envP tt ts2 []) [(12,false)] 50 f_scalar_lowered [u4 a] []) =
  some (ckL [inU4 a&&inU4 (limbs4 ordL),(b2i (decide (val4 a<val4 (limbs4 ordL)))==0)==false],u4 (lf [a 0,a 1,a 2,a 3])):=by kernel_rfl
theorem zoF:TRow prog F_scalar_lowered tLowered:=by
 intro args r h
 unfold tLowered at h
 split at h
 case h_2=>simp at h
 rename_i a
 simp only [Option.some.injEq,Prod.mk.injEq] at h
 obtain ⟨ha,rfl⟩:=h
 have hr:=zd7 ha
 have ho:=zaP ordL
 by_cases hlt:val4 a<ordL
 ·refine zab L2 at_scalar_lowered zhR (N:=50) (gs:=[(12,false)]) ?_
  have:=zye a
  simp only [u4] at this
  rw [this,zlV ha,zfg]
  simp [ckL,ha,ho,hlt,b2i,low,n4,u4]
 ·refine zab L2 at_scalar_lowered zhR (N:=50) (gs:=[(12,true)]) ?_
  have:=zxN a
  simp only [u4] at this
  rw [this,zfg]
  simp [ckL,ha,ho,hlt,b2i,low,n4,u4]
def ts3:List (Nat × TF):=(F_scalar_lowered,tLowered)::ts2
theorem L3:LibOK prog tt ts3 []:=L2.addT zoF
def tPlus:TF:=fun args=>match args with
 | [.agg [.ints .u64 4 a],.agg [.ints .u64 4 b]]=>some (inU4 a&&inU4 b,n4 (low ((val4 a+val4 b) % 115792089237316195423570985008687907853269984665640564039457584007913129639936)))
 | _=>none
theorem zyK:fnChk prog (envP tt ts3 []) f_scalar_plus=true:=by kernel_rfl
theorem zxO (a b:Nat→Int):outP (apFunc (envP tt ts3 []) [] 50 f_scalar_plus [u4 a,u4 b] [])=some (ckL [inU (a 0)&&inU (b 0),inU (a 1)&&inU (b 1),inU (a 2)&&inU (b 2),inU (a 3)&&inU (b 3),inU4 (lf (plusL a b))],n4 (low (val4 (lf (plusL a b))))):=by kernel_rfl
theorem zyO:TRow prog F_scalar_plus tPlus:=by
 intro args r h
 unfold tPlus at h
 split at h
 case h_2=>simp at h
 rename_i a b
 simp only [Option.some.injEq,Prod.mk.injEq,Bool.and_eq_true] at h
 obtain ⟨⟨ha,hb⟩,rfl⟩:=h
 refine zab L3 at_scalar_plus zyK (N:=50) (gs:=[]) ?_
 have:=zxO a b
 simp only [u4] at this
 rw [this,zry ha hb,za9 (by omega) (by omega)]
 simp only [inU4,Bool.and_eq_true] at ha hb
 simp [ckL,ha,hb,zaP]
def ts4:List (Nat × TF):=(F_scalar_plus,tPlus)::ts3
theorem L4:LibOK prog tt ts4 []:=L3.addT zyO
def tFrom:TF:=fun args=>match args with
 | [.agg [.ints .u8 32 s]]=>some (areB s 32 0,n4 (hval s 32 0))
 | _=>none
theorem zyC:fnChk prog (envP tt ts4 []) f_scalar_from=true:=by kernel_rfl
theorem zyt (s:Nat→Int):outP (apFunc (envP tt ts4 []) [] 50 f_scalar_from [u8s 32 s] [])=some (true,u4 (lf [orB s 0 8,orB s 1 8,orB s 2 8,orB s 3 8])):=by kernel_rfl
theorem zxS:TRow prog F_scalar_from tFrom:=by
 intro args r h
 unfold tFrom at h
 split at h
 case h_2=>simp at h
 rename_i s
 simp only [Option.some.injEq,Prod.mk.injEq] at h
 obtain ⟨hs,rfl⟩:=h
 refine zab L4 at_scalar_from zyC (N:=50) (gs:=[]) ?_
 have:=zyt s
 simp only [u8s] at this
 rw [this,zkL hs];rfl
def tBack:TF:=fun args=>match args with
 | [.agg [.ints .u64 4 a]]=>some (inU4 a,b32 (val4 a))
 | _=>none
theorem zw8:fnChk prog (envP tt ts4 []) f_scalar_back=true:=by kernel_rfl
theorem zwB (a:Nat→Int):outP (apFunc (envP tt ts4 []) [] 50 f_scalar_back [u4 a] [])=some (true,u8s 32 (lf (backL a))):=by kernel_rfl
theorem zxL:TRow prog F_scalar_back tBack:=by
 intro args r h
 unfold tBack at h
 split at h
 case h_2=>simp at h
 rename_i a
 simp only [Option.some.injEq,Prod.mk.injEq] at h
 obtain ⟨hs,rfl⟩:=h
 refine zab L4 at_scalar_back zw8 (N:=50) (gs:=[]) ?_
 have:=zwB a
 simp only [u4] at this
 rw [this,zkR hs];rfl
def ts5:List (Nat × TF):=(F_scalar_back,tBack)::(F_scalar_from,tFrom)::ts4
theorem L5:LibOK prog tt ts5 []:=(L4.addT zxS).addT zxL
def tValue:TF:=fun args=>match args with
 | [.agg [.ints .u8 32 s]]=>some (areB s 32 0,n4 (hval s 32 0 % ordL))
 | _=>none
theorem zuC:fnChk prog (envP tt ts5 []) f_scalar_value=true:=by kernel_rfl
theorem zti (s:Nat→Int):outP (apFunc (envP tt ts5 []) [] 50 f_scalar_value [u8s 32 s] [])=some (ckL (areB s 32 0::(List.range 16).map fun k=>inU4 (limbs4 (wl s k))),u4 (lf [limbs4 (wl s 16) 0,limbs4 (wl s 16) 1,limbs4 (wl s 16) 2,limbs4 (wl s 16) 3])):=by kernel_rfl
theorem zvR:TRow prog F_scalar_value tValue:=by
 intro args r h
 unfold tValue at h
 split at h
 case h_2=>simp at h
 rename_i s
 simp only [Option.some.injEq,Prod.mk.injEq] at h
 obtain ⟨hs,rfl⟩:=h
 refine zab L5 at_scalar_value zuC (N:=50) (gs:=[]) ?_
 have:=zti s
 simp only [u8s] at this
 rw [this,wl16 hs]
 have hc:ckL (areB s 32 0::(List.range 16).map fun k=>inU4 (limbs4 (wl s k)))=true:=by
  rw [ckL_t]
  intro b hb
  simp only [List.mem_cons,List.mem_map] at hb
  rcases hb with rfl | ⟨k,_,rfl⟩
  ·exact hs
  ·exact zaP _
 rw [hc];rfl
def ts6:List (Nat × TF):=(F_scalar_value,tValue)::ts5
theorem L6:LibOK prog tt ts6 []:=L5.addT zvR
def tIsZero:TF:=fun args=>match args with
 | [.agg [.ints .u8 32 s]]=>some (areB s 32 0,.sc (.bool (decide (hval s 32 0 % ordL=0))))
 | _=>none
theorem zqx:fnChk prog (envP tt ts6 []) f_scalar_IsZero=true:=by kernel_rfl
theorem zqG (s:Nat→Int):outP (apFunc (envP tt ts6 []) [] 50 f_scalar_IsZero [u8s 32 s] [])=some (ckL [areB s 32 0],.sc (.bool (eqN 4 (limbs4 (hval s 32 0 % ordL)) (fun _=>0)&&true))):=by kernel_rfl
theorem zhm:TRow prog F_scalar_IsZero tIsZero:=by
 intro args r h
 unfold tIsZero at h
 split at h
 case h_2=>simp at h
 rename_i s
 simp only [Option.some.injEq,Prod.mk.injEq] at h
 obtain ⟨hs,rfl⟩:=h
 refine zab L6 at_scalar_IsZero zqx (N:=50) (gs:=[]) ?_
 have:=zqG s
 simp only [u8s] at this
 have hr:=zaA (hval s 32 0)
 rw [this,zpw hr.1 (by omega),Bool.and_true]
 simp [ckL,hs]
def tAdd:TF:=fun args=>match args with
 | [.agg [.ints .u8 32 s],.agg [.ints .u8 32 t]]=>some (areB s 32 0&&areB t 32 0,b32 ((hval s 32 0+hval t 32 0) % ordL))
 | _=>none
theorem c_add:fnChk prog (envP tt ts6 []) f_scalar_Add=true:=by kernel_rfl
theorem k_add (s t:Nat→Int):outP (apFunc (envP tt ts6 []) [] 50 f_scalar_Add [u8s 32 s,u8s 32 t] []) =
  some (ckL [areB s 32 0,areB t 32 0,inU4 (limbs4 (hval s 32 0 % ordL))&&inU4 (limbs4 (hval t 32 0 % ordL)),inU4 (limbs4 (low ((val4 (limbs4 (hval s 32 0 % ordL))+val4 (limbs4 (hval t 32 0 % ordL))) % 115792089237316195423570985008687907853269984665640564039457584007913129639936)))],
   normA (b32 (val4 (limbs4 (low ((val4 (limbs4 (hval s 32 0 % ordL))+val4 (limbs4 (hval t 32 0 % ordL))) % 115792089237316195423570985008687907853269984665640564039457584007913129639936)))))):=by kernel_rfl
theorem zrJ (x:Int):normA (b32 x)=b32 x:=rfl
theorem r_add:TRow prog F_scalar_Add tAdd:=by
 intro args r h
 unfold tAdd at h
 split at h
 case h_2=>simp at h
 rename_i s t
 simp only [Option.some.injEq,Prod.mk.injEq,Bool.and_eq_true] at h
 obtain ⟨⟨hs,ht⟩,rfl⟩:=h
 refine zab L6 at_scalar_Add c_add (N:=50) (gs:=[]) ?_
 have:=k_add s t
 simp only [u8s] at this
 have h1:=zaA (hval s 32 0)
 have h2:=zaA (hval t 32 0)
 have h3:=zaA (hval s 32 0+hval t 32 0)
 rw [this,za9 h1.1 (by omega),za9 h2.1 (by omega),zon,za9 h3.1 (by omega),zrJ]
 simp [ckL,hs,ht,zaP]
end Go.Proofs.YtplaklpfeabhiaaGreat
namespace Go.Proofs.YtplaklpfeabhiaaGreat
open Go.Proofs.Tryz
open Go Go.AM
def tMul64:TF:=fun args=>match args with
 | [.sc (.int .u64 x),.sc (.int .u64 y)]=>some (inU x&&inU y,.tup [.sc (.int .u64 (x*y / 18446744073709551616)),.sc (.int .u64 (x*y % 18446744073709551616))])
 | _=>none
theorem zt6:fnChk prog (envP tt ts6 []) f_bits_Mul64=true:=by kernel_rfl
theorem zt4 (x y:Int):outP (apFunc (envP tt ts6 []) [] 50 f_bits_Mul64 [.sc (.int .u64 x),.sc (.int .u64 y)] [])=some (true,.tup [.sc (.int .u64 (mHi x y)),.sc (.int .u64 (wr .u64 (x*y)))]):=by kernel_rfl
theorem zux:TRow prog F_bits_Mul64 tMul64:=by
 intro args r h
 unfold tMul64 at h
 split at h
 case h_2=>simp at h
 rename_i x y
 simp only [Option.some.injEq,Prod.mk.injEq,Bool.and_eq_true] at h
 obtain ⟨⟨hx,hy⟩,rfl⟩:=h
 refine zab L6 at_bits_Mul64 zt6 (N:=50) (gs:=[]) ?_
 rw [zt4 x y,ztd (inU_t hx) (inU_t hy),wr64]
def ts7:List (Nat × TF):=(F_bits_Mul64,tMul64)::ts6
theorem L7:LibOK prog tt ts7 []:=L6.addT zux
def tMuladd:TF:=fun args=>match args with
 | [.sc (.int .u64 a),.sc (.int .u64 b),.sc (.int .u64 x),.sc (.int .u64 c)]=>some (inU a&&(inU b&&(inU x&&inU c)),.tup [.sc (.int .u64 ((a*b+x+c) / 18446744073709551616)),.sc (.int .u64 ((a*b+x+c) % 18446744073709551616))])
 | _=>none
theorem zrz:fnChk prog (envP tt ts7 []) f_scalar_muladd=true:=by kernel_rfl
def muladdV (a b x c:Int):AV :=
 let lo:=a*b % 18446744073709551616
 let lo2:=addLo lo x false
 .tup [.sc (.int .u64 (wr .u64 (wr .u64 (a*b / 18446744073709551616+b2i (addC lo x false))+b2i (addC lo2 c false)))),.sc (.int .u64 (addLo lo2 c false))]
theorem zqR (a b x c:Int):outP (apFunc (envP tt ts7 []) [] 50 f_scalar_muladd [.sc (.int .u64 a),.sc (.int .u64 b),.sc (.int .u64 x),.sc (.int .u64 c)] []) =
  some (ckL [inU a&&inU b,inU (a*b % 18446744073709551616)&&inU x,inU (addLo (a*b % 18446744073709551616) x false)&&inU c],muladdV a b x c):=by kernel_rfl
theorem zpK:TRow prog F_scalar_muladd tMuladd:=by
 intro args r h
 unfold tMuladd at h
 split at h
 case h_2=>simp at h
 rename_i a b x c
 simp only [Option.some.injEq,Prod.mk.injEq,Bool.and_eq_true] at h
 obtain ⟨⟨ha,hb,hx,hc⟩,rfl⟩:=h
 refine zab L7 at_scalar_muladd zrz (N:=50) (gs:=[]) ?_
 obtain ⟨e1,e2⟩:=zlI (inU_t ha) (inU_t hb) (inU_t hx) (inU_t hc)
 rw [zqR a b x c]
 simp only [muladdV,e1,e2]
 simp [ckL,ha,hb,hx,hc,zbJ,ziy]
def ts8:List (Nat × TF):=(F_scalar_muladd,tMuladd)::ts7
theorem L8:LibOK prog tt ts8 []:=L7.addT zpK
def tRadix:TF:=fun args=>match args with
 | []=>some (true,u4 (lf [11819153939886771969,14991950615390032711,14910419812499177061,259310039853996605]))
 | _=>none
theorem zvQ:fnChk prog (envP tt ts8 []) f_scalar_radix=true:=by kernel_rfl
theorem zte:TRow prog F_scalar_radix tRadix:=by
 intro args r h
 unfold tRadix at h
 split at h
 case h_2=>simp at h
 simp only [Option.some.injEq,Prod.mk.injEq,true_and] at h
 subst h
 exact zab L8 at_scalar_radix zvQ (N:=50) (gs:=[]) (by kernel_rfl)
def ts9:List (Nat × TF):=(F_scalar_radix,tRadix)::ts8
theorem L9:LibOK prog tt ts9 []:=L8.addT zte
end Go.Proofs.YtplaklpfeabhiaaGreat
namespace Go.Proofs.YtplaklpfeabhiaaGreat
open Go.Proofs.Tryz
open Go Go.AM
noncomputable def montB:Code:=match f_scalar_mont.body with | some c=>(match bodiesOf 0 c with | [.loop b]=>b | _=>.skip) | none=>.skip
def montT:List (Nat × AV):=[(2,.sc (.ptr 0 4 0 0 4)),(3,.sc (.ptr 1 4 0 0 4)),(4,.sc (.ptr 2 4 0 0 4)),(5,.sc (.ptr 3 4 0 0 4)),(6,.sc (.ptr 4 6 0 0 6))]
def montH (fa fb fr ft:Nat→Int):Heap:=[some (.ints .u64 4 1 (fun _ d=>fa d)),some (.ints .u64 4 1 (fun _ d=>fb d)),some (.ints .u64 4 1 (fun _ d=>fr d)),some (.ints .u64 4 1 (fun _ d=>limbs4 ordL d)),some (.ints .u64 6 1 (fun _ d=>ft d))]
def montS (k:Nat) (fa fb fr ft:Nat→Int):St:=⟨tmOf ((14,.sc (.int .i64 (k:Int)))::montT) 101 0,montH fa fb fr ft⟩
abbrev mE:EnvP:=envP tt ts9 []
noncomputable def mRun (k:Nat) (fa fb fr ft:Nat→Int):Option (Ex × PS):=ap mE [] 20 montB ⟨true,montS k fa fb fr ft⟩
theorem m_c (fa fb fr ft:Nat→Int) (k:Nat) (hk:k<4):exP (mRun k fa fb fr ft)=some .normal∧(stP (mRun k fa fb fr ft)).ck=ckL (iterCk (fa k) fb ft)∧cells 6 (stP (mRun k fa fb fr ft)) 4=iter (fa k) fb ft ∧
  cells 4 (stP (mRun k fa fb fr ft)) 0=[fa 0,fa 1,fa 2,fa 3]∧cells 4 (stP (mRun k fa fb fr ft)) 1=[fb 0,fb 1,fb 2,fb 3]∧cells 4 (stP (mRun k fa fb fr ft)) 2=[fr 0,fr 1,fr 2,fr 3] ∧
  cells 4 (stP (mRun k fa fb fr ft)) 3=[limbs4 ordL 0,limbs4 ordL 1,limbs4 ordL 2,limbs4 ordL 3]∧getA (stP (mRun k fa fb fr ft)).st.tm 14=.sc (.int .i64 ((k+1:Nat):Int))∧(stP (mRun k fa fb fr ft)).st.tm.length=101:=by
 match k,hk with
 | 0,_=>exact ⟨by kernel_rfl,by kernel_rfl,by kernel_rfl,by kernel_rfl,by kernel_rfl,by kernel_rfl,by kernel_rfl,by kernel_rfl,by kernel_rfl⟩
 | 1,_=>exact ⟨by kernel_rfl,by kernel_rfl,by kernel_rfl,by kernel_rfl,by kernel_rfl,by kernel_rfl,by kernel_rfl,by kernel_rfl,by kernel_rfl⟩
 | 2,_=>exact ⟨by kernel_rfl,by kernel_rfl,by kernel_rfl,by kernel_rfl,by kernel_rfl,by kernel_rfl,by kernel_rfl,by kernel_rfl,by kernel_rfl⟩
 | 3,_=>exact ⟨by kernel_rfl,by kernel_rfl,by kernel_rfl,by kernel_rfl,by kernel_rfl,by kernel_rfl,by kernel_rfl,by kernel_rfl,by kernel_rfl⟩
def mPlaces (x:PS):Bool :=
 let p:=fun (v:AV) (id sz:Nat)=>match v with | .sc (.ptr a b i c e)=>Nat.beq a id&&(Nat.beq b sz&&(Nat.beq i 0&&(Nat.beq c 0&&Nat.beq e sz))) | _=>false
 Nat.ble 5 x.st.hp.length&&(p (getA x.st.tm 2) 0 4&&(p (getA x.st.tm 3) 1 4&&(p (getA x.st.tm 4) 2 4&&(p (getA x.st.tm 5) 3 4&&p (getA x.st.tm 6) 4 6))))
def mShape (x:PS):List (Option (IntKind × (Nat × Nat))):=[AM.shape x 0,AM.shape x 1,AM.shape x 2,AM.shape x 3,AM.shape x 4]
theorem m_p (fa fb fr ft:Nat→Int) (k:Nat) (hk:k<4):mPlaces (stP (mRun k fa fb fr ft))=true∧mShape (stP (mRun k fa fb fr ft))=[some (.u64,4,1),some (.u64,4,1),some (.u64,4,1),some (.u64,4,1),some (.u64,6,1)]:=by
 match k,hk with
 | 0,_=>exact ⟨by kernel_rfl,by kernel_rfl⟩
 | 1,_=>exact ⟨by kernel_rfl,by kernel_rfl⟩
 | 2,_=>exact ⟨by kernel_rfl,by kernel_rfl⟩
 | 3,_=>exact ⟨by kernel_rfl,by kernel_rfl⟩
theorem zxk (fa fb fr ft:Nat→Int):exP (mRun 4 fa fb fr ft)=some (.exit 0)∧(stP (mRun 4 fa fb fr ft)).ck=true∧mPlaces (stP (mRun 4 fa fb fr ft))=true ∧
  mShape (stP (mRun 4 fa fb fr ft))=[some (.u64,4,1),some (.u64,4,1),some (.u64,4,1),some (.u64,4,1),some (.u64,6,1)]∧(stP (mRun 4 fa fb fr ft)).st.hp=montH fa fb fr ft:=by
 exact ⟨by kernel_rfl,by kernel_rfl,by kernel_rfl,by kernel_rfl,by kernel_rfl⟩
theorem zip {x:PS} (h:mPlaces x=true):5≤x.st.hp.length∧getA x.st.tm 2=.sc (.ptr 0 4 0 0 4)∧getA x.st.tm 3=.sc (.ptr 1 4 0 0 4)∧getA x.st.tm 4=.sc (.ptr 2 4 0 0 4)∧getA x.st.tm 5=.sc (.ptr 3 4 0 0 4)∧getA x.st.tm 6=.sc (.ptr 4 6 0 0 6):=by
 have q:∀ (v:AV) (id sz:Nat),(match v with | .sc (.ptr a b i c e)=>Nat.beq a id&&(Nat.beq b sz&&(Nat.beq i 0&&(Nat.beq c 0&&Nat.beq e sz))) | _=>false)=true→v=.sc (.ptr id sz 0 0 sz):=by
  intro v id sz hv
  split at hv
  ·simp only [Bool.and_eq_true,beq_t] at hv
   obtain ⟨rfl,rfl,rfl,rfl,rfl⟩:=hv;rfl
  ·simp at hv
 simp only [mPlaces,Bool.and_eq_true,ble_t] at h
 obtain ⟨h0,h2,h3,h4,h5,h6⟩:=h
 exact ⟨h0,q _ _ _ h2,q _ _ _ h3,q _ _ _ h4,q _ _ _ h5,q _ _ _ h6⟩
theorem zwg {x:PS} {fa fb fr ft g:Nat→Int} {k:Nat} (hp:mPlaces x=true) (hs:mShape x=[some (.u64,4,1),some (.u64,4,1),some (.u64,4,1),some (.u64,4,1),some (.u64,6,1)])
  (h0:cells 4 x 0=tabL fa 4 0) (h1:cells 4 x 1=tabL fb 4 0) (h2:cells 4 x 2=tabL fr 4 0) (h3:cells 4 x 3=tabL (limbs4 ordL) 4 0) (h4:cells 6 x 4=tabL g 6 0)
  (ht:getA x.st.tm 14=.sc (.int .i64 (k:Int))) (hl:x.st.tm.length=101):StLe x.st (montS k fa fb fr g):=by
 obtain ⟨p0,p2,p3,p4,p5,p6⟩:=zip hp
 simp only [mShape,List.cons.injEq,and_true] at hs
 obtain ⟨s0,s1,s2,s3,s4⟩:=hs
 refine ⟨zjn (n:=5) hl ?_,p0,fun id c hc=>?_⟩
 ·intro p hpm
  simp only [montT,List.mem_cons,List.not_mem_nil,or_false] at hpm
  rcases hpm with rfl | rfl | rfl | rfl | rfl | rfl
  ·rw [ht];exact ALe.sc (SLe.int _ _ _)
  ·rw [p2];exact ALe.sc (SLe.ptr (by omega) _ _ _ _)
  ·rw [p3];exact ALe.sc (SLe.ptr (by omega) _ _ _ _)
  ·rw [p4];exact ALe.sc (SLe.ptr (by omega) _ _ _ _)
  ·rw [p5];exact ALe.sc (SLe.ptr (by omega) _ _ _ _)
  ·rw [p6];exact ALe.sc (SLe.ptr (by omega) _ _ _ _)
 ·match id with
  | 0=>simp only [montS,montH,List.getElem?_cons_zero,Option.some.injEq] at hc;subst hc;exact zcE s0 h0
  | 1=>simp only [montS,montH,List.getElem?_cons_succ,List.getElem?_cons_zero,Option.some.injEq] at hc;subst hc;exact zcE s1 h1
  | 2=>simp only [montS,montH,List.getElem?_cons_succ,List.getElem?_cons_zero,Option.some.injEq] at hc;subst hc;exact zcE s2 h2
  | 3=>simp only [montS,montH,List.getElem?_cons_succ,List.getElem?_cons_zero,Option.some.injEq] at hc;subst hc;exact zcE s3 h3
  | 4=>simp only [montS,montH,List.getElem?_cons_succ,List.getElem?_cons_zero,Option.some.injEq] at hc;subst hc;exact zcE s4 h4
  | n+5=>simp [montS,montH] at hc
theorem zod {f:Nat→Int} (h:inU4 f=true):∀ k,k<4→0≤f k∧f k<18446744073709551616
 | 0,_=>(zbV h).1
 | 1,_=>(zbV h).2.1
 | 2,_=>(zbV h).2.2.1
 | 3,_=>(zbV h).2.2.2
 | n+4,h=>by omega
theorem m_am {fa fb fr ft:Nat→Int} {k:Nat} {e:Ex} (he:exP (mRun k fa fb fr ft)=some e) (hck:(stP (mRun k fa fb fr ft)).ck=true):am mE.env 20 montB (montS k fa fb fr ft)=some (e,(stP (mRun k fa fb fr ft)).st):=by
 unfold mRun at *
 exact zq5 he hck
theorem zw0 (fa fb fr ft:Nat→Int) (k:Nat) (hk:k<4) (ha:inU4 fa=true) (hb:inU4 fb=true) (ht:inU5 ft=true) :
  ∃ s1,am mE.env 20 montB (montS k fa fb fr ft)=some (.normal,s1)∧StLe s1 (montS (k+1) fa fb fr (lf (iter (fa k) fb ft))):=by
 have hk':=zod ha k hk
 have hc:=zmn hk' hb ht
 obtain ⟨e1,e2,e3,e4,e5,e6,e7,e8,e9⟩:=m_c fa fb fr ft k hk
 obtain ⟨q1,q2⟩:=m_p fa fb fr ft k hk
 generalize hx:mRun k fa fb fr ft=x at *
 rw [hc] at e2
 have:=m_am (k:=k) (fa:=fa) (fb:=fb) (fr:=fr) (ft:=ft) (e:=.normal) (by rw [hx];exact e1) (by rw [hx];exact e2)
 rw [hx] at this
 refine ⟨_,this,zwg (ft:=ft) q1 q2 e4 e5 e6 e7 ?_ e8 e9⟩
 rw [e3];rfl
end Go.Proofs.YtplaklpfeabhiaaGreat
namespace Go.Proofs.YtplaklpfeabhiaaGreat
open Go.Proofs.Tryz
open Go Go.AM
def isP (v:AV) (id sz:Nat):Bool:=match v with | .sc (.ptr a b i c e)=>Nat.beq a id&&(Nat.beq b sz&&(Nat.beq i 0&&(Nat.beq c 0&&Nat.beq e sz))) | _=>false
def isI (v:AV) (n:Int):Bool:=match v with | .sc (.int .i64 x)=>decide (x=n) | _=>false
def isB4 (k:IntKind) (s n sz:Nat):Bool:=kEq k .u64&&(Nat.beq s sz&&Nat.beq n 1)
def montF:LF:=fun s=>match s.hp with
 | [some (.ints k0 s0 n0 fa),some (.ints k1 s1 n1 fb),some (.ints k2 s2 n2 fr),some (.ints k3 s3 n3 fo),some (.ints k4 s4 n4 ft)] =>
  some ((isB4 k0 s0 n0 4&&(isB4 k1 s1 n1 4&&(isB4 k2 s2 n2 4&&(isB4 k3 s3 n3 4&&isB4 k4 s4 n4 6)))) &&
   ((isP (getA s.tm 2) 0 4&&(isP (getA s.tm 3) 1 4&&(isP (getA s.tm 4) 2 4&&(isP (getA s.tm 5) 3 4&&isP (getA s.tm 6) 4 6)))) &&
   (isI (getA s.tm 14) 0&&(Nat.beq s.tm.length 101&&(eqN 4 (fo 0) (limbs4 ordL)&&(eqN 6 (ft 0) (lf [0,0,0,0,0,0])&&(inU4 (fa 0)&&inU4 (fb 0))))))),
   (.normal,⟨tmOf montT 101 0,montH (fa 0) (fb 0) (fr 0) (lf (tK (fa 0) (fb 0) 4))⟩))
 | _=>none
theorem mb:f_scalar_mont.body.map (bodiesOf 0)=some [.loop montB]:=by kernel_rfl
theorem mok:codeOK prog mE.env.isW montB=true:=by kernel_rfl
theorem isP_t {v:AV} {id sz:Nat} (h:isP v id sz=true):v=.sc (.ptr id sz 0 0 sz):=by
 unfold isP at h
 split at h
 ·simp only [Bool.and_eq_true,beq_t] at h
  obtain ⟨rfl,rfl,rfl,rfl,rfl⟩:=h;rfl
 ·simp at h
theorem isI_t {v:AV} {n:Int} (h:isI v n=true):v=.sc (.int .i64 n):=by
 unfold isI at h
 split at h
 ·rw [dec_t.1 h]
 ·simp at h
theorem ziA {k:IntKind} {s n sz:Nat} (h:isB4 k s n sz=true):k=.u64∧s=sz∧n=1:=by
 simpa only [isB4,Bool.and_eq_true,kEq_t,beq_t] using h
theorem zfw {n:Nat} {f g:Nat→Int} (h:eqN n f g=true):∀ c,c<n→f c=g c:=fun c hc=>by
 have:=List.all_eq_true.1 h c (by simpa using hc)
 simpa using this
theorem zjP:∀ c,f_scalar_mont.body=some c→∀ b ∈ bodiesOf 0 c,b=.loop montB:=by
 intro c hc b hb
 have:=mb
 rw [hc] at this
 simp only [Option.map_some,Option.some.injEq] at this
 rw [this] at hb
 simpa using hb
theorem tK_U {a b:Nat→Int} (ha:inU4 a=true) (hb:inU4 b=true):∀ k,k≤4→inU5 (lf (tK a b k))=true
 | 0,_=>rfl
 | k+1,hk=>by
  obtain ⟨m,_,_,_,h⟩:=zdB (zod ha k (by omega)) hb (tK_U ha hb k (by omega))
  exact h
theorem m_len (fa fb fr ft:Nat→Int):(stP (mRun 4 fa fb fr ft)).st.tm.length=101:=by kernel_rfl
theorem m_end (fa fb fr ft:Nat→Int):∃ s1,am mE.env 20 montB (montS 4 fa fb fr ft)=some (.exit 0,s1)∧StLe s1 ⟨tmOf montT 101 0,montH fa fb fr ft⟩:=by
 obtain ⟨e1,e2,e3,_,e5⟩:=zxk fa fb fr ft
 have el:=m_len fa fb fr ft
 have ha:=m_am (k:=4) e1 e2
 generalize stP (mRun 4 fa fb fr ft)=x at *
 obtain ⟨p0,p2,p3,p4,p5,p6⟩:=zip e3
 refine ⟨_,ha,zjn (n:=5) el ?_,by rw [e5];exact Nat.le_refl _,fun id c hc=>?_⟩
 ·intro p hpm
  simp only [montT,List.mem_cons,List.not_mem_nil,or_false] at hpm
  rcases hpm with rfl | rfl | rfl | rfl | rfl
  ·rw [p2];exact ALe.sc (SLe.ptr (by omega) _ _ _ _)
  ·rw [p3];exact ALe.sc (SLe.ptr (by omega) _ _ _ _)
  ·rw [p4];exact ALe.sc (SLe.ptr (by omega) _ _ _ _)
  ·rw [p5];exact ALe.sc (SLe.ptr (by omega) _ _ _ _)
  ·rw [p6];exact ALe.sc (SLe.ptr (by omega) _ _ _ _)
 ·rw [e5]
  refine ⟨c,hc,?_⟩
  match id with
  | 0=>simp only [montH,List.getElem?_cons_zero,Option.some.injEq] at hc;subst hc;exact BLe.ints fun _ _ _ _=>rfl
  | 1=>simp only [montH,List.getElem?_cons_succ,List.getElem?_cons_zero,Option.some.injEq] at hc;subst hc;exact BLe.ints fun _ _ _ _=>rfl
  | 2=>simp only [montH,List.getElem?_cons_succ,List.getElem?_cons_zero,Option.some.injEq] at hc;subst hc;exact BLe.ints fun _ _ _ _=>rfl
  | 3=>simp only [montH,List.getElem?_cons_succ,List.getElem?_cons_zero,Option.some.injEq] at hc;subst hc;exact BLe.ints fun _ _ _ _=>rfl
  | 4=>simp only [montH,List.getElem?_cons_succ,List.getElem?_cons_zero,Option.some.injEq] at hc;subst hc;exact BLe.ints fun _ _ _ _=>rfl
  | n+5=>simp [montH] at hc
theorem zyg:LRow prog f_scalar_mont 0 montF:=by
 refine LRow.loop (L9.env []) mix (N:=20) (body:=montB) zjP mok (fun w0 own0=>zat (fun id=>rfl) montB) ?_
 intro s e s' h
 unfold montF at h
 split at h
 case h_2=>simp at h
 rename_i k0 s0 n0 fa k1 s1 n1 fb k2 s2 n2 fr k3 s3 n3 fo k4 s4 n4 ft hh
 simp only [Option.some.injEq,Prod.mk.injEq,Bool.and_eq_true,beq_t] at h
 obtain ⟨⟨⟨b0,b1,b2,b3,b4⟩,⟨p2,p3,p4,p5,p6⟩,i14,hl,ho,ht,ha,hb⟩,rfl,rfl⟩:=h
 obtain ⟨rfl,rfl,rfl⟩:=ziA b0
 obtain ⟨rfl,rfl,rfl⟩:=ziA b1
 obtain ⟨rfl,rfl,rfl⟩:=ziA b2
 obtain ⟨rfl,rfl,rfl⟩:=ziA b3
 obtain ⟨rfl,rfl,rfl⟩:=ziA b4
 have ho:=zfw ho
 have ht:=zfw ht
 refine ⟨rfl,fun i hi=>?_,fun k=>montS k (fa 0) (fb 0) (fr 0) (lf (tK (fa 0) (fb 0) k)),4,?_,by rw [hh];rfl,fun _ _=>rfl,Nat.le_refl _,fun k hk=>?_,?_⟩
 ·rw [hh] at hi
  match i,hi with
  | 0,hi=>simp at hi
  | 1,hi=>simp at hi
  | 2,hi=>simp at hi
  | 3,hi=>simp at hi
  | 4,hi=>simp at hi
  | n+5,hi=>simp at hi
 ·refine ⟨zjn (n:=5) hl ?_,by rw [hh];exact Nat.le_refl _,fun id c hc=>?_⟩
  ·intro p hpm
   simp only [montT,List.mem_cons,List.not_mem_nil,or_false] at hpm
   rcases hpm with rfl | rfl | rfl | rfl | rfl | rfl
   ·rw [isI_t i14];exact ALe.sc (SLe.int _ _ _)
   ·rw [isP_t p2];exact ALe.sc (SLe.ptr (by omega) _ _ _ _)
   ·rw [isP_t p3];exact ALe.sc (SLe.ptr (by omega) _ _ _ _)
   ·rw [isP_t p4];exact ALe.sc (SLe.ptr (by omega) _ _ _ _)
   ·rw [isP_t p5];exact ALe.sc (SLe.ptr (by omega) _ _ _ _)
   ·rw [isP_t p6];exact ALe.sc (SLe.ptr (by omega) _ _ _ _)
  ·rw [hh]
   match id with
   | 0=>simp only [montS,montH,List.getElem?_cons_zero,Option.some.injEq] at hc;subst hc;exact ⟨_,rfl,BLe.ints fun r hr d hd=>by obtain rfl:r=0:=(by omega);rfl⟩
   | 1=>simp only [montS,montH,List.getElem?_cons_succ,List.getElem?_cons_zero,Option.some.injEq] at hc;subst hc;exact ⟨_,rfl,BLe.ints fun r hr d hd=>by obtain rfl:r=0:=(by omega);rfl⟩
   | 2=>simp only [montS,montH,List.getElem?_cons_succ,List.getElem?_cons_zero,Option.some.injEq] at hc;subst hc;exact ⟨_,rfl,BLe.ints fun r hr d hd=>by obtain rfl:r=0:=(by omega);rfl⟩
   | 3=>simp only [montS,montH,List.getElem?_cons_succ,List.getElem?_cons_zero,Option.some.injEq] at hc;subst hc;exact ⟨_,rfl,BLe.ints fun r hr d hd=>by obtain rfl:r=0:=(by omega);exact ho d hd⟩
   | 4=>simp only [montS,montH,List.getElem?_cons_succ,List.getElem?_cons_zero,Option.some.injEq] at hc;subst hc;exact ⟨_,rfl,BLe.ints fun r hr d hd=>by obtain rfl:r=0:=(by omega);exact ht d hd⟩
   | n+5=>simp [montS,montH] at hc
 ·exact zw0 (fa 0) (fb 0) (fr 0) (lf (tK (fa 0) (fb 0) k)) k hk ha hb (tK_U ha hb k (by omega))
 ·exact m_end _ _ _ _
end Go.Proofs.YtplaklpfeabhiaaGreat
namespace Go.Proofs.YtplaklpfeabhiaaGreat
open Go.Proofs.Tryz
open Go Go.AM
theorem zyh:fnChk prog (envL tt ts9 [] [(0,montF)]) f_scalar_mont=true:=by kernel_rfl
theorem zyR (a b:Nat→Int):((outP (apFunc (envL tt ts9 [] [(0,montF)]) [] 50 f_scalar_mont [u4 a,u4 b] [])).map (·.2))=some (n4 (low (val4 (lf [lf (tK a b 4) 0,lf (tK a b 4) 1,lf (tK a b 4) 2,lf (tK a b 4) 3])))):=by kernel_rfl
theorem zt9 (a b:Nat→Int):((outP (apFunc (envL tt ts9 [] [(0,montF)]) [] 50 f_scalar_mont [u4 a,u4 b] [])).map (·.1))=some (ckL [inU4 a&&inU4 b,inU4 (lf [lf (tK a b 4) 0,lf (tK a b 4) 1,lf (tK a b 4) 2,lf (tK a b 4) 3])]):=by kernel_rfl
def tMont:TF:=fun args=>match args with
 | [.agg [.ints .u64 4 a],.agg [.ints .u64 4 b]]=>some (inU4 a&&(inU4 b&&decide (val4 a*val4 b<ordL*115792089237316195423570985008687907853269984665640564039457584007913129639936)),n4 (val4 a*val4 b*rInv % ordL))
 | _=>none
theorem zv8:TRow prog F_scalar_mont tMont:=by
 intro args r h
 unfold tMont at h
 split at h
 case h_2=>simp at h
 rename_i a b
 simp only [Option.some.injEq,Prod.mk.injEq,Bool.and_eq_true,decide_eq_true_eq] at h
 obtain ⟨⟨ha,hb,hlt⟩,rfl⟩:=h
 refine zad L9 at_scalar_mont (LsOK.nil.cons zyg) zyh (N:=50) (gs:=[]) ?_
 have e:=both (zt9 a b) (zyR a b)
 simp only [u4] at e
 rw [e]
 have hU:=tK_U ha hb 4 (by omega)
 have h4:inU4 (lf [lf (tK a b 4) 0,lf (tK a b 4) 1,lf (tK a b 4) 2,lf (tK a b 4) 3])=true:=by
  simp only [inU5,Bool.and_eq_true] at hU
  simp only [inU4,lf,hU,Bool.and_self]
 have hv:low (val4 (lf [lf (tK a b 4) 0,lf (tK a b 4) 1,lf (tK a b 4) 2,lf (tK a b 4) 3]))=val4 a*val4 b*rInv % ordL:=zqH ha hb hlt
 rw [hv]
 simp [ckL,ha,hb,h4]
end Go.Proofs.YtplaklpfeabhiaaGreat
namespace Go.Proofs.YtplaklpfeabhiaaGreat
open Go.Proofs.Tryz
open Go Go.AM
def ts10:List (Nat × TF):=(F_scalar_Add,tAdd)::(F_scalar_IsZero,tIsZero)::(F_scalar_mont,tMont)::ts9
theorem L10:LibOK prog tt ts10 []:=((L9.addT zv8).addT zhm).addT r_add
def R2L:Nat→Int:=lf [11819153939886771969,14991950615390032711,14910419812499177061,259310039853996605]
def tTimes:TF:=fun args=>match args with
 | [.agg [.ints .u64 4 a],.agg [.ints .u64 4 b]]=>some (inU4 a&&(inU4 b&&decide (val4 a*val4 b<ordL*115792089237316195423570985008687907853269984665640564039457584007913129639936)),n4 (val4 a*val4 b % ordL))
 | _=>none
theorem zvV:fnChk prog (envP tt ts10 []) f_scalar_times=true:=by kernel_rfl
theorem ztS (a b:Nat→Int):outP (apFunc (envP tt ts10 []) [] 5 f_scalar_times [u4 a,u4 b] []) =
  some (ckL [inU4 a&&(inU4 b&&decide (val4 a*val4 b<ordL*115792089237316195423570985008687907853269984665640564039457584007913129639936)),
   inU4 (limbs4 (val4 a*val4 b*rInv % ordL))&&(inU4 R2L&&decide (val4 (limbs4 (val4 a*val4 b*rInv % ordL))*val4 R2L<ordL*115792089237316195423570985008687907853269984665640564039457584007913129639936))],
   n4 (val4 (limbs4 (val4 a*val4 b*rInv % ordL))*val4 R2L*rInv % ordL)):=by kernel_rfl
theorem zud:val4 R2L=1627715501170711445284395025044413883736156588369414752970002579683115011841:=by decide
theorem ztP:TRow prog F_scalar_times tTimes:=by
 intro args r h
 unfold tTimes at h
 split at h
 case h_2=>simp at h
 rename_i a b
 simp only [Option.some.injEq,Prod.mk.injEq] at h
 obtain ⟨hc,rfl⟩:=h
 refine zab L10 at_scalar_times zvV (N:=5) (gs:=[]) ?_
 have e:=ztS a b
 have hm:=zaA (val4 a*val4 b*rInv)
 have hv:val4 (limbs4 (val4 a*val4 b*rInv % ordL))=val4 a*val4 b*rInv % ordL:=za9 hm.1 (by omega)
 rw [hc,hv,zud,rInv2,zaP,show inU4 R2L=true by decide] at e
 have hlt:val4 a*val4 b*rInv % ordL*1627715501170711445284395025044413883736156588369414752970002579683115011841<ordL*115792089237316195423570985008687907853269984665640564039457584007913129639936:=by
  generalize val4 a*val4 b*rInv % ordL=x at *
  unfold ordL at *
  omega
 rw [decide_eq_true hlt] at e
 exact e
def ts11:List (Nat × TF):=(F_scalar_times,tTimes)::ts10
theorem L11:LibOK prog tt ts11 []:=L10.addT ztP
def pc (f:Nat→Nat→Int) (at_ n:Nat):Nat→Int:=fun c=>bif Nat.ble (c+1) n then f (at_+c) 0 else 0
theorem zoM {s:Nat→Int}:∀ {n j:Nat},(∀ i,i<n→0≤s (j+i)∧s (j+i)<256)→areB s n j=true
 | 0,_,_=>rfl
 | n+1,j,h=>by
  simp only [areB,Bool.and_eq_true]
  refine ⟨by have:=h 0 (by omega);simpa [isB] using this,zoM fun i hi=>?_⟩
  have:=h (i+1) (by omega)
  rw [show j+(i+1)=j+1+i by omega] at this
  exact this
end Go.Proofs.YtplaklpfeabhiaaGreat
namespace Go.Proofs.YtplaklpfeabhiaaGreat
open Go.Proofs.Tryz
open Go Go.AM
theorem vlm (x:Int):val4 (limbs4 (x % ordL))=x % ordL:=za9 (zaA x).1 (by have:=zaA x;omega)
theorem ltm (x y:Int):decide ((x % ordL)*(y % ordL)<837987995621412318723376562387865382970672704722752069161643127410823533853887053955815137300972953486637920970759041562307810663343864530314786141896704)=true:=by
 have h1:=zaA x
 have h2:=zaA y
 have h3:(x % ordL)*(y % ordL)≤ordL*ordL:=Int.mul_le_mul (by omega) (by omega) h2.1 (by omega)
 exact decide_eq_true (Int.lt_of_le_of_lt h3 (by decide))
theorem zv7 (a b c:Nat→Int) (h:ckL [areB a 32 0,areB b 32 0,inU4 (limbs4 (hval a 32 0 % ordL))&&(inU4 (limbs4 (hval b 32 0 % ordL))&&decide (val4 (limbs4 (hval a 32 0 % ordL))*val4 (limbs4 (hval b 32 0 % ordL))<837987995621412318723376562387865382970672704722752069161643127410823533853887053955815137300972953486637920970759041562307810663343864530314786141896704)),areB c 32 0,inU4 (limbs4 (val4 (limbs4 (hval a 32 0 % ordL))*val4 (limbs4 (hval b 32 0 % ordL)) % ordL))&&inU4 (limbs4 (hval c 32 0 % ordL)),inU4 (limbs4 (low ((val4 (limbs4 (val4 (limbs4 (hval a 32 0 % ordL))*val4 (limbs4 (hval b 32 0 % ordL)) % ordL))+val4 (limbs4 (hval c 32 0 % ordL))) % 115792089237316195423570985008687907853269984665640564039457584007913129639936)))]=true):Pure prog F_scalar_MulAdd [u8s 32 a,u8s 32 b,u8s 32 c] (AV.agg [Seg.ints IntKind.u8 32 (lf (byL 32 (val4 (limbs4 (low ((val4 (limbs4 (val4 (limbs4 (hval a 32 0 % ordL))*val4 (limbs4 (hval b 32 0 % ordL)) % ordL))+val4 (limbs4 (hval c 32 0 % ordL))) % 115792089237316195423570985008687907853269984665640564039457584007913129639936))))))]) :=
 zad L11 at_scalar_MulAdd LsOK.nil (by kernel_rfl) (N:=5) (gs:=[]) (Eq.trans (by kernel_rfl) (o1 h))
def tMulAdd:TF:=fun args=>match args with
 | [.agg [.ints .u8 32 a],.agg [.ints .u8 32 b],.agg [.ints .u8 32 c]]=>some (areB a 32 0&&(areB b 32 0&&areB c 32 0),b32 ((hval a 32 0*hval b 32 0+hval c 32 0) % ordL))
 | _=>none
theorem zky:TRow prog F_scalar_MulAdd tMulAdd:=by
 intro args r h
 unfold tMulAdd at h
 split at h
 case h_2=>simp at h
 rename_i a b c
 simp only [Option.some.injEq,Prod.mk.injEq,Bool.and_eq_true] at h
 obtain ⟨⟨ha,hb,hc⟩,rfl⟩:=h
 have e:=zv7 a b c
 rw [vlm,vlm,vlm,vlm,zon,vlm,ha,hb,hc,ltm,zaP,zaP,zaP,zaP,zaP] at e
 have e:=e rfl
 rw [Int.add_emod,← Int.mul_emod,← Int.add_emod] at e
 exact e
end Go.Proofs.YtplaklpfeabhiaaGreat
namespace Go.Proofs.YtplaklpfeabhiaaGreat
open Go.Proofs.Tryz
open Go Go.AM
def tCarried:TF:=fun args=>match args with
 | [.agg [.ints .u64 5 a]]=>some (inU5 a,u5 (lf (carL a)))
 | _=>none
theorem znD:fnChk prog (envP tt ts8 []) f_edwards_carried=true:=by kernel_rfl
theorem zmy (a:Nat→Int):outP (apFunc (envP tt ts8 []) [] 50 f_edwards_carried [u5 a] [])=some (true,u5 (lf (carRaw a))):=by kernel_rfl
theorem zob:TRow prog F_edwards_carried tCarried:=by
 intro args r h
 unfold tCarried at h
 split at h
 case h_2=>simp at h
 rename_i a
 simp only [Option.some.injEq,Prod.mk.injEq] at h
 obtain ⟨ha,rfl⟩:=h
 refine zab L8 at_edwards_carried znD (N:=50) (gs:=[]) ?_
 rw [← zvs ha]
 exact zmy a
def tf1:List (Nat × TF):=(F_edwards_carried,tCarried)::ts8
theorem M1:LibOK prog tt tf1 []:=L8.addT zob
def tFeMinus:TF:=fun args=>match args with
 | [.agg [.ints .u64 5 a],.agg [.ints .u64 5 b]]=>some (true,u5 (lf (subV (l5 a) (l5 b))))
 | _=>none
def tFePlus:TF:=fun args=>match args with
 | [.agg [.ints .u64 5 a],.agg [.ints .u64 5 b]]=>some (true,u5 (lf (addV (l5 a) (l5 b))))
 | _=>none
theorem zrS:fnChk prog (envP tt tf1 []) f_edwards_fe_plus=true:=by kernel_rfl
theorem zn8:fnChk prog (envP tt tf1 []) f_edwards_fe_minus=true:=by kernel_rfl
def plusRaw (a b:Nat→Int):List Int:=[wr .u64 (a 0+b 0),wr .u64 (a 1+b 1),wr .u64 (a 2+b 2),wr .u64 (a 3+b 3),wr .u64 (a 4+b 4)]
theorem zqZ (a b:Nat→Int):outP (apFunc (envP tt tf1 []) [] 50 f_edwards_fe_plus [u5 a,u5 b] [])=some (ckL [inU5 (lf (plusRaw a b))],u5 (lf (carL (lf (plusRaw a b))))):=by kernel_rfl
def minusRaw (a b:Nat→Int):List Int:=[wr .u64 (a 0+wr .u64 (4503599627370458 - b 0)),wr .u64 (a 1+wr .u64 (4503599627370494 - b 1)),wr .u64 (a 2+wr .u64 (4503599627370494 - b 2)),wr .u64 (a 3+wr .u64 (4503599627370494 - b 3)),wr .u64 (a 4+wr .u64 (4503599627370494 - b 4))]
theorem zmR (a b:Nat→Int):outP (apFunc (envP tt tf1 []) [] 50 f_edwards_fe_minus [u5 a,u5 b] [])=some (ckL [inU5 (lf (minusRaw a b))],u5 (lf (carL (lf (minusRaw a b))))):=by kernel_rfl
theorem zp3:TRow prog F_edwards_fe_plus tFePlus:=by
 intro args r h
 unfold tFePlus at h
 split at h
 case h_2=>simp at h
 rename_i a b
 simp only [Option.some.injEq,Prod.mk.injEq,true_and] at h
 subst h
 refine zab M1 at_edwards_fe_plus zrS (N:=50) (gs:=[]) ?_
 have e:plusRaw a b=addL a b:=by simp only [plusRaw,addL,wr64]
 have:=zqZ a b
 simp only [u5] at this ⊢
 rw [this,e]
 simp [ckL,ziz,zvD,feAdd]
theorem zpp:TRow prog F_edwards_fe_minus tFeMinus:=by
 intro args r h
 unfold tFeMinus at h
 split at h
 case h_2=>simp at h
 rename_i a b
 simp only [Option.some.injEq,Prod.mk.injEq,true_and] at h
 subst h
 refine zab M1 at_edwards_fe_minus zn8 (N:=50) (gs:=[]) ?_
 have e:minusRaw a b=subL a b:=by
  have h:∀ x c y:Int,(x+(c - y) % 18446744073709551616) % 18446744073709551616=(x+c - y) % 18446744073709551616:=fun x c y=>by omega
  simp only [minusRaw,subL,wr64,h]
 have:=zmR a b
 simp only [u5] at this ⊢
 rw [this,e]
 simp [ckL,zhw,zuJ,feSub]
def tf2:List (Nat × TF):=(F_edwards_fe_minus,tFeMinus)::(F_edwards_fe_plus,tFePlus)::tf1
theorem M2:LibOK prog tt tf2 []:=(M1.addT zp3).addT zpp
noncomputable def wf1:List (Nat × WF):=[(F_edwards_wide_add,AM.sW (envP tt tf2 []) [] 50 f_edwards_wide_add)]
theorem M3:LibOK prog tt tf2 wf1:=M2.sW at_edwards_wide_add [] 50 (by kernel_rfl)
theorem zn9:fnChk prog (envP tt tf2 wf1) f_edwards_fe_times=true:=by kernel_rfl
theorem zoC (a b:Nat→Int):(outP (apFunc (envP tt tf2 wf1) [] 50 f_edwards_fe_times [u5 a,u5 b] [])).map (·.2)=some (u5 (lf (carL (lf (mulRaw a b))))):=by kernel_rfl
theorem zmd (a b:Nat→Int):(outP (apFunc (envP tt tf2 wf1) [] 50 f_edwards_fe_times [u5 a,u5 b] [])).map (·.1)=some (ckL (mulCk a b)):=by kernel_rfl
def tFeTimes:TF:=fun args=>match args with
 | [.agg [.ints .u64 5 a],.agg [.ints .u64 5 b]]=>some (chk5 (l5 a)&&chk5 (l5 b),u5 (lf (mulV (l5 a) (l5 b))))
 | _=>none
theorem zhJ:TRow prog F_edwards_fe_times tFeTimes:=by
 intro args r h
 unfold tFeTimes at h
 split at h
 case h_2=>simp at h
 rename_i a b
 simp only [Option.some.injEq,Prod.mk.injEq,Bool.and_eq_true] at h
 obtain ⟨⟨ha,hb⟩,rfl⟩:=h
 refine zab M3 at_edwards_fe_times zn9 (N:=50) (gs:=[]) ?_
 have e:=both (zmd a b) (zoC a b)
 rw [zmu (a:=a) (b:=b) ha hb,zpu (a:=a) (b:=b) ha hb] at e
 exact e
noncomputable def tf3:List (Nat × TF):=(F_edwards_fe_times,tFeTimes)::tf2
theorem M4:LibOK prog tt tf3 wf1:=M3.addT zhJ
end Go.Proofs.YtplaklpfeabhiaaGreat
namespace Go.Proofs.YtplaklpfeabhiaaGreat
open Go.Proofs.Tryz
open Go Go.AM
-- the curve's number
theorem zt5:fnChk prog (envP tt tf3 wf1) f_edwards_load=true:=by kernel_rfl
noncomputable def tl0:List (Nat × TF):=(F_edwards_load,sT (envP tt tf3 wf1) [] 50 f_edwards_load)::tf3
theorem N0:LibOK prog tt tl0 wf1:=M4.addT (zo6 M4 at_edwards_load [] 50 zt5)
theorem zvG:fnChk prog (envP tt tl0 wf1) f_edwards_curve=true:=by kernel_rfl
def tCurve:TF:=fun args=>match args with
 | []=>some (true,u5 (lf cvL))
 | _=>none
theorem zug:outP (apFunc (envP tt tl0 wf1) [] 50 f_edwards_curve [] [])=some (true,u5 (lf cvL)):=by kernel_rfl
theorem zos:TRow prog F_edwards_curve tCurve:=by
 intro args r h
 unfold tCurve at h
 split at h
 case h_2=>simp at h
 exact zab N0 at_edwards_curve zvG (N:=50) (gs:=[]) (zug.trans h)
noncomputable def tg0:List (Nat × TF):=(F_edwards_curve,tCurve)::tf3
theorem N1:LibOK prog tt tg0 wf1:=M4.addT zos
def tSmall:TF:=fun args=>match args with
 | [.sc (.int .u64 n)]=>some (true,u5 (lf [n,0,0,0,0]))
 | _=>none
theorem zuo:fnChk prog (envP tt tg0 wf1) f_edwards_small=true:=by kernel_rfl
theorem znm:TRow prog F_edwards_small tSmall:=by
 intro args r h
 unfold tSmall at h
 split at h
 case h_2=>simp at h
 rename_i n
 simp only [Option.some.injEq,Prod.mk.injEq,true_and] at h
 subst h
 exact zab N1 at_edwards_small zuo (N:=50) (gs:=[]) (by kernel_rfl)
def tSquare:TF:=fun args=>match args with
 | [.agg [.ints .u64 5 a]]=>some (chk5 (l5 a),u5 (lf (mulV (l5 a) (l5 a))))
 | _=>none
theorem zqv:fnChk prog (envP tt tg0 wf1) f_edwards_fe_square=true:=by kernel_rfl
theorem zsf (a:Nat→Int):outP (apFunc (envP tt tg0 wf1) [] 50 f_edwards_fe_square [u5 a] [])=some (ckL [chk5 (l5 a)&&chk5 (l5 a)],u5 (lf (r5 (mulV (l5 a) (l5 a))))):=by kernel_rfl
theorem zkf:TRow prog F_edwards_fe_square tSquare:=by
 intro args r h
 unfold tSquare at h
 split at h
 case h_2=>simp at h
 rename_i a
 simp only [Option.some.injEq,Prod.mk.injEq] at h
 obtain ⟨ha,rfl⟩:=h
 refine zab N1 at_edwards_fe_square zqv (N:=50) (gs:=[]) ?_
 have:=zsf a
 rw [show ckL [chk5 (l5 a)&&chk5 (l5 a)]=true by simp [ckL,ha]] at this
 exact this
noncomputable def tg1:List (Nat × TF):=(F_edwards_fe_square,tSquare)::(F_edwards_small,tSmall)::tg0
theorem N2:LibOK prog tt tg1 wf1:=(N1.addT znm).addT zkf
theorem zq7:fnChk prog (envP tt tg1 wf1) f_edwards_point_plus=true:=by kernel_rfl
theorem zpq:fnChk prog (envP tt tg1 wf1) f_edwards_point_twice=true:=by kernel_rfl
theorem zoU (p:Nat→Int):(outP (apFunc (envP tt tg1 wf1) [] 50 f_edwards_point_twice [pt p] [])).map (·.2)=some (pt (lf (ptDbl p))):=by kernel_rfl
theorem zqX (p q:Nat→Int):(outP (apFunc (envP tt tg1 wf1) [] 50 f_edwards_point_plus [pt p,pt q] [])).map (·.2)=some (pt (lf (ptAdd p q))):=by kernel_rfl
theorem zlP (p:Nat→Int):(outP (apFunc (envP tt tg1 wf1) [] 50 f_edwards_point_twice [pt p] [])).map (·.1)=some (ckL (ptDblCk p)):=by kernel_rfl
theorem zoX (p q:Nat→Int):(outP (apFunc (envP tt tg1 wf1) [] 50 f_edwards_point_plus [pt p,pt q] [])).map (·.1)=some (ckL (ptAddCk p q)):=by kernel_rfl
def tPtPlus:TF:=fun args=>match args with
 | [.agg [.ints .u64 20 p],.agg [.ints .u64 20 q]]=>some (chkP p&&chkP q,pt (lf (ptAdd p q)))
 | _=>none
def tPtTwice:TF:=fun args=>match args with
 | [.agg [.ints .u64 20 p]]=>some (chkP p,pt (lf (ptDbl p)))
 | _=>none
theorem zr2:TRow prog F_edwards_point_plus tPtPlus:=by
 intro args r h
 unfold tPtPlus at h
 split at h
 case h_2=>simp at h
 rename_i p q
 simp only [Option.some.injEq,Prod.mk.injEq,Bool.and_eq_true] at h
 obtain ⟨⟨hp,hq⟩,rfl⟩:=h
 refine zab N2 at_edwards_point_plus zq7 (N:=50) (gs:=[]) ?_
 have e:=both (zoX p q) (zqX p q)
 rw [zjj hp hq] at e
 exact e
theorem zpr:TRow prog F_edwards_point_twice tPtTwice:=by
 intro args r h
 unfold tPtTwice at h
 split at h
 case h_2=>simp at h
 rename_i p
 simp only [Option.some.injEq,Prod.mk.injEq] at h
 obtain ⟨hp,rfl⟩:=h
 refine zab N2 at_edwards_point_twice zpq (N:=50) (gs:=[]) ?_
 have e:=both (zlP p) (zoU p)
 rw [zjc hp] at e
 exact e
end Go.Proofs.YtplaklpfeabhiaaGreat
namespace Go.Proofs.YtplaklpfeabhiaaGreat
open Go.Proofs.Tryz
open Go Go.AM
noncomputable def ex1:List (Nat × TF):=(F_edwards_point_twice,tPtTwice)::(F_edwards_point_plus,tPtPlus)::(F_edwards_fe_square,tSquare)::(F_edwards_small,tSmall)::(F_edwards_curve,tCurve)::(F_edwards_fe_times,tFeTimes)::tf2
theorem X1:LibOK prog tt ex1 []:=(((((M2.addT zhJ).addT zos).addT znm).addT zkf).addT zr2).addT zpr
def tLoad:TF:=fun args=>match args with
 | [.agg [.ints .u8 32 b]]=>some (areB b 32 0,u5 (lf (loadL (hval b 32 0))))
 | _=>none
theorem zwl:fnChk prog (envP tt ex1 []) f_edwards_load=true:=by kernel_rfl
theorem zxY (b:Nat→Int):outP (apFunc (envP tt ex1 []) [] 60 f_edwards_load [u8s 32 b] [])=some (true,u5 (lf (loadRaw b))):=by kernel_rfl
theorem zym:TRow prog F_edwards_load tLoad:=by
 intro args r h
 unfold tLoad at h
 split at h
 case h_2=>simp at h
 rename_i b
 simp only [Option.some.injEq,Prod.mk.injEq] at h
 obtain ⟨hb,rfl⟩:=h
 refine zab X1 at_edwards_load zwl (N:=60) (gs:=[]) ?_
 rw [← zqq hb]
 exact zxY b
def tFeBytes:TF:=fun args=>match args with
 | [.agg [.ints .u64 5 a]]=>some (bd5 (l5 a),b32 (fm (l5 a)))
 | _=>none
theorem zo5:fnChk prog (envP tt ex1 []) f_edwards_fe_bytes=true:=by kernel_rfl
theorem zpg (a:Nat→Int):outP (apFunc (envP tt ex1 []) [] 60 f_edwards_fe_bytes [u5 a] [])=some (ckL [inU5 (lf (l5 a)),inU5 (lf (carL (lf (l5 a))))],u8s 32 (lf (bytesRaw (lf (l5 a))))):=by kernel_rfl
theorem znd:TRow prog F_edwards_fe_bytes tFeBytes:=by
 intro args r h
 unfold tFeBytes at h
 split at h
 case h_2=>simp at h
 rename_i a
 simp only [Option.some.injEq,Prod.mk.injEq] at h
 obtain ⟨ha,rfl⟩:=h
 refine zab X1 at_edwards_fe_bytes zo5 (N:=60) (gs:=[]) ?_
 have e:=zpg a
 have h1:inU5 (lf (l5 a))=true:=zb3 ha
 rw [znt ha,h1,zdq h1] at e
 exact e
noncomputable def ex2:List (Nat × TF):=(F_edwards_fe_bytes,tFeBytes)::(F_edwards_load,tLoad)::ex1
theorem X2:LibOK prog tt ex2 []:=(X1.addT zym).addT znd
def tFeSame:TF:=fun args=>match args with
 | [.agg [.ints .u64 5 a],.agg [.ints .u64 5 b]]=>some (bd5 (l5 a)&&bd5 (l5 b),.sc (.bool (decide (fm (l5 a)=fm (l5 b)))))
 | _=>none
theorem zpV:fnChk prog (envP tt ex2 []) f_edwards_fe_same=true:=by kernel_rfl
theorem zqQ (a b:Nat→Int):outP (apFunc (envP tt ex2 []) [] 60 f_edwards_fe_same [u5 a,u5 b] [])=some (ckL [bd5 (l5 a),bd5 (l5 b)],.sc (.bool (eqN 32 (lf (byL 32 (fm (l5 a)))) (lf (byL 32 (fm (l5 b))))&&true))):=by kernel_rfl
theorem zxF:pP<R256:=by decide
theorem zj7 {x y:Int} (hx:0≤x∧x<R256) (hy:0≤y∧y<R256):eqN 32 (lf (byL 32 x)) (lf (byL 32 y))=decide (x=y):=by
 rw [ziT (za0 y) hx.1 hx.2,zcj hy.1 hy.2]
 by_cases e:x=y
 ·rw [decide_eq_true e,decide_eq_true e.symm]
 ·rw [decide_eq_false e,decide_eq_false (fun h=>e h.symm)]
theorem zfL (l:List Int):0≤fm l∧fm l<R256:=⟨(zda l).1,Int.lt_trans (zda l).2 zxF⟩
theorem zpv:TRow prog F_edwards_fe_same tFeSame:=by
 intro args r h
 unfold tFeSame at h
 split at h
 case h_2=>simp at h
 rename_i a b
 simp only [Option.some.injEq,Prod.mk.injEq,Bool.and_eq_true] at h
 obtain ⟨⟨ha,hb⟩,rfl⟩:=h
 refine zab X2 at_edwards_fe_same zpV (N:=60) (gs:=[]) ?_
 have e:=zqQ a b
 rw [ha,hb,zj7 (zfL _) (zfL _),Bool.and_true] at e
 exact e
def tFeOdd:TF:=fun args=>match args with
 | [.agg [.ints .u64 5 a]]=>some (bd5 (l5 a),.sc (.bool (decide (fm (l5 a) % 2=1))))
 | _=>none
theorem ztw:fnChk prog (envP tt ex2 []) f_edwards_fe_odd=true:=by kernel_rfl
theorem ztT (a:Nat→Int):outP (apFunc (envP tt ex2 []) [] 60 f_edwards_fe_odd [u5 a] [])=some (ckL [bd5 (l5 a)],.sc (.bool (iand .u8 (lf (byL 32 (fm (l5 a))) 0) 1==1))):=by kernel_rfl
set_option maxRecDepth 100000 in
theorem zm4 {x:Int} (h:0≤x∧x<256):iand .u8 x 1=x % 2:=by
 have key:∀ n:Nat,n<256→iand .u8 (n:Int) 1=(n:Int) % 2:=by decide
 have:=key x.toNat (by omega)
 rwa [Int.toNat_of_nonneg h.1] at this
theorem ztc {v:Int} (h:0≤v):(iand .u8 (lf (byL 32 v) 0) 1==1)=decide (v % 2=1):=by
 have e:lf (byL 32 v) 0=v % 256:=rfl
 rw [e,zm4 ⟨by omega,by omega⟩]
 have:v % 256 % 2=v % 2:=by omega
 rw [this]
 rfl
theorem zvl:TRow prog F_edwards_fe_odd tFeOdd:=by
 intro args r h
 unfold tFeOdd at h
 split at h
 case h_2=>simp at h
 rename_i a
 simp only [Option.some.injEq,Prod.mk.injEq] at h
 obtain ⟨ha,rfl⟩:=h
 refine zab X2 at_edwards_fe_odd ztw (N:=60) (gs:=[]) ?_
 have e:=ztT a
 rw [ha,ztc (zda _).1] at e
 exact e
noncomputable def ex3:List (Nat × TF):=(F_edwards_fe_odd,tFeOdd)::(F_edwards_fe_same,tFeSame)::ex2
theorem X3:LibOK prog tt ex3 []:=(X2.addT zpv).addT zvl
def sqV:Nat→List Int→List Int
 | 0,l=>l
 | n+1,l=>mulV (r5 (sqV n l)) (r5 (sqV n l))
theorem zf3 {l:List Int} (h:bd5 l=true):∀ n,bd5 (sqV n l)=true
 | 0=>h
 | n+1=>zaW (zf3 h n) (zf3 h n)
theorem zs4 {l:List Int} (h:bd5 l=true) {x:Int} {a:Nat} (hx:fm l=powM x a):∀ n,fm (sqV n l)=powM x (a*2 ^ n)
 | 0=>by simpa [sqV] using hx
 | n+1=>by
  have ih:=zs4 h hx n
  show fm (mulV (r5 (sqV n l)) (r5 (sqV n l)))=_
  rw [zaE (by rw [r5_bd];exact zf3 h n) (by rw [r5_bd];exact zf3 h n),r5_fm,ih,zdw]
  congr 1
  rw [Nat.pow_succ];grind
theorem and_t {a b:Bool}:(a&&b)=true ↔ a=true∧b=true:=by rw [Bool.and_eq_true]
noncomputable abbrev znn:EnvP:=envP tt ex3 []
noncomputable def sqB:Code:=match f_edwards_fe_squares.body with | some c=>(match bodiesOf 0 c with | [.loop b]=>b | _=>.skip) | none=>.skip
def sqS (n v:Int) (f:Nat→Int):St:=⟨tmOf [(2,.sc (.ptr 0 5 0 0 5)),(4,.sc (.ptr 1 5 0 0 5)),(5,.sc (.int .i64 n)),(6,.sc (.int .i64 v))] 12 0,[some (.ints .u64 5 1 (fun _ d=>f d)),some (.ints .u64 5 1 (fun _ _=>0))]⟩
theorem zrc (n v v':Int) (f f':Nat→Int):roundR znn [(7,true)] 5 2 [] sqB (sqS n v f) .normal (sqS n v' f') =
  some (ckL [decide (v<n)==true,chk5 (l5 f)]&&stR (rnm 2 []) (sqS n (wr .i64 (v+1)) (lf (mulV (l5 f) (l5 f)))) (sqS n v' f')):=by kernel_rfl
theorem ztM (n v v':Int) (f f':Nat→Int):roundR znn [(7,false)] 5 2 [] sqB (sqS n v f) (.exit 0) (sqS n v' f')=some (ckL [decide (v<n)==false]&&stR (rnm 2 []) (sqS n v f) (sqS n v' f')):=by kernel_rfl
theorem zjK {n v v':Int} {f g:Nat→Int} (hv:v=v') (h:∀ d,d<5→f d=g d):stR (rnm 2 []) (sqS n v f) (sqS n v' g)=true:=by
 subst hv
 have e:eqF 1 5 (fun _ d=>f d) (fun _ d=>g d)=true:=zaK fun r _ d hd=>h d hd
 simp [stR,sqS,tmOf,tmR,avR,svR,rIs,rnm,zaj,zam,hpR,blkR,ndR,e]
 rfl
def sqN (n:Int):Bool:=decide (0≤n)&&decide (n<4611686018427387904)
def sqW (a:Nat→Int) (n:Int) (k:Nat):St:=sqS n k (lf (sqV k (l5 a)))
def sqF (a:Nat→Int) (n:Int):LF:=famA 2 [] (sqW a n 0) (bd5 (l5 a)&&sqN n) .normal (sqS n n (lf (sqV n.toNat (l5 a))))
theorem ztb:f_edwards_fe_squares.body.map (bodiesOf 0)=some [.loop sqB]:=by kernel_rfl
theorem sq_ok:codeOK prog znn.env.isW sqB=true:=by kernel_rfl
theorem l_sq (a:Nat→Int) (n:Int):LRow prog f_edwards_fe_squares 0 (sqF a n):=by
 refine LRow.famA (N:=5) (S:=sqW a n) (X3.env []) mix n.toNat (za2 ztb) sq_ok (fun w0 own0=>zat (fun id=>rfl) sqB) (fun _ _=>Nat.le_refl _) (Nat.le_refl _) fun hck=>?_
 simp only [Bool.and_eq_true,sqN,decide_eq_true_eq] at hck
 obtain ⟨hb,h0,h1⟩:=hck
 refine ⟨fun k hk=>?_,?_⟩
 ·refine zal (zrc n k ((k+1:Nat):Int) (lf (sqV k (l5 a))) (lf (sqV (k+1) (l5 a)))) ?_
  refine and_t.2 ⟨?_,zjK ((zbn (by omega) (by omega)).trans (by omega)) fun d _=>rfl⟩
  rw [show chk5 (l5 (lf (sqV k (l5 a))))=true from zb3 (zf3 hb k),decide_eq_true (show (k:Int)<n by omega)]
  rfl
 ·obtain ⟨s1,r,q1,q2,q3⟩:=zal (n:=2) (ztM n n.toNat n (lf (sqV n.toNat (l5 a))) (lf (sqV n.toNat (l5 a)))) (by
   rw [zjK (by omega) (fun d _=>rfl),decide_eq_false (show ¬ ((n.toNat:Nat):Int)<n by omega)];rfl)
  exact ⟨_,s1,r,q1,rfl,q2,q3⟩
theorem c_sq (a:Nat→Int) (n:Int):fnChk prog (envL tt ex3 [] [(0,sqF a n)]) f_edwards_fe_squares=true:=by kernel_rfl
theorem k_sq (a:Nat→Int) (n:Int):outP (apFunc (envL tt ex3 [] [(0,sqF a n)]) [] 5 f_edwards_fe_squares [u5 a,.sc (.int .i64 n)] []) =
  some (ckL [(bd5 (l5 a)&&sqN n)&&stR (rnm 2 []) (sqS n 0 a) (sqW a n 0)],u5 (lf (r5 (sqV n.toNat (l5 a))))):=by kernel_rfl
def tSquares:TF:=fun args=>match args with
 | [.agg [.ints .u64 5 a],.sc (.int .i64 n)]=>some (bd5 (l5 a)&&sqN n,u5 (lf (r5 (sqV n.toNat (l5 a)))))
 | _=>none
theorem lf_l5 (a:Nat→Int):∀ d,d<5→a d=lf (l5 a) d
 | 0,_=>rfl
 | 1,_=>rfl
 | 2,_=>rfl
 | 3,_=>rfl
 | 4,_=>rfl
 | n+5,h=>by omega
theorem znk:TRow prog F_edwards_fe_squares tSquares:=by
 intro args r h
 unfold tSquares at h
 split at h
 case h_2=>simp at h
 rename_i a n
 simp only [Option.some.injEq,Prod.mk.injEq] at h
 obtain ⟨ha,rfl⟩:=h
 refine zad X3 at_edwards_fe_squares (LsOK.nil.cons (l_sq a n)) (c_sq a n) (N:=5) (gs:=[]) ?_
 have e:=k_sq a n
 rw [ha,show stR (rnm 2 []) (sqS n 0 a) (sqW a n 0)=true from zjK rfl (lf_l5 a)] at e
 exact e
noncomputable def ex4:List (Nat × TF):=(F_edwards_fe_squares,tSquares)::ex3
theorem X4:LibOK prog tt ex4 []:=X3.addT znk
def mR (a b:List Int):List Int:=mulV (r5 a) (r5 b)
theorem mR_bd {a b:List Int} (ha:bd5 a=true) (hb:bd5 b=true):bd5 (mR a b)=true:=zaW (a:=r5 a) (b:=r5 b) ha hb
theorem mR_fm {a b:List Int} (ha:bd5 a=true) (hb:bd5 b=true):fm (mR a b)=mM (fm a) (fm b):=zaE (a:=r5 a) (b:=r5 b) ha hb
def sqR (n:Nat) (a:List Int):List Int:=r5 (sqV n (r5 a))
theorem zaO {a:List Int} (n:Nat) (ha:bd5 a=true):bd5 (sqR n a)=true:=zf3 (l:=r5 a) ha n
end Go.Proofs.YtplaklpfeabhiaaGreat
namespace Go.Proofs.YtplaklpfeabhiaaGreat
open Go.Proofs.Tryz
open Go Go.AM
def zcw (n:Int) (a:List Int):Bool:=bd5 (r5 a)&&sqN n
def cM (a b:List Int):Bool:=chk5 (r5 a)&&chk5 (r5 b)
def cQ (a:List Int):Bool:=chk5 (r5 a)
theorem cS_t {n:Int} {a:List Int} (h:bd5 a=true) (hn:sqN n=true):zcw n a=true:=by unfold zcw;rw [show bd5 (r5 a)=true from h,hn];rfl
theorem cM_t {a b:List Int} (ha:bd5 a=true) (hb:bd5 b=true):cM a b=true:=by unfold cM;rw [show chk5 (r5 a)=true from zb3 ha,show chk5 (r5 b)=true from zb3 hb];rfl
theorem cQ_t {a:List Int} (ha:bd5 a=true):cQ a=true:=zb3 ha
def ch2 (a:List Int):List Int:=mR a a
def ch9 (a:List Int):List Int:=mR a (sqR 2 (ch2 a))
def ch11 (a:List Int):List Int:=mR (ch9 a) (ch2 a)
def ch5x (a:List Int):List Int:=mR (ch9 a) (mR (ch11 a) (ch11 a))
def ch10x (a:List Int):List Int:=mR (ch5x a) (sqR 5 (ch5x a))
def ch20x (a:List Int):List Int:=mR (ch10x a) (sqR 10 (ch10x a))
def ch40x (a:List Int):List Int:=mR (ch20x a) (sqR 20 (ch20x a))
def ch50x (a:List Int):List Int:=mR (ch10x a) (sqR 10 (ch40x a))
def ch100x (a:List Int):List Int:=mR (ch50x a) (sqR 50 (ch50x a))
def ch200x (a:List Int):List Int:=mR (ch100x a) (sqR 100 (ch100x a))
def ch250x (a:List Int):List Int:=mR (ch50x a) (sqR 50 (ch200x a))
def chCk (a:List Int):List Bool :=
 [cQ a,zcw 2 (ch2 a),cM a (sqR 2 (ch2 a)),cM (ch9 a) (ch2 a),cQ (ch11 a),cM (ch9 a) (mR (ch11 a) (ch11 a)),zcw 5 (ch5x a),cM (ch5x a) (sqR 5 (ch5x a)),zcw 10 (ch10x a),cM (ch10x a) (sqR 10 (ch10x a)),zcw 20 (ch20x a),cM (ch20x a) (sqR 20 (ch20x a)),
  zcw 10 (ch40x a),cM (ch10x a) (sqR 10 (ch40x a)),zcw 50 (ch50x a),cM (ch50x a) (sqR 50 (ch50x a)),zcw 100 (ch100x a),cM (ch100x a) (sqR 100 (ch100x a)),zcw 50 (ch200x a),cM (ch50x a) (sqR 50 (ch200x a))]
theorem ch_bd {a:List Int} (h:bd5 a=true):bd5 (ch2 a)=true∧bd5 (ch9 a)=true∧bd5 (ch11 a)=true∧bd5 (ch5x a)=true∧bd5 (ch10x a)=true∧bd5 (ch20x a)=true∧bd5 (ch40x a)=true∧bd5 (ch50x a)=true∧bd5 (ch100x a)=true∧bd5 (ch200x a)=true∧bd5 (ch250x a)=true:=by
 have h2:=mR_bd h h
 have h9:=mR_bd h (zaO 2 h2)
 have h11:=mR_bd h9 h2
 have h5:=mR_bd h9 (mR_bd h11 h11)
 have h10:=mR_bd h5 (zaO 5 h5)
 have h20:=mR_bd h10 (zaO 10 h10)
 have h40:=mR_bd h20 (zaO 20 h20)
 have h50:=mR_bd h10 (zaO 10 h40)
 have h100:=mR_bd h50 (zaO 50 h50)
 have h200:=mR_bd h100 (zaO 100 h100)
 exact ⟨h2,h9,h11,h5,h10,h20,h40,h50,h100,h200,mR_bd h50 (zaO 50 h200)⟩
theorem zrA {a:List Int} (h:bd5 a=true):ckL (chCk a)=true:=by
 obtain ⟨h2,h9,h11,h5,h10,h20,h40,h50,h100,h200,h250⟩:=ch_bd h
 unfold chCk
 rw [cQ_t h,cS_t h2 (by decide),cM_t h (zaO 2 h2),cM_t h9 h2,cQ_t h11,cM_t h9 (mR_bd h11 h11),cS_t h5 (by decide),cM_t h5 (zaO 5 h5),cS_t h10 (by decide),cM_t h10 (zaO 10 h10),cS_t h20 (by decide),cM_t h20 (zaO 20 h20),
  cS_t h40 (by decide),cM_t h10 (zaO 10 h40),cS_t h50 (by decide),cM_t h50 (zaO 50 h50),cS_t h100 (by decide),cM_t h100 (zaO 100 h100),cS_t h200 (by decide),cM_t h50 (zaO 50 h200)]
 rfl
theorem zbW {a b:List Int} {x:Int} {m n k:Nat} (ha:bd5 a=true) (hb:bd5 b=true) (e1:fm a=powM x m) (e2:fm b=powM x n) (hk:m+n=k):fm (mR a b)=powM x k:=by
 rw [mR_fm ha hb,e1,e2,zdw,hk]
theorem zb6 {a:List Int} {x:Int} {m k:Nat} (n:Nat) (ha:bd5 a=true) (e1:fm a=powM x m) (hk:m*2 ^ n=k):fm (sqR n a)=powM x k:=by
 have:=zs4 (l:=r5 a) ha (x:=x) (a:=m) e1 n
 rw [hk] at this
 exact this
theorem zs3 {a:List Int} (h:bd5 a=true):fm (ch11 a)=powM (fm a) 11∧fm (ch250x a)=powM (fm a) (2 ^ 250 - 1):=by
 obtain ⟨h2,h9,h11,h5,h10,h20,h40,h50,h100,h200,h250⟩:=ch_bd h
 have e:fm a=powM (fm a) 1:=(zgO (zda a)).symm
 have e2:fm (ch2 a)=powM (fm a) 2:=zbW h h e e rfl
 have e9:fm (ch9 a)=powM (fm a) 9:=zbW h (zaO 2 h2) e (zb6 2 h2 e2 rfl) rfl
 have e11:fm (ch11 a)=powM (fm a) 11:=zbW h9 h2 e9 e2 rfl
 have e5:fm (ch5x a)=powM (fm a) (2 ^ 5 - 1):=zbW h9 (mR_bd h11 h11) e9 (zbW h11 h11 e11 e11 rfl) (by decide)
 have e10:fm (ch10x a)=powM (fm a) (2 ^ 10 - 1):=zbW h5 (zaO 5 h5) e5 (zb6 5 h5 e5 rfl) (by decide)
 have e20:fm (ch20x a)=powM (fm a) (2 ^ 20 - 1):=zbW h10 (zaO 10 h10) e10 (zb6 10 h10 e10 rfl) (by decide)
 have e40:fm (ch40x a)=powM (fm a) (2 ^ 40 - 1):=zbW h20 (zaO 20 h20) e20 (zb6 20 h20 e20 rfl) (by decide)
 have e50:fm (ch50x a)=powM (fm a) (2 ^ 50 - 1):=zbW h10 (zaO 10 h40) e10 (zb6 10 h40 e40 rfl) (by decide)
 have e100:fm (ch100x a)=powM (fm a) (2 ^ 100 - 1):=zbW h50 (zaO 50 h50) e50 (zb6 50 h50 e50 rfl) (by decide)
 have e200:fm (ch200x a)=powM (fm a) (2 ^ 200 - 1):=zbW h100 (zaO 100 h100) e100 (zb6 100 h100 e100 rfl) (by decide)
 exact ⟨e11,zbW h50 (zaO 50 h200) e50 (zb6 50 h200 e200 rfl) (by decide)⟩
theorem zuV:fnChk prog (envP tt ex4 []) f_edwards_fe_chain=true:=by kernel_rfl
theorem zt0 (a:Nat→Int):(outP (apFunc (envP tt ex4 []) [] 60 f_edwards_fe_chain [u5 a] [])).map (·.2)=some (.tup [u5 (lf (r5 (ch250x (l5 a)))),u5 (lf (r5 (ch11 (l5 a))))]):=by kernel_rfl
theorem zqL (a:Nat→Int):(outP (apFunc (envP tt ex4 []) [] 60 f_edwards_fe_chain [u5 a] [])).map (·.1)=some (ckL (chCk (l5 a))):=by kernel_rfl
def tChain:TF:=fun args=>match args with
 | [.agg [.ints .u64 5 a]]=>some (bd5 (l5 a),.tup [u5 (lf (r5 (ch250x (l5 a)))),u5 (lf (r5 (ch11 (l5 a))))])
 | _=>none
theorem zvI:TRow prog F_edwards_fe_chain tChain:=by
 intro args r h
 unfold tChain at h
 split at h
 case h_2=>simp at h
 rename_i a
 simp only [Option.some.injEq,Prod.mk.injEq] at h
 obtain ⟨ha,rfl⟩:=h
 refine zab X4 at_edwards_fe_chain zuV (N:=60) (gs:=[]) ?_
 have e:=both (zqL a) (zt0 a)
 rw [zrA ha] at e
 exact e
noncomputable def ex5:List (Nat × TF):=(F_edwards_fe_chain,tChain)::ex4
theorem X5:LibOK prog tt ex5 []:=X4.addT zvI
def invV (a:List Int):List Int:=mR (sqR 5 (r5 (ch250x a))) (r5 (ch11 a))
def e8V (a:List Int):List Int:=mR (sqR 2 (r5 (ch250x a))) a
theorem zgr {a:List Int} (h:bd5 a=true):bd5 (invV a)=true∧fm (invV a)=powM (fm a) 57896044618658097711785492504343953926634992332820282019728792003956564819947:=by
 obtain ⟨h2,h9,h11,h5,h10,h20,h40,h50,h100,h200,h250⟩:=ch_bd h
 obtain ⟨e11,e250⟩:=zs3 h
 exact ⟨mR_bd (zaO 5 (a:=r5 (ch250x a)) h250) (b:=r5 (ch11 a)) h11,zbW (zaO 5 (a:=r5 (ch250x a)) h250) (b:=r5 (ch11 a)) h11 (zb6 5 (a:=r5 (ch250x a)) h250 e250 rfl) e11 (by decide)⟩
theorem zgV {a:List Int} (h:bd5 a=true):bd5 (e8V a)=true∧fm (e8V a)=powM (fm a) 7237005577332262213973186563042994240829374041602535252466099000494570602493:=by
 obtain ⟨h2,h9,h11,h5,h10,h20,h40,h50,h100,h200,h250⟩:=ch_bd h
 obtain ⟨e11,e250⟩:=zs3 h
 exact ⟨mR_bd (zaO 2 (a:=r5 (ch250x a)) h250) h,zbW (zaO 2 (a:=r5 (ch250x a)) h250) h (zb6 2 (a:=r5 (ch250x a)) h250 e250 rfl) (zgO (zda a)).symm (by decide)⟩
theorem c_inv:fnChk prog (envP tt ex5 []) f_edwards_fe_inverse=true:=by kernel_rfl
theorem c_e8:fnChk prog (envP tt ex5 []) f_edwards_fe_eighth=true:=by kernel_rfl
theorem k_inv (a:Nat→Int):outP (apFunc (envP tt ex5 []) [] 60 f_edwards_fe_inverse [u5 a] [])=some (ckL [bd5 (l5 a),zcw 5 (r5 (ch250x (l5 a))),cM (sqR 5 (r5 (ch250x (l5 a)))) (r5 (ch11 (l5 a)))],u5 (lf (r5 (invV (l5 a))))):=by kernel_rfl
theorem k_e8 (a:Nat→Int):outP (apFunc (envP tt ex5 []) [] 60 f_edwards_fe_eighth [u5 a] [])=some (ckL [bd5 (l5 a),zcw 2 (r5 (ch250x (l5 a))),cM (sqR 2 (r5 (ch250x (l5 a)))) (l5 a)],u5 (lf (r5 (e8V (l5 a))))):=by kernel_rfl
def tInv:TF:=fun args=>match args with
 | [.agg [.ints .u64 5 a]]=>some (bd5 (l5 a),u5 (lf (r5 (invV (l5 a)))))
 | _=>none
def tE8:TF:=fun args=>match args with
 | [.agg [.ints .u64 5 a]]=>some (bd5 (l5 a),u5 (lf (r5 (e8V (l5 a)))))
 | _=>none
theorem r_inv:TRow prog F_edwards_fe_inverse tInv:=by
 intro args r h
 unfold tInv at h
 split at h
 case h_2=>simp at h
 rename_i a
 simp only [Option.some.injEq,Prod.mk.injEq] at h
 obtain ⟨ha,rfl⟩:=h
 obtain ⟨h2,h9,h11,h5,h10,h20,h40,h50,h100,h200,h250⟩:=ch_bd ha
 refine zab X5 at_edwards_fe_inverse c_inv (N:=60) (gs:=[]) ?_
 have e:=k_inv a
 rw [ha,cS_t (a:=r5 (ch250x (l5 a))) h250 (by decide),cM_t (zaO 5 (a:=r5 (ch250x (l5 a))) h250) (b:=r5 (ch11 (l5 a))) h11] at e
 exact e
theorem r_e8:TRow prog F_edwards_fe_eighth tE8:=by
 intro args r h
 unfold tE8 at h
 split at h
 case h_2=>simp at h
 rename_i a
 simp only [Option.some.injEq,Prod.mk.injEq] at h
 obtain ⟨ha,rfl⟩:=h
 obtain ⟨h2,h9,h11,h5,h10,h20,h40,h50,h100,h200,h250⟩:=ch_bd ha
 refine zab X5 at_edwards_fe_eighth c_e8 (N:=60) (gs:=[]) ?_
 have e:=k_e8 a
 rw [ha,cS_t (a:=r5 (ch250x (l5 a))) h250 (by decide),cM_t (zaO 2 (a:=r5 (ch250x (l5 a))) h250) ha] at e
 exact e
noncomputable def ex6:List (Nat × TF):=(F_edwards_fe_eighth,tE8)::(F_edwards_fe_inverse,tInv)::ex5
theorem X6:LibOK prog tt ex6 []:=(X5.addT r_inv).addT r_e8
end Go.Proofs.YtplaklpfeabhiaaGreat
namespace Go.Proofs.YtplaklpfeabhiaaGreat
open Go.Proofs.Tryz
open Go Go.AM
def rmL:List Int:=loadL 19681161376707505956807079304988542015446066515923890162744021073123829784752
def tRm:TF:=fun args=>match args with
 | []=>some (true,u5 (lf rmL))
 | _=>none
theorem c_rm:fnChk prog (envP tt ex6 []) f_edwards_rootOfMinus1=true:=by kernel_rfl
theorem r_rm:TRow prog F_edwards_rootOfMinus1 tRm:=by
 intro args r h
 unfold tRm at h
 split at h
 case h_2=>simp at h
 simp only [Option.some.injEq,Prod.mk.injEq,true_and] at h
 subst h
 exact zab X6 at_edwards_rootOfMinus1 c_rm (N:=60) (gs:=[]) (by kernel_rfl)
noncomputable def ex7:List (Nat × TF):=(F_edwards_rootOfMinus1,tRm)::ex6
theorem X7:LibOK prog tt ex7 []:=X6.addT r_rm
def iM:Int:=19681161376707505956807079304988542015446066515923890162744021073123829784752
theorem zkc:bd5 rmL=true∧fm rmL=iM:=by
 obtain ⟨h1,h2⟩:=zfd (v:=iM) (by decide)
 exact ⟨h1,h2.trans (by decide)⟩
def rv3 (V:List Int):List Int:=mR (mR V V) V
def rw7 (U V:List Int):List Int:=mR U (mR (mR (rv3 V) (rv3 V)) V)
def rx0 (U V:List Int):List Int:=mR (mR U (rv3 V)) (r5 (e8V (r5 (rw7 U V))))
def rxk (U V:List Int):Nat→List Int
 | 0=>rx0 U V
 | k+1=>mR (rxk U V k) rmL
def rok (U V x:List Int):Bool:=decide (fm (r5 (mR V (mR x x)))=fm (r5 U))
theorem znN {U V:List Int} (hu:bd5 U=true) (hv:bd5 V=true):bd5 (rv3 V)=true∧bd5 (rw7 U V)=true∧bd5 (rx0 U V)=true:=by
 have h3:=mR_bd (mR_bd hv hv) hv
 have h7:=mR_bd hu (mR_bd (mR_bd h3 h3) hv)
 exact ⟨h3,h7,mR_bd (mR_bd hu h3) (b:=r5 (e8V (r5 (rw7 U V)))) (zgV (a:=r5 (rw7 U V)) h7).1⟩
theorem ze1 {U V:List Int} (hu:bd5 U=true) (hv:bd5 V=true):∀ k,bd5 (rxk U V k)=true
 | 0=>(znN hu hv).2.2
 | k+1=>mR_bd (ze1 hu hv k) zkc.1
noncomputable abbrev rtE:EnvP:=envP tt ex7 []
noncomputable def rtB:Code:=match f_edwards_root.body with | some c=>(match bodiesOf 0 c with | [.loop b]=>b | _=>.skip) | none=>.skip
def rtS (u v:Nat→Int) (i:Int) (x:Nat→Int):St:=⟨tmOf [(2,.sc (.ptr 0 5 0 0 5)),(3,.sc (.ptr 1 5 0 0 5)),(4,.sc (.ptr 2 5 0 0 5)),(7,.sc (.ptr 4 5 0 0 5)),(23,.sc (.int .i64 i))] 37 0,
 [some (.ints .u64 5 1 (fun _ d=>u d)),some (.ints .u64 5 1 (fun _ d=>v d)),some (.ints .u64 5 1 (fun _ _=>0)),none,some (.ints .u64 5 1 (fun _ d=>x d))]⟩
def rtT1 (x:Nat→Int):St:=⟨tmOf [(4,.sc (.ptr 2 5 0 0 5)),(5,.sc (.bool true))] 37 0,[none,none,some (.ints .u64 5 1 (fun _ d=>x d)),none,none]⟩
def rtT2 (x:Nat→Int):St:=⟨tmOf [(4,.sc (.ptr 2 5 0 0 5)),(7,.sc (.ptr 4 5 0 0 5))] 37 0,[none,none,some (.ints .u64 5 1 (fun _ _=>0)),none,some (.ints .u64 5 1 (fun _ d=>x d))]⟩
def rtCk (U V X:List Int) (g:Bool):List Bool:=[cQ X,cM V (mR X X),(bd5 (r5 (mR V (mR X X)))&&bd5 (r5 U))&&(rok U V X==g)]
theorem zr0 (u v:Nat→Int) (i i':Int) (x x':Nat→Int):roundR rtE [(24,true),(30,false)] 5 5 [] rtB (rtS u v i x) .normal (rtS u v i' x') =
  some (ckL ([decide (i<2)==true]++rtCk (l5 u) (l5 v) (l5 x) false++[cM (l5 x) rmL])&&stR (rnm 5 []) (rtS u v (wr .i64 (i+1)) (lf (mR (l5 x) rmL))) (rtS u v i' x')):=by kernel_rfl
theorem zxq (u v:Nat→Int) (i:Int) (x x':Nat→Int):roundR rtE [(24,true),(30,true)] 5 5 [] rtB (rtS u v i x) .ret (rtT1 x') =
  some (ckL ([decide (i<2)==true]++rtCk (l5 u) (l5 v) (l5 x) true)&&stR (rnm 5 []) (rtT1 x) (rtT1 x')):=by kernel_rfl
theorem zvt (u v:Nat→Int) (i:Int) (x x':Nat→Int):roundR rtE [(24,false)] 5 5 [] rtB (rtS u v i x) (.exit 0) (rtT2 x') =
  some (ckL [decide (i<2)==false]&&stR (rnm 5 []) (rtT2 x) (rtT2 x')):=by kernel_rfl
theorem zoP {u v:Nat→Int} {i i':Int} {f g:Nat→Int} (hv:i=i') (h:∀ d,d<5→f d=g d):stR (rnm 5 []) (rtS u v i f) (rtS u v i' g)=true:=by
 subst hv
 have e:eqF 1 5 (fun _ d=>f d) (fun _ d=>g d)=true:=zaK fun r _ d hd=>h d hd
 simp [stR,rtS,tmOf,tmR,avR,svR,rIs,rnm,zaj,zam,hpR,blkR,ndR,e]
 decide
theorem zru {f g:Nat→Int} (h:∀ d,d<5→f d=g d):stR (rnm 5 []) (rtT1 f) (rtT1 g)=true:=by
 have e:eqF 1 5 (fun _ d=>f d) (fun _ d=>g d)=true:=zaK fun r _ d hd=>h d hd
 simp [stR,rtT1,tmOf,tmR,avR,svR,rIs,rnm,zaj,zam,hpR,blkR,ndR,e]
theorem zqN {f g:Nat→Int} (h:∀ d,d<5→f d=g d):stR (rnm 5 []) (rtT2 f) (rtT2 g)=true:=by
 have e:eqF 1 5 (fun _ d=>f d) (fun _ d=>g d)=true:=zaK fun r _ d hd=>h d hd
 simp [stR,rtT2,tmOf,tmR,avR,svR,rIs,rnm,zaj,zam,hpR,blkR,ndR,e]
 decide
def rtW (u v:Nat→Int) (k:Nat):St:=rtS u v k (lf (rxk (l5 u) (l5 v) k))
def rtCd (u v:Nat→Int):Bool:=bd5 (l5 u)&&bd5 (l5 v)
def rtM (u v:Nat→Int):Nat:=bif rok (l5 u) (l5 v) (r5 (rxk (l5 u) (l5 v) 0)) then 0 else bif rok (l5 u) (l5 v) (r5 (rxk (l5 u) (l5 v) 1)) then 1 else 2
def rtFr (u v:Nat→Int):LF:=famA 5 [] (rtW u v 0) (rtCd u v&&Nat.ble (rtM u v) 1) .ret (rtT1 (lf (rxk (l5 u) (l5 v) (rtM u v))))
def rtFx (u v:Nat→Int):LF:=famA 5 [] (rtW u v 0) (rtCd u v&&Nat.beq (rtM u v) 2) .normal (rtT2 (lf (rxk (l5 u) (l5 v) 2)))
theorem znE:f_edwards_root.body.map (bodiesOf 0)=some [.loop rtB]:=by kernel_rfl
theorem rt_ok:codeOK prog rtE.env.isW rtB=true:=by kernel_rfl
theorem zkP {U V X:List Int} {g:Bool} (hu:bd5 U=true) (hv:bd5 V=true) (hx:bd5 X=true) (hg:rok U V X=g):rtCk U V X g=[true,true,true]:=by
 subst hg
 have h:=mR_bd hv (mR_bd hx hx)
 unfold rtCk
 rw [cQ_t hx,cM_t hv (mR_bd hx hx),show bd5 (r5 (mR V (mR X X)))=true from h,show bd5 (r5 U)=true from hu,beq_self_eq_true];rfl
theorem zxs (u v:Nat→Int) (k:Nat) (hk:k<rtM u v):rok (l5 u) (l5 v) (r5 (rxk (l5 u) (l5 v) k))=false:=by
 unfold rtM at hk
 cases h0:rok (l5 u) (l5 v) (r5 (rxk (l5 u) (l5 v) 0)) with
 | true=>rw [h0] at hk;exact absurd hk (Nat.not_lt_zero _)
 | false =>
  rw [h0] at hk
  cases h1:rok (l5 u) (l5 v) (r5 (rxk (l5 u) (l5 v) 1)) with
  | true =>
   rw [h1] at hk
   obtain rfl:k=0:=by have:k<1:=hk;omega
   exact h0
  | false =>
   rw [h1] at hk
   have:k<2:=hk
   match k,this with
   | 0,_=>exact h0
   | 1,_=>exact h1
theorem zs6 (u v:Nat→Int):rtM u v≤2:=by
 unfold rtM
 cases rok (l5 u) (l5 v) (r5 (rxk (l5 u) (l5 v) 0)) <;> cases rok (l5 u) (l5 v) (r5 (rxk (l5 u) (l5 v) 1)) <;> decide
theorem zyM (u v:Nat→Int) (h:rtM u v≤1):rok (l5 u) (l5 v) (r5 (rxk (l5 u) (l5 v) (rtM u v)))=true:=by
 unfold rtM at h ⊢
 cases h0:rok (l5 u) (l5 v) (r5 (rxk (l5 u) (l5 v) 0)) with
 | true=>exact h0
 | false =>
  rw [h0] at h
  cases h1:rok (l5 u) (l5 v) (r5 (rxk (l5 u) (l5 v) 1)) with
  | true=>exact h1
  | false=>rw [h1] at h;exact absurd h (by decide)
theorem zn3 {u v:Nat→Int} (hu:bd5 (l5 u)=true) (hv:bd5 (l5 v)=true) (k:Nat) (hk:k<rtM u v):∃ s1 r,am rtE.env 5 rtB (rtW u v k)=some (.normal,s1)∧StLeR r s1 (rtW u v (k+1))∧∀ i,i<5→r i=some i:=by
 have hm:=zs6 u v
 refine zal (zr0 u v k ((k+1:Nat):Int) (lf (rxk (l5 u) (l5 v) k)) (lf (rxk (l5 u) (l5 v) (k+1)))) ?_
 refine and_t.2 ⟨?_,zoP ((zbn (by omega) (by omega)).trans (by omega)) fun d _=>rfl⟩
 have hx:bd5 (r5 (rxk (l5 u) (l5 v) k))=true:=ze1 hu hv k
 rw [show l5 (lf (rxk (l5 u) (l5 v) k))=r5 (rxk (l5 u) (l5 v) k) from rfl,zkP hu hv hx (zxs u v k hk),cM_t hx zkc.1,decide_eq_true (show (k:Int)<2 by omega)]
 rfl
theorem l_rtr (u v:Nat→Int):LRow prog f_edwards_root 0 (rtFr u v):=by
 refine LRow.famA (N:=5) (S:=rtW u v) (X7.env []) mix (rtM u v) (za2 znE) rt_ok (fun w0 own0=>zat (fun id=>rfl) rtB) (fun _ _=>Nat.le_refl _) (Nat.le_refl _) fun hck=>?_
 simp only [Bool.and_eq_true,rtCd,ble_t] at hck
 obtain ⟨⟨hu,hv⟩,hm⟩:=hck
 refine ⟨fun k hk=>zn3 hu hv k hk,?_⟩
 have hx:bd5 (r5 (rxk (l5 u) (l5 v) (rtM u v)))=true:=ze1 hu hv _
 obtain ⟨s1,r,q1,q2,q3⟩:=zal (n:=5) (zxq u v (rtM u v) (lf (rxk (l5 u) (l5 v) (rtM u v))) (lf (rxk (l5 u) (l5 v) (rtM u v)))) (by
  refine and_t.2 ⟨?_,zru fun d _=>rfl⟩
  rw [show l5 (lf (rxk (l5 u) (l5 v) (rtM u v)))=r5 (rxk (l5 u) (l5 v) (rtM u v)) from rfl,zkP hu hv hx (zyM u v hm),decide_eq_true (show ((rtM u v:Nat):Int)<2 by omega)]
  rfl)
 exact ⟨_,s1,r,q1,rfl,q2,q3⟩
theorem l_rtx (u v:Nat→Int):LRow prog f_edwards_root 0 (rtFx u v):=by
 refine LRow.famA (N:=5) (S:=rtW u v) (X7.env []) mix (rtM u v) (za2 znE) rt_ok (fun w0 own0=>zat (fun id=>rfl) rtB) (fun _ _=>Nat.le_refl _) (Nat.le_refl _) fun hck=>?_
 simp only [Bool.and_eq_true,rtCd,beq_t] at hck
 obtain ⟨⟨hu,hv⟩,hm⟩:=hck
 refine ⟨fun k hk=>zn3 hu hv k hk,?_⟩
 rw [hm]
 obtain ⟨s1,r,q1,q2,q3⟩:=zal (n:=5) (zvt u v 2 (lf (rxk (l5 u) (l5 v) 2)) (lf (rxk (l5 u) (l5 v) 2))) (by
  refine and_t.2 ⟨rfl,zqN fun d _=>rfl⟩)
 exact ⟨_,s1,r,q1,rfl,q2,q3⟩
def rtCk0 (U V:List Int):List Bool:=[cQ V,cM (mR V V) V,cM U (rv3 V),cQ (rv3 V),cM (mR (rv3 V) (rv3 V)) V,cM U (mR (mR (rv3 V) (rv3 V)) V),bd5 (r5 (rw7 U V)),cM (mR U (rv3 V)) (r5 (e8V (r5 (rw7 U V))))]
theorem c_rtr (u v:Nat→Int):fnChk prog (envL tt ex7 [] [(0,rtFr u v)]) f_edwards_root=true:=by kernel_rfl
theorem c_rtx (u v:Nat→Int):fnChk prog (envL tt ex7 [] [(0,rtFx u v)]) f_edwards_root=true:=by kernel_rfl
theorem k_rtr (u v:Nat→Int):outP (apFunc (envL tt ex7 [] [(0,rtFr u v)]) [] 5 f_edwards_root [u5 u,u5 v] []) =
  some (ckL (rtCk0 (l5 u) (l5 v)++[(rtCd u v&&Nat.ble (rtM u v) 1)&&stR (rnm 5 []) (rtS u v 0 (lf (rx0 (l5 u) (l5 v)))) (rtW u v 0)]),.tup [u5 (lf (r5 (rxk (l5 u) (l5 v) (rtM u v)))),.sc (.bool true)]):=by kernel_rfl
theorem k_rtx (u v:Nat→Int):outP (apFunc (envL tt ex7 [] [(0,rtFx u v)]) [] 5 f_edwards_root [u5 u,u5 v] []) =
  some (ckL (rtCk0 (l5 u) (l5 v)++[(rtCd u v&&Nat.beq (rtM u v) 2)&&stR (rnm 5 []) (rtS u v 0 (lf (rx0 (l5 u) (l5 v)))) (rtW u v 0)]),.tup [u5 (lf (r5 (rxk (l5 u) (l5 v) 2))),.sc (.bool false)]):=by kernel_rfl
theorem zhx {U V:List Int} (hu:bd5 U=true) (hv:bd5 V=true):rtCk0 U V=List.replicate 8 true:=by
 obtain ⟨h3,h7,hx⟩:=znN hu hv
 unfold rtCk0
 rw [cQ_t hv,cM_t (mR_bd hv hv) hv,cM_t hu h3,cQ_t h3,cM_t (mR_bd h3 h3) hv,cM_t hu (mR_bd (mR_bd h3 h3) hv),show bd5 (r5 (rw7 U V))=true from h7,cM_t (mR_bd hu h3) (b:=r5 (e8V (r5 (rw7 U V)))) (zgV (a:=r5 (rw7 U V)) h7).1]
 rfl
def tRoot:TF:=fun args=>match args with
 | [.agg [.ints .u64 5 u],.agg [.ints .u64 5 v]]=>some (rtCd u v,.tup [u5 (lf (r5 (rxk (l5 u) (l5 v) (rtM u v)))),.sc (.bool (Nat.ble (rtM u v) 1))])
 | _=>none
theorem zxD:TRow prog F_edwards_root tRoot:=by
 intro args r h
 unfold tRoot at h
 split at h
 case h_2=>simp at h
 rename_i u v
 simp only [Option.some.injEq,Prod.mk.injEq] at h
 obtain ⟨hc,rfl⟩:=h
 have hc':=hc
 simp only [Bool.and_eq_true,rtCd] at hc'
 obtain ⟨hu,hv⟩:=hc'
 have hs:stR (rnm 5 []) (rtS u v 0 (lf (rx0 (l5 u) (l5 v)))) (rtW u v 0)=true:=zoP rfl fun d _=>rfl
 have hm:=zs6 u v
 by_cases e:rtM u v≤1
 ·refine zad X7 at_edwards_root (LsOK.nil.cons (l_rtr u v)) (c_rtr u v) (N:=5) (gs:=[]) ?_
  have k:=k_rtr u v
  have hb:Nat.ble (rtM u v) 1=true:=Nat.ble_eq_true_of_le e
  rw [zhx hu hv,hc,hb,hs] at k
  rw [hb]
  exact k
 ·have e2:rtM u v=2:=by omega
  refine zad X7 at_edwards_root (LsOK.nil.cons (l_rtx u v)) (c_rtx u v) (N:=5) (gs:=[]) ?_
  have k:=k_rtx u v
  rw [zhx hu hv,hc,e2,hs] at k
  rw [e2]
  exact k
noncomputable def ex8:List (Nat × TF):=(F_edwards_root,tRoot)::ex7
theorem X8:LibOK prog tt ex8 []:=X7.addT zxD
end Go.Proofs.YtplaklpfeabhiaaGreat
namespace Go.Proofs.YtplaklpfeabhiaaGreat
open Go.Proofs.Tryz
open Go Go.AM
def idP:List Int:=[0,0,0,0,0,1,0,0,0,0,1,0,0,0,0,0,0,0,0,0]
theorem ze7:bdP (lf idP)=true∧vP (lf idP)=idS4:=by decide
def tIdent:TF:=fun args=>match args with
 | []=>some (true,pt (lf idP))
 | _=>none
theorem zvZ:fnChk prog (envP tt ex8 []) f_edwards_identity=true:=by kernel_rfl
theorem zuU:TRow prog F_edwards_identity tIdent:=by
 intro args r h
 unfold tIdent at h
 split at h
 case h_2=>simp at h
 simp only [Option.some.injEq,Prod.mk.injEq,true_and] at h
 subst h
 exact zab X8 at_edwards_identity zvZ (N:=60) (gs:=[]) (by kernel_rfl)
noncomputable def ex9:List (Nat × TF):=(F_edwards_identity,tIdent)::ex8
theorem X9:LibOK prog tt ex9 []:=X8.addT zuU
def tbV (p:Nat→Int):Nat→List Int
 | 0=>idP
 | j+1=>ptAdd (lf (tbV p j)) p
theorem zin {p:Nat→Int} (h:bdP p=true):∀ j,bdP (lf (tbV p j))=true
 | 0=>ze7.1
 | j+1=>(zdm (zin h j) h).1
def tbS (p:Q4):Nat→Q4
 | 0=>idS4
 | j+1=>addS (tbS p j) p
theorem znb {p:Nat→Int} (h:bdP p=true):∀ j,vP (lf (tbV p j))=tbS (vP p) j
 | 0=>ze7.2
 | j+1=>by
  show vP (lf (ptAdd (lf (tbV p j)) p))=_
  rw [(zdm (zin h j) h).2,znb h j];rfl
noncomputable abbrev tmE:EnvP:=envP tt ex9 []
noncomputable def tm0B:Code:=match f_edwards_point_times.body with | some c=>(match bodiesOf 0 c with | [.loop b]=>b | _=>.skip) | none=>.skip
noncomputable def tm2B:Code:=match f_edwards_point_times.body with | some c=>(match bodiesOf 2 c with | [.loop b]=>b | _=>.skip) | none=>.skip
def tm0S (p s:Nat→Int) (v:Int) (T:Nat→Int):St:=⟨tmOf [(2,.sc (.ptr 0 20 0 0 20)),(3,.sc (.ptr 1 32 0 0 32)),(4,.sc (.ptr 2 20 0 0 20)),(5,.sc (.ptr 3 320 0 0 320)),(12,.sc (.int .i64 v))] 51 0,
 [some (.ints .u64 20 1 (fun _ d=>p d)),some (.ints .u8 32 1 (fun _ d=>s d)),some (.ints .u64 20 1 (fun _ _=>0)),some (.ints .u64 320 1 (fun _ d=>T d))]⟩
def tm0T (p s T:Nat→Int):St:=⟨tmOf [(2,.sc (.ptr 0 20 0 0 20)),(3,.sc (.ptr 1 32 0 0 32)),(4,.sc (.ptr 2 20 0 0 20)),(5,.sc (.ptr 3 320 0 0 320))] 51 0,
 [some (.ints .u64 20 1 (fun _ d=>p d)),some (.ints .u8 32 1 (fun _ d=>s d)),some (.ints .u64 20 1 (fun _ _=>0)),some (.ints .u64 320 1 (fun _ d=>T d))]⟩
def put20 (T g:Nat→Int) (c:Nat):Nat→Int:=fun d=>bif Nat.ble c d&&Nat.ble (d+1) (c+20) then g (d - c) else T d
def tmA (v:Int):Nat:=0+(wr .i64 (v+1)).toNat*20
def tmG (p T:Nat→Int) (v:Int):List Int:=ptAdd (fun j=>T (j+(0+v.toNat*20))) p
theorem zou (p s:Nat→Int) (v v':Int) (T T':Nat→Int):roundR tmE [(13,true)] 5 4 [] tm0B (tm0S p s v T) .normal (tm0S p s v' T') =
  some (ckL [decide (v<15)==true,inR v 16,chkP (fun j=>T (j+(0+v.toNat*20)))&&chkP p,inR (wr .i64 (v+1)) 16]&&stR (rnm 4 []) (tm0S p s (wr .i64 (v+1)) (put20 T (lf (tmG p T v)) (tmA v))) (tm0S p s v' T')):=by kernel_rfl
theorem zrr (p s:Nat→Int) (v:Int) (T T':Nat→Int):roundR tmE [(13,false)] 5 4 [] tm0B (tm0S p s v T) (.exit 0) (tm0T p s T') =
  some (ckL [decide (v<15)==false]&&stR (rnm 4 []) (tm0T p s T) (tm0T p s T')):=by kernel_rfl
def tbF (p:Nat→Int) (k:Nat):Nat→Int:=fun d=>bif Nat.ble (d+1) (20*(k+1)) then lf (tbV p (d / 20)) (d % 20) else 0
theorem zem {a b:Nat} (h:b<a):Nat.ble a b=false:=by
 cases hb:Nat.ble a b with
 | false=>rfl
 | true=>have:=Nat.le_of_ble_eq_true hb;omega
theorem zh8 {p:Nat→Int} {k d:Nat} (h:d<20*(k+1)):tbF p k d=lf (tbV p (d / 20)) (d % 20):=by
 unfold tbF;rw [Nat.ble_eq_true_of_le h];rfl
theorem zo0 {p:Nat→Int} {k d:Nat} (h:20*(k+1)≤d):tbF p k d=0:=by
 unfold tbF;rw [zem (by omega)];rfl
theorem ziE {p q:Nat→Int} (h:∀ d,d<20→p d=q d):px p=px q∧py p=py q∧pz p=pz q∧pT p=pT q:=by
 simp only [px,py,pz,pT,h 0 (by omega),h 1 (by omega),h 2 (by omega),h 3 (by omega),h 4 (by omega),h 5 (by omega),h 6 (by omega),h 7 (by omega),h 8 (by omega),h 9 (by omega),h 10 (by omega),h 11 (by omega),h 12 (by omega),h 13 (by omega),h 14 (by omega),h 15 (by omega),h 16 (by omega),h 17 (by omega),h 18 (by omega),h 19 (by omega),and_self]
theorem zeX {p q p' q':Nat→Int} (h:∀ d,d<20→p d=p' d) (h':∀ d,d<20→q d=q' d):ptAdd p q=ptAdd p' q':=by
 obtain ⟨e1,e2,e3,e4⟩:=ziE h
 obtain ⟨f1,f2,f3,f4⟩:=ziE h'
 unfold ptAdd
 rw [e1,e2,e3,e4,f1,f2,f3,f4]
theorem zkB {p p':Nat→Int} (h:∀ d,d<20→p d=p' d):chkP p=chkP p':=by
 obtain ⟨e1,e2,e3,e4⟩:=ziE h
 unfold chkP
 rw [e1,e2,e3,e4]
theorem zsR {p:Nat→Int} {k j:Nat} (hj:j≤k):∀ d,d<20→tbF p k (20*j+d)=lf (tbV p j) d:=fun d hd=>by
 rw [zh8 (by omega),show (20*j+d) / 20=j by omega,show (20*j+d) % 20=d by omega]
theorem zj4 {p s:Nat→Int} {v v':Int} {T T':Nat→Int} (hv:v=v') (h:∀ d,d<320→T d=T' d):stR (rnm 4 []) (tm0S p s v T) (tm0S p s v' T')=true:=by
 subst hv
 have e:eqF 1 320 (fun _ d=>T d) (fun _ d=>T' d)=true:=zaK fun r _ d hd=>h d hd
 simp [stR,tm0S,tmOf,tmR,avR,svR,rIs,rnm,zaj,zam,hpR,blkR,ndR,e]
 decide
theorem zo8 {p s:Nat→Int} {T T':Nat→Int} (h:∀ d,d<320→T d=T' d):stR (rnm 4 []) (tm0T p s T) (tm0T p s T')=true:=by
 have e:eqF 1 320 (fun _ d=>T d) (fun _ d=>T' d)=true:=zaK fun r _ d hd=>h d hd
 simp [stR,tm0T,tmOf,tmR,avR,svR,rIs,rnm,zaj,zam,hpR,blkR,ndR,e]
 decide
def tm0W (p s:Nat→Int) (k:Nat):St:=tm0S p s k (tbF p k)
def tm0F (p s:Nat→Int):LF:=famA 4 [] (tm0W p s 0) (bdP p) .normal (tm0T p s (tbF p 15))
theorem zqO:f_edwards_point_times.body.map (bodiesOf 0)=some [.loop tm0B]:=by kernel_rfl
theorem zyw:codeOK prog tmE.env.isW tm0B=true:=by kernel_rfl
theorem l_tm0 (p s:Nat→Int):LRow prog f_edwards_point_times 0 (tm0F p s):=by
 refine LRow.famA (N:=5) (S:=tm0W p s) (X9.env []) mix 15 (za2 zqO) zyw (fun w0 own0=>zat (fun id=>rfl) tm0B) (fun _ _=>Nat.le_refl _) (Nat.le_refl _) fun hp=>?_
 refine ⟨fun k hk=>?_,?_⟩
 ·refine zal (zou p s k ((k+1:Nat):Int) (tbF p k) (tbF p (k+1))) ?_
  have e1:wr .i64 ((k:Int)+1)=((k+1:Nat):Int):=(zbn (by omega) (by omega)).trans (by omega)
  have hrow:∀ d,d<20→tbF p k (d+(0+(k:Int).toNat*20))=lf (tbV p k) d:=fun d hd=>by
   rw [show d+(0+(k:Int).toNat*20)=20*k+d by omega];exact zsR (Nat.le_refl k) d hd
  have hp0:∀ d,d<20→p d=p d:=fun d _=>rfl
  refine and_t.2 ⟨?_,zj4 e1 fun d hd=>?_⟩
  ·rw [zkB hrow,zb4 (zin hp k),zb4 hp,e1,zaM (show k<16 by omega),zaM (show k+1<16 by omega),decide_eq_true (show (k:Int)<15 by omega)]
   rfl
  ·have eA:tmA (k:Int)=20*(k+1):=by unfold tmA;rw [e1];omega
   have eG:tmG p (tbF p k) (k:Int)=tbV p (k+1):=zeX hrow hp0
   unfold put20
   rw [eA,eG]
   by_cases h1:d<20*(k+1)
   ·rw [zem (by omega),zh8 h1,zh8 (k:=k+1) (by omega)];rfl
   ·rw [Nat.ble_eq_true_of_le (by omega)]
    by_cases h2:d<20*(k+1)+20
    ·rw [Nat.ble_eq_true_of_le h2,zh8 (k:=k+1) (by omega),show d / 20=k+1 by omega,show d % 20=d - 20*(k+1) by omega];rfl
    ·rw [zem (a:=d+1) (by omega),zo0 (k:=k) (by omega),zo0 (k:=k+1) (by omega)];rfl
 ·obtain ⟨s1,r,q1,q2,q3⟩:=zal (n:=4) (zrr p s 15 (tbF p 15) (tbF p 15)) (and_t.2 ⟨rfl,zo8 fun _ _=>rfl⟩)
  exact ⟨_,s1,r,q1,rfl,q2,q3⟩
def nbI (s:Nat→Int) (v:Int):Int:=iand .u8 (ishr .u8 (s (0+(wr .i64 (v.tdiv 2)).toNat*1)) (wr .i64 (4*v.tmod 2))) 15
def tm2S (p s T:Nat→Int) (v:Int) (x:Nat→Int):St:=⟨tmOf [(3,.sc (.ptr 1 32 0 0 32)),(4,.sc (.ptr 2 20 0 0 20)),(5,.sc (.ptr 3 320 0 0 320)),(7,.sc (.ptr 4 20 0 0 20)),(8,.sc (.int .i64 v))] 51 0,
 [none,some (.ints .u8 32 1 (fun _ d=>s d)),some (.ints .u64 20 1 (fun _ _=>0)),some (.ints .u64 320 1 (fun _ d=>T d)),some (.ints .u64 20 1 (fun _ d=>x d))]⟩
def tm2T (x:Nat→Int):St:=⟨tmOf [(4,.sc (.ptr 2 20 0 0 20)),(7,.sc (.ptr 4 20 0 0 20))] 51 0,[none,none,some (.ints .u64 20 1 (fun _ _=>0)),none,some (.ints .u64 20 1 (fun _ d=>x d))]⟩
def dbK (x:Nat→Int):Nat→Nat→Int
 | 0=>x
 | k+1=>lf (ptDbl (dbK x k))
def tm2Ck (s x:Nat→Int) (v:Int):List Bool:=[decide (v ≥ 0)==true,chkP (dbK x 0),chkP (dbK x 1),chkP (dbK x 2),chkP (dbK x 3),!decide ((2:Int)=0),inR (wr .i64 (v.tdiv 2)) 32,!decide ((2:Int)=0),!decide (wr .i64 (4*v.tmod 2)<0)]
theorem zmf (p s T:Nat→Int) (v v':Int) (x x':Nat→Int):roundR tmE [(26,true),(44,false)] 5 5 [] tm2B (tm2S p s T v x) .normal (tm2S p s T v' x') =
  some (ckL (tm2Ck s x v++[decide (nbI s v > 0)==false])&&stR (rnm 5 []) (tm2S p s T (wr .i64 (v - 1)) (dbK x 4)) (tm2S p s T v' x')):=by kernel_rfl
theorem zl3 (p s T:Nat→Int) (v v':Int) (x x':Nat→Int):roundR tmE [(26,true),(44,true)] 5 5 [] tm2B (tm2S p s T v x) .normal (tm2S p s T v' x') =
  some (ckL (tm2Ck s x v++[decide (nbI s v > 0)==true,inR (nbI s v) 16,chkP (dbK x 4)&&chkP (fun j=>T (j+(0+(nbI s v).toNat*20)))])&&stR (rnm 5 []) (tm2S p s T (wr .i64 (v - 1)) (lf (ptAdd (dbK x 4) (fun j=>T (j+(0+(nbI s v).toNat*20)))))) (tm2S p s T v' x')):=by kernel_rfl
theorem zrI (p s T:Nat→Int) (v:Int) (x x':Nat→Int):roundR tmE [(26,false)] 5 5 [] tm2B (tm2S p s T v x) (.exit 2) (tm2T x') =
  some (ckL [decide (v ≥ 0)==false]&&stR (rnm 5 []) (tm2T x) (tm2T x')):=by kernel_rfl
theorem and15 {x:Int} (h:0≤x∧x<256):iand .u8 x 15=x % 16:=by
 have key:∀ n:Nat,n<256→iand .u8 (n:Int) 15=(n:Int) % 16:=by decide +kernel
 have:=key x.toNat (by omega)
 rwa [Int.toNat_of_nonneg h.1] at this
def nib (s:Nat→Int) (i:Nat):Int:=s (i / 2) / 2 ^ (4*(i % 2)) % 16
def tmV (p s:Nat→Int):Nat→List Int
 | 0=>idP
 | k+1=>bif decide (nib s (63 - k) > 0) then ptAdd (dbK (lf (tmV p s k)) 4) (lf (tbV p (nib s (63 - k)).toNat)) else ptDbl (dbK (lf (tmV p s k)) 3)
def tmSp (q:Q4) (s:Nat→Int):Nat→Q4
 | 0=>idS4
 | k+1=>bif decide (nib s (63 - k) > 0) then addS (dblS (dblS (dblS (dblS (tmSp q s k))))) (tbS q (nib s (63 - k)).toNat) else dblS (dblS (dblS (dblS (tmSp q s k))))
theorem zcm {x:Nat→Int} (h:bdP x=true):∀ k,bdP (dbK x k)=true
 | 0=>h
 | k+1=>(zhI (zcm h k)).1
theorem dbK_v {x:Nat→Int} (h:bdP x=true) (k:Nat):vP (dbK x (k+1))=dblS (vP (dbK x k)):=(zhI (zcm h k)).2
theorem zjk {p:Nat→Int} (hp:bdP p=true) (s:Nat→Int):∀ k,bdP (lf (tmV p s k))=true∧vP (lf (tmV p s k))=tmSp (vP p) s k
 | 0=>ze7
 | k+1=>by
  obtain ⟨h1,h2⟩:=zjk hp s k
  have e4:vP (dbK (lf (tmV p s k)) 4)=dblS (dblS (dblS (dblS (tmSp (vP p) s k)))):=by
   rw [dbK_v h1,dbK_v h1,dbK_v h1,dbK_v h1]
   show dblS (dblS (dblS (dblS (vP (lf (tmV p s k))))))=_
   rw [h2]
  unfold tmV tmSp
  cases decide (nib s (63 - k) > 0) with
  | true =>
   obtain ⟨q1,q2⟩:=zdm (zcm h1 4) (zin hp (nib s (63 - k)).toNat)
   exact ⟨q1,by show vP (lf (ptAdd _ _))=_;rw [q2,e4,znb hp];rfl⟩
  | false=>exact ⟨zcm h1 4,e4⟩
theorem zph {s:Nat→Int} (hs:areB s 32 0=true) {i:Nat} (hi:i<64):nbI s (i:Int)=nib s i∧inR (wr .i64 ((i:Int).tdiv 2)) 32=true∧(!decide (wr .i64 (4*(i:Int).tmod 2)<0))=true∧0≤nib s i∧nib s i<16:=by
 have e1:(i:Int).tdiv 2=((i / 2:Nat):Int):=by rw [Int.tdiv_eq_ediv_of_nonneg (by omega)];omega
 have e2:(i:Int).tmod 2=((i % 2:Nat):Int):=by rw [Int.tmod_eq_emod_of_nonneg (by omega)];omega
 have e3:wr .i64 ((i / 2:Nat):Int)=((i / 2:Nat):Int):=zbn (by omega) (by omega)
 have e4:wr .i64 (4*((i % 2:Nat):Int))=((4*(i % 2):Nat):Int):=(zbn (by omega) (by omega)).trans (by omega)
 have hb:=zch hs (i / 2) (by omega)
 rw [Nat.zero_add] at hb
 have hsh:ishr .u8 (s (i / 2)) ((4*(i % 2):Nat):Int)=s (i / 2) / 2 ^ (4*(i % 2)):=by
  unfold ishr
  rw [Int.toNat_natCast,show min (4*(i % 2)) IntKind.u8.bits=4*(i % 2) by show min (4*(i % 2)) 8=_;omega,Int.fdiv_eq_ediv_of_nonneg _ (Int.le_of_lt (Int.pow_pos (by decide)))]
 have hx:∀ x:Int,0≤x∧x<256→iand .u8 x 15=x % 16:=fun x hx=>and15 hx
 have hr:0≤s (i / 2) / 2 ^ (4*(i % 2))∧s (i / 2) / 2 ^ (4*(i % 2))<256:=by
  have hm:i % 2=0 ∨ i % 2=1:=by omega
  rcases hm with h | h <;> rw [h] <;> simp only [Nat.mul_zero,Nat.mul_one] <;> omega
 refine ⟨?_,?_,?_,?_⟩
 ·unfold nbI nib
  rw [e1,e2,e3,e4,show 0+((i / 2:Nat):Int).toNat*1=i / 2 by omega,hsh,hx _ hr]
 ·rw [e1,e3];exact zaM (by omega)
 ·rw [e2,e4,decide_eq_false (by omega)];rfl
 ·unfold nib
  generalize s (i / 2) / 2 ^ (4*(i % 2))=y
  omega
theorem zg0 {p s T:Nat→Int} {v v':Int} {x x':Nat→Int} (hv:v=v') (h:∀ d,d<20→x d=x' d):stR (rnm 5 []) (tm2S p s T v x) (tm2S p s T v' x')=true:=by
 subst hv
 have e:eqF 1 20 (fun _ d=>x d) (fun _ d=>x' d)=true:=zaK fun r _ d hd=>h d hd
 simp [stR,tm2S,tmOf,tmR,avR,svR,rIs,rnm,zaj,zam,hpR,blkR,ndR,e]
 decide
theorem zox {x x':Nat→Int} (h:∀ d,d<20→x d=x' d):stR (rnm 5 []) (tm2T x) (tm2T x')=true:=by
 have e:eqF 1 20 (fun _ d=>x d) (fun _ d=>x' d)=true:=zaK fun r _ d hd=>h d hd
 simp [stR,tm2T,tmOf,tmR,avR,svR,rIs,rnm,zaj,zam,hpR,blkR,ndR,e]
 decide
def tm2W (p s:Nat→Int) (k:Nat):St:=tm2S p s (tbF p 15) (63 - (k:Int)) (lf (tmV p s k))
def tm2F (p s:Nat→Int):LF:=famA 5 [] (tm2W p s 0) (bdP p&&areB s 32 0) .normal (tm2T (lf (tmV p s 64)))
theorem zrw:f_edwards_point_times.body.map (bodiesOf 2)=some [.loop tm2B]:=by kernel_rfl
theorem zwC:codeOK prog tmE.env.isW tm2B=true:=by kernel_rfl
theorem l_tm2 (p s:Nat→Int):LRow prog f_edwards_point_times 2 (tm2F p s):=by
 refine LRow.famA (N:=5) (S:=tm2W p s) (X9.env []) mix 64 (za2 zrw) zwC (fun w0 own0=>zat (fun id=>rfl) tm2B) (fun _ _=>Nat.le_refl _) (Nat.le_refl _) fun hck=>?_
 obtain ⟨hp,hs⟩:=and_t.1 hck
 refine ⟨fun k hk=>?_,?_⟩
 ·have hv:(63 - (k:Int))=((63 - k:Nat):Int):=by omega
  obtain ⟨n1,n2,n3,n4,n5⟩:=zph hs (i:=63 - k) (by omega)
  have hx:=(zjk hp s k).1
  have e1:wr .i64 (63 - (k:Int) - 1)=63 - ((k+1:Nat):Int):=(zbn (by omega) (by omega)).trans (by omega)
  have hck:∀ l,ckL (tm2Ck s (lf (tmV p s k)) (63 - (k:Int))++l)=ckL l:=fun l=>by
   unfold tm2Ck
   rw [hv,n2,n3,zb4 (zcm hx 0),zb4 (zcm hx 1),zb4 (zcm hx 2),zb4 (zcm hx 3),decide_eq_true (show ((63 - k:Nat):Int) ≥ 0 by omega)]
   rfl
  cases hn:decide (nib s (63 - k) > 0) with
  | false =>
   refine zal (zmf p s (tbF p 15) (63 - (k:Int)) (63 - ((k+1:Nat):Int)) (lf (tmV p s k)) (lf (tmV p s (k+1)))) ?_
   refine and_t.2 ⟨?_,zg0 e1 fun d _=>?_⟩
   ·rw [hck,hv,n1,hn];rfl
   ·show _=lf (bif decide (nib s (63 - k) > 0) then _ else _) d
    rw [hn];rfl
  | true =>
   have hrow:∀ d,d<20→tbF p 15 (d+(0+(nib s (63 - k)).toNat*20))=lf (tbV p (nib s (63 - k)).toNat) d:=fun d hd=>by
    rw [show d+(0+(nib s (63 - k)).toNat*20)=20*(nib s (63 - k)).toNat+d by omega];exact zsR (by omega) d hd
   refine zal (zl3 p s (tbF p 15) (63 - (k:Int)) (63 - ((k+1:Nat):Int)) (lf (tmV p s k)) (lf (tmV p s (k+1)))) ?_
   refine and_t.2 ⟨?_,zg0 e1 fun d _=>?_⟩
   ·rw [hck,hv,n1,hn,zb4 (zcm hx 4),zkB hrow,zb4 (zin hp _)]
    have:inR (nib s (63 - k)) 16=true:=by simp [inR];omega
    rw [this];rfl
   ·show _=lf (bif decide (nib s (63 - k) > 0) then _ else _) d
    rw [hn,hv,n1]
    show lf (ptAdd _ _) d=lf (ptAdd _ _) d
    rw [zeX (p:=dbK (lf (tmV p s k)) 4) (fun _ _=>rfl) hrow]
 ·obtain ⟨s1,r,q1,q2,q3⟩:=zal (n:=5) (zrI p s (tbF p 15) (-1) (lf (tmV p s 64)) (lf (tmV p s 64))) (and_t.2 ⟨rfl,zox fun _ _=>rfl⟩)
  exact ⟨_,s1,r,q1,rfl,q2,q3⟩
noncomputable abbrev tmL (p s:Nat→Int):EnvP:=envL tt ex9 [] [(2,tm2F p s),(0,tm0F p s)]
theorem zp4 (p s:Nat→Int):fnChk prog (tmL p s) f_edwards_point_times=true:=by kernel_rfl
def r20 (l:List Int):List Int:=tabL (lf l) 20 0
theorem zqe (p s:Nat→Int):outP (apFunc (tmL p s) [] 5 f_edwards_point_times [pt p,u8s 32 s] []) =
  some (ckL [bdP p&&stR (rnm 4 []) (tm0S p s 0 (put20 (fun _=>0) (lf idP) 0)) (tm0W p s 0),(bdP p&&areB s 32 0)&&stR (rnm 5 []) (tm2S p s (tbF p 15) 63 (lf idP)) (tm2W p s 0)],pt (lf (r20 (tmV p s 64)))):=by kernel_rfl
theorem zoS {p p':Nat→Int} (h:∀ d,d<20→p d=p' d):∀ j,tbV p j=tbV p' j
 | 0=>rfl
 | j+1=>by
  show ptAdd (lf (tbV p j)) p=ptAdd (lf (tbV p' j)) p'
  rw [zoS h j]
  exact zeX (fun _ _=>rfl) h
theorem zi4 {s s':Nat→Int} (h:∀ d,d<32→s d=s' d) {i:Nat} (hi:i<64):nib s i=nib s' i:=by unfold nib;rw [h (i / 2) (by omega)]
theorem zji {p p' s s':Nat→Int} (h:∀ d,d<20→p d=p' d) (h':∀ d,d<32→s d=s' d):∀ k,tmV p s k=tmV p' s' k
 | 0=>rfl
 | k+1=>by
  unfold tmV
  rw [zji h h' k,zi4 h' (i:=63 - k) (by omega),zoS h]
def n20 (p:Nat→Int):Nat→Int:=lf (tabL p 20 0)
def n32 (s:Nat→Int):Nat→Int:=lf (tabL s 32 0)
theorem zsY (p:Nat→Int) (d:Nat) (h:d<20):p d=n20 p d:=by
 have:=zcF p 20 0 d h
 rw [Nat.zero_add] at this
 exact this.symm
theorem zkW (s:Nat→Int) (d:Nat) (h:d<32):s d=n32 s d:=by
 have:=zcF s 32 0 d h
 rw [Nat.zero_add] at this
 exact this.symm
def tTimes2:TF:=fun args=>match args with
 | [.agg [.ints .u64 20 p],.agg [.ints .u8 32 s]]=>some (bdP p&&areB s 32 0,pt (lf (r20 (tmV (n20 p) (n32 s) 64))))
 | _=>none
theorem zq3:TRow prog F_edwards_point_times tTimes2:=by
 intro args r h
 unfold tTimes2 at h
 split at h
 case h_2=>simp at h
 rename_i p s
 simp only [Option.some.injEq,Prod.mk.injEq] at h
 obtain ⟨hc,rfl⟩:=h
 obtain ⟨hp,hs⟩:=and_t.1 hc
 rw [← zji (zsY p) (zkW s)]
 refine zad X9 at_edwards_point_times ((LsOK.nil.cons (l_tm0 p s)).cons (l_tm2 p s)) (zp4 p s) (N:=5) (gs:=[]) ?_
 have e:=zqe p s
 have h0:stR (rnm 4 []) (tm0S p s 0 (put20 (fun _=>0) (lf idP) 0)) (tm0W p s 0)=true:=zj4 rfl fun d hd=>by
  unfold put20
  by_cases h:d<20
  ·rw [Nat.ble_eq_true_of_le (Nat.zero_le d),Nat.ble_eq_true_of_le (show d+1≤0+20 by omega),zh8 (k:=0) (by omega),show d / 20=0 by omega,show d % 20=d by omega];rfl
  ·rw [zem (a:=d+1) (by omega),zo0 (k:=0) (by omega),Bool.and_false];rfl
 rw [hp,hs,h0,show stR (rnm 5 []) (tm2S p s (tbF p 15) 63 (lf idP)) (tm2W p s 0)=true from zg0 rfl fun _ _=>rfl] at e
 exact e
theorem zmA {p s:Nat→Int} (hp:bdP p=true):bdP (lf (r20 (tmV (n20 p) (n32 s) 64)))=true∧vP (lf (r20 (tmV (n20 p) (n32 s) 64)))=tmSp (vP p) s 64:=by
 rw [← zji (zsY p) (zkW s)]
 exact zjk hp s 64
noncomputable def ex10:List (Nat × TF):=(F_edwards_point_times,tTimes2)::ex9
theorem X10:LibOK prog tt ex10 []:=X9.addT zq3
end Go.Proofs.YtplaklpfeabhiaaGreat
namespace Go.Proofs.YtplaklpfeabhiaaGreat
open Go.Proofs.Tryz
open Go Go.AM
def bxI:Int:=15112221349535400772501151409588531511454012693041857206046113283949847762202
def byI:Int:=46316835694926478169428394003475163141307993866256225615783033603165251855960
def basL:List Int:=loadL bxI++(loadL byI++([1,0,0,0,0]++r5 (mulV (r5 (loadL bxI)) (r5 (loadL byI)))))
def baseS:Q4:=(bxI,byI,1,mM bxI byI)
set_option maxRecDepth 20000 in
theorem zjb:bdP (lf basL)=true∧vP (lf basL)=baseS:=by decide +kernel
def tBase:TF:=fun args=>match args with
 | []=>some (true,pt (lf basL))
 | _=>none
theorem zzi:fnChk prog (envP tt ex10 []) f_edwards_base=true:=by kernel_rfl
theorem zwL:TRow prog F_edwards_base tBase:=by
 intro args r h
 unfold tBase at h
 split at h
 case h_2=>simp at h
 simp only [Option.some.injEq,Prod.mk.injEq,true_and] at h
 subst h
 exact zab X10 at_edwards_base zzi (N:=60) (gs:=[]) (by kernel_rfl)
def xzV (p:Nat→Int):List Int:=mR (px p) (r5 (invV (pz p)))
def yzV (p:Nat→Int):List Int:=mR (py p) (r5 (invV (pz p)))
def tXY:TF:=fun args=>match args with
 | [.agg [.ints .u64 20 p]]=>some (bdP p,.tup [u5 (lf (r5 (xzV p))),u5 (lf (r5 (yzV p)))])
 | _=>none
theorem c_xy:fnChk prog (envP tt ex10 []) f_edwards_point_xy=true:=by kernel_rfl
theorem k_xy (p:Nat→Int):outP (apFunc (envP tt ex10 []) [] 5 f_edwards_point_xy [pt p] [])=some (ckL [bd5 (pz p),cM (px p) (r5 (invV (pz p))),cM (py p) (r5 (invV (pz p)))],.tup [u5 (lf (r5 (xzV p))),u5 (lf (r5 (yzV p)))]):=by kernel_rfl
theorem r_xy:TRow prog F_edwards_point_xy tXY:=by
 intro args r h
 unfold tXY at h
 split at h
 case h_2=>simp at h
 rename_i p
 simp only [Option.some.injEq,Prod.mk.injEq] at h
 obtain ⟨hp,rfl⟩:=h
 obtain ⟨h1,h2,h3,h4⟩:=bdP_t.1 hp
 refine zab X10 at_edwards_point_xy c_xy (N:=5) (gs:=[]) ?_
 have e:=k_xy p
 rw [h3,cM_t h1 (b:=r5 (invV (pz p))) (zgr h3).1,cM_t h2 (b:=r5 (invV (pz p))) (zgr h3).1] at e
 exact e
noncomputable def ex11:List (Nat × TF):=(F_edwards_point_xy,tXY)::(F_edwards_base,tBase)::ex10
theorem X11:LibOK prog tt ex11 []:=(X10.addT zwL).addT r_xy
def invM (x:Int):Int:=powM x 57896044618658097711785492504343953926634992332820282019728792003956564819947
def formS (q:Q4):Int:=mM q.2.1 (invM q.2.2.1)+mM q.1 (invM q.2.2.1) % 2*57896044618658097711785492504343953926634992332820282019728792003956564819968
theorem zwi {p:Nat→Int} (h:bdP p=true):bd5 (xzV p)=true∧bd5 (yzV p)=true∧fm (xzV p)=mM (vP p).1 (invM (vP p).2.2.1)∧fm (yzV p)=mM (vP p).2.1 (invM (vP p).2.2.1):=by
 obtain ⟨h1,h2,h3,h4⟩:=bdP_t.1 h
 obtain ⟨i1,i2⟩:=zgr h3
 refine ⟨mR_bd h1 (b:=r5 (invV (pz p))) i1,mR_bd h2 (b:=r5 (invV (pz p))) i1,?_,?_⟩
 ·show fm (mR (px p) (r5 (invV (pz p))))=_
  rw [mR_fm h1 (b:=r5 (invV (pz p))) i1,r5_fm,i2];rfl
 ·show fm (mR (py p) (r5 (invV (pz p))))=_
  rw [mR_fm h2 (b:=r5 (invV (pz p))) i1,r5_fm,i2];rfl
theorem zsT:fnChk prog (envP tt ex11 []) f_edwards_point_form=true:=by kernel_rfl
def top128 (l:List Int) (j:Nat):Int:=bif Nat.beq j 31 then ior .u8 (lf l 31) 128 else lf l j
theorem zvf (p:Nat→Int):outP (apFunc (envP tt ex11 []) [(14,true)] 5 f_edwards_point_form [pt p] []) =
  some (ckL [bdP (fun j=>p (0+j)),bd5 (r5 (yzV p)),bd5 (r5 (xzV p))&&(decide (fm (r5 (xzV p)) % 2=1)==true)],u8s 32 (lf (tabL (top128 (byL 32 (fm (r5 (yzV p))))) 32 0))):=by kernel_rfl
theorem zvd (p:Nat→Int):outP (apFunc (envP tt ex11 []) [(14,false)] 5 f_edwards_point_form [pt p] []) =
  some (ckL [bdP (fun j=>p (0+j)),bd5 (r5 (yzV p)),bd5 (r5 (xzV p))&&(decide (fm (r5 (xzV p)) % 2=1)==false)],u8s 32 (lf (byL 32 (fm (r5 (yzV p)))))):=by kernel_rfl
theorem or128 {x:Int} (h:0≤x∧x<128):ior .u8 x 128=x+128:=by
 have key:∀ n:Nat,n<128→ior .u8 (n:Int) 128=(n:Int)+128:=by decide +kernel
 have:=key x.toNat (by omega)
 rwa [Int.toNat_of_nonneg h.1] at this
theorem and127 {x:Int} (h:0≤x∧x<256):iand .u8 x 127=x % 128:=by
 have key:∀ n:Nat,n<256→iand .u8 (n:Int) 127=(n:Int) % 128:=by decide +kernel
 have:=key x.toNat (by omega)
 rwa [Int.toNat_of_nonneg h.1] at this
theorem zdb {s:Nat→Int} (h:areB s 32 0=true):hval s 32 0=hval s 31 0+452312848583266388373324160190187140051835877600158453279131187530910662656*s 31∧0≤hval s 31 0∧hval s 31 0<452312848583266388373324160190187140051835877600158453279131187530910662656∧0≤s 31∧s 31<256:=by
 have e:=za7 s 31 1 0
 have e1:hval s 1 (0+31)=s 31:=by simp [hval]
 rw [e1] at e
 have h1:=zaQ (zdx (m:=31) (i:=0) h (by omega))
 have h2:=zch h 31 (by omega)
 rw [Nat.zero_add] at h2
 rw [show (256:Int) ^ 31=452312848583266388373324160190187140051835877600158453279131187530910662656 by decide] at e
 have h3:hval s 31 (0+0)<256 ^ 31:=h1.2
 rw [show (256:Int) ^ 31=452312848583266388373324160190187140051835877600158453279131187530910662656 by decide] at h3
 exact ⟨e,h1.1,h3,h2⟩
theorem zmK {y:Int} (h0:0≤y) (h1:y<57896044618658097711785492504343953926634992332820282019728792003956564819968):tabL (top128 (byL 32 y)) 32 0=byL 32 (y+57896044618658097711785492504343953926634992332820282019728792003956564819968):=by
 have hb:=za0 y
 have hv:hval (lf (byL 32 y)) 32 0=y:=zcj h0 (by omega)
 obtain ⟨e1,e2,e3,e4,e5⟩:=zdb hb
 rw [hv] at e1
 have ht:∀ d,d<31→top128 (byL 32 y) d=lf (byL 32 y) d:=fun d hd=>by
  unfold top128
  have:Nat.beq d 31=false:=by
   cases hb:Nat.beq d 31 with
   | false=>rfl
   | true=>have:=Nat.eq_of_beq_eq_true hb;omega
  rw [this];rfl
 have ht31:top128 (byL 32 y) 31=lf (byL 32 y) 31+128:=by
  show ior .u8 (lf (byL 32 y) 31) 128=_
  exact or128 ⟨e4,by omega⟩
 have ha:areB (top128 (byL 32 y)) 32 0=true:=zdY fun i hi=>by
  rw [Nat.zero_add]
  by_cases q:i=31
  ·rw [q,ht31];omega
  ·rw [ht i (by omega)]
   have:=zch hb i hi
   rwa [Nat.zero_add] at this
 obtain ⟨f1,f2,f3,f4,f5⟩:=zdb ha
 have e:hval (top128 (byL 32 y)) 31 0=hval (lf (byL 32 y)) 31 0:=za6 fun i hi=>by rw [Nat.zero_add];exact ht i hi
 rw [e,ht31] at f1
 rw [← zcR ha,f1]
 congr 1
 omega
theorem mM_lt (x y:Int):0≤mM x y∧mM x y<pP:=⟨Int.emod_nonneg _ (by decide),Int.emod_lt_of_pos _ zd9⟩
def tForm:TF:=fun args=>match args with
 | [.agg [.ints .u64 20 p]]=>some (bdP p,b32 (formS (vP p)))
 | _=>none
theorem znc {p p':Nat→Int} (h:∀ d,d<20→p d=p' d):bdP p=bdP p':=by
 obtain ⟨e1,e2,e3,e4⟩:=ziE h
 unfold bdP
 rw [e1,e2,e3,e4]
theorem zwK:TRow prog F_edwards_point_form tForm:=by
 intro args r h
 unfold tForm at h
 split at h
 case h_2=>simp at h
 rename_i p
 simp only [Option.some.injEq,Prod.mk.injEq] at h
 obtain ⟨hp,rfl⟩:=h
 obtain ⟨x1,x2,x3,x4⟩:=zwi hp
 have hp0:bdP (fun j=>p (0+j))=true:=by rw [znc (p':=p) fun d _=>by rw [Nat.zero_add]];exact hp
 have hy:=mM_lt (vP p).2.1 (invM (vP p).2.2.1)
 have c1:bd5 (r5 (yzV p))=true:=x2
 have c2:bd5 (r5 (xzV p))=true:=x1
 have v1:fm (r5 (xzV p))=mM (vP p).1 (invM (vP p).2.2.1):=x3
 have v2:fm (r5 (yzV p))=mM (vP p).2.1 (invM (vP p).2.2.1):=x4
 have hx:=mM_lt (vP p).1 (invM (vP p).2.2.1)
 unfold formS
 cases ho:decide (mM (vP p).1 (invM (vP p).2.2.1) % 2=1) with
 | true =>
  refine zab X11 at_edwards_point_form zsT (N:=5) (gs:=[(14,true)]) ?_
  have e:=zvf p
  rw [hp0,c1,c2,v1,v2,ho,zmK hy.1 (Int.lt_trans hy.2 (by decide))] at e
  rw [of_decide_eq_true ho,Int.one_mul]
  exact e
 | false =>
  refine zab X11 at_edwards_point_form zsT (N:=5) (gs:=[(14,false)]) ?_
  have e:=zvd p
  rw [hp0,c1,c2,v1,v2,ho] at e
  have h0:mM (vP p).1 (invM (vP p).2.2.1) % 2=0:=by
   have:=of_decide_eq_false ho
   omega
  rw [h0,Int.zero_mul,Int.add_zero]
  exact e
noncomputable def ex12:List (Nat × TF):=(F_edwards_point_form,tForm)::ex11
theorem X12:LibOK prog tt ex12 []:=X11.addT zwK
def bb (b:Nat→Int):Nat→Int:=fun j=>bif Nat.beq (0+j) 31 then iand .u8 (b 31) 127 else b (0+j)
def one5L:List Int:=[1,0,0,0,0]
def zer5L:List Int:=[0,0,0,0,0]
def oY (b:Nat→Int):List Int:=loadL (hval (bb b) 32 0)
def oYY (b:Nat→Int):List Int:=mR (oY b) (oY b)
def oU (b:Nat→Int):List Int:=subV (r5 (oYY b)) (r5 one5L)
def oV (b:Nat→Int):List Int:=addV (r5 (mR cvL (oYY b))) (r5 one5L)
def oM (b:Nat→Int):Nat:=rtM (lf (oU b)) (lf (oV b))
def oX (b:Nat→Int):List Int:=r5 (rxk (r5 (oU b)) (r5 (oV b)) (oM b))
def oN (b:Nat→Int):List Int:=subV (r5 zer5L) (r5 (oX b))
def oP (X Y:List Int):List Int:=tabL (lf (r5 X++(r5 Y++(one5L++r5 (mR X Y))))) 20 0
def oA (b:Nat→Int) (g:Bool):List Bool:=[areB (bb b) 32 0,bd5 (r5 (oY b)),(!(eqN 32 (lf (byL 32 (fm (r5 (oY b))))) (bb b)&&true))==g]
def oB (b:Nat→Int) (g:Bool):List Bool:=[chk5 (r5 (oY b)),cM cvL (oYY b),rtCd (lf (oU b)) (lf (oV b)),(!Nat.ble (oM b) 1)==g]
def oO (b:Nat→Int) (g:Bool):Bool:=(ishr .u8 (b 31) 7==1)==g
def oZ (b:Nat→Int) (g:Bool):List Bool:=[bd5 (r5 (oX b)),(eqN 32 (lf (byL 32 (fm (r5 (oX b))))) (fun _=>0)&&true)==g]
def oD (b:Nat→Int) (o g:Bool):List Bool:=[bd5 (r5 (oX b)),(decide (fm (r5 (oX b)) % 2=1) != o)==g]
theorem ze8:fnChk prog (envP tt ex12 []) f_edwards_open=true:=by kernel_rfl
theorem zvu (b:Nat→Int):outP (apFunc (envP tt ex12 []) [(22,true)] 5 f_edwards_open [u8s 32 b] [])=some (ckL (oA b true),.tup [pt (lf (tabL (fun _=>0) 20 0)),.sc (.bool false)]):=by kernel_rfl
theorem zuB (b:Nat→Int):outP (apFunc (envP tt ex12 []) [(22,false),(39,true)] 5 f_edwards_open [u8s 32 b] [])=some (ckL (oA b false++oB b true),.tup [pt (lf (tabL (fun _=>0) 20 0)),.sc (.bool false)]):=by kernel_rfl
theorem zvx (b:Nat→Int):outP (apFunc (envP tt ex12 []) [(12,true),(22,false),(39,false),(46,true)] 5 f_edwards_open [u8s 32 b] [])=some (ckL (oO b true::(oA b false++(oB b false++oZ b true))),.tup [pt (lf (tabL (fun _=>0) 20 0)),.sc (.bool false)]):=by kernel_rfl
theorem zp7 (b:Nat→Int):outP (apFunc (envP tt ex12 []) [(12,true),(22,false),(39,false),(46,false),(53,true)] 5 f_edwards_open [u8s 32 b] []) =
  some (ckL (oO b true::(oA b false++(oB b false++(oZ b false++(oD b true true++[cM (oN b) (oY b)]))))),.tup [pt (lf (oP (oN b) (oY b))),.sc (.bool true)]):=by kernel_rfl
theorem zrm (b:Nat→Int):outP (apFunc (envP tt ex12 []) [(12,true),(22,false),(39,false),(46,false),(53,false)] 5 f_edwards_open [u8s 32 b] []) =
  some (ckL (oO b true::(oA b false++(oB b false++(oZ b false++(oD b true false++[cM (oX b) (oY b)]))))),.tup [pt (lf (oP (oX b) (oY b))),.sc (.bool true)]):=by kernel_rfl
theorem zqI (b:Nat→Int):outP (apFunc (envP tt ex12 []) [(12,false),(22,false),(39,false),(53,true)] 5 f_edwards_open [u8s 32 b] []) =
  some (ckL (oO b false::(oA b false++(oB b false++(oD b false true++[cM (oN b) (oY b)])))),.tup [pt (lf (oP (oN b) (oY b))),.sc (.bool true)]):=by kernel_rfl
theorem zsb (b:Nat→Int):outP (apFunc (envP tt ex12 []) [(12,false),(22,false),(39,false),(53,false)] 5 f_edwards_open [u8s 32 b] []) =
  some (ckL (oO b false::(oA b false++(oB b false++(oD b false false++[cM (oX b) (oY b)])))),.tup [pt (lf (oP (oX b) (oY b))),.sc (.bool true)]):=by kernel_rfl
end Go.Proofs.YtplaklpfeabhiaaGreat
namespace Go.Proofs.YtplaklpfeabhiaaGreat
open Go.Proofs.Tryz
open Go Go.AM
def rootX (u v:Int):Nat→Int
 | 0=>mM (mM u (mM (mM v v) v)) (powM (mM u (mM (mM (mM (mM v v) v) (mM (mM v v) v)) v)) 7237005577332262213973186563042994240829374041602535252466099000494570602493)
 | k+1=>mM (rootX u v k) iM
def rootOk (u v x:Int):Bool:=decide (mM v (mM x x)=u)
def rootM (u v:Int):Nat:=bif rootOk u v (rootX u v 0) then 0 else bif rootOk u v (rootX u v 1) then 1 else 2
def opY (w:Int):Int:=w % 57896044618658097711785492504343953926634992332820282019728792003956564819968
def opU (w:Int):Int:=mS (mM (opY w) (opY w)) 1
def opV (w:Int):Int:=mA (mM eD (mM (opY w) (opY w))) 1
def opM (w:Int):Nat:=rootM (opU w) (opV w)
def opX (w:Int):Int:=rootX (opU w) (opV w) (opM w)
def opOdd (w:Int):Bool:=decide (w / 57896044618658097711785492504343953926634992332820282019728792003956564819968=1)
def opOk (w:Int):Bool:=decide (opY w<pP)&&(Nat.ble (opM w) 1&&!(opOdd w&&decide (opX w=0)))
def opXs (w:Int):Int:=bif decide (opX w % 2=1) != opOdd w then mS 0 (opX w) else opX w
def openS (w:Int):Q4:=(opXs w,opY w,1,mM (opXs w) (opY w))
theorem zjX {U V:List Int} (hu:bd5 U=true) (hv:bd5 V=true):∀ k,fm (rxk U V k)=rootX (fm U) (fm V) k
 | 0=>by
  obtain ⟨h3,h7,hx⟩:=znN hu hv
  show fm (mR (mR U (rv3 V)) (r5 (e8V (r5 (rw7 U V)))))=_
  rw [mR_fm (mR_bd hu h3) (b:=r5 (e8V (r5 (rw7 U V)))) (zgV (a:=r5 (rw7 U V)) h7).1,r5_fm,(zgV (a:=r5 (rw7 U V)) h7).2,r5_fm]
  show mM (fm (mR U (rv3 V))) (powM (fm (mR U (mR (mR (rv3 V) (rv3 V)) V))) _)=_
  rw [mR_fm hu h3,mR_fm hu (mR_bd (mR_bd h3 h3) hv),mR_fm (mR_bd h3 h3) hv,mR_fm h3 h3]
  show mM (mM (fm U) (fm (mR (mR V V) V))) (powM (mM (fm U) (mM (mM (fm (mR (mR V V) V)) (fm (mR (mR V V) V))) (fm V))) _)=_
  rw [mR_fm (mR_bd hv hv) hv,mR_fm hv hv];rfl
 | k+1=>by
  show fm (mR (rxk U V k) rmL)=_
  rw [mR_fm (ze1 hu hv k) zkc.1,zjX hu hv k,zkc.2];rfl
theorem zs1 {U V X:List Int} (_hu:bd5 U=true) (hv:bd5 V=true) (hx:bd5 X=true):rok U V X=rootOk (fm U) (fm V) (fm X):=by
 unfold rok rootOk
 rw [r5_fm,r5_fm,mR_fm hv (mR_bd hx hx),mR_fm hx hx]
theorem zwW {u v:Nat→Int} (hu:bd5 (l5 u)=true) (hv:bd5 (l5 v)=true):rtM u v=rootM (fm (l5 u)) (fm (l5 v)):=by
 unfold rtM rootM
 rw [zs1 hu hv (X:=r5 (rxk (l5 u) (l5 v) 0)) (ze1 hu hv 0),zs1 hu hv (X:=r5 (rxk (l5 u) (l5 v) 1)) (ze1 hu hv 1),r5_fm,r5_fm,zjX hu hv,zjX hu hv]
theorem zmI {b:Nat→Int} (h:areB b 32 0=true):areB (bb b) 32 0=true∧hval (bb b) 32 0=opY (hval b 32 0)∧(ishr .u8 (b 31) 7==1)=opOdd (hval b 32 0):=by
 obtain ⟨e1,e2,e3,e4,e5⟩:=zdb h
 have h31:bb b 31=b 31 % 128:=and127 ⟨e4,e5⟩
 have hlt:∀ d,d<31→bb b d=b d:=fun d hd=>by
  unfold bb
  have:Nat.beq (0+d) 31=false:=by
   cases hb:Nat.beq (0+d) 31 with
   | false=>rfl
   | true=>have:=Nat.eq_of_beq_eq_true hb;omega
  rw [this,Nat.zero_add];rfl
 have ha:areB (bb b) 32 0=true:=zdY fun i hi=>by
  rw [Nat.zero_add]
  by_cases q:i=31
  ·rw [q,h31];omega
  ·rw [hlt i (by omega)]
   have:=zch h i hi
   rwa [Nat.zero_add] at this
 obtain ⟨f1,f2,f3,f4,f5⟩:=zdb ha
 have e:hval (bb b) 31 0=hval b 31 0:=za6 fun i hi=>by rw [Nat.zero_add];exact hlt i hi
 rw [e,h31] at f1
 refine ⟨ha,?_,?_⟩
 ·rw [f1,e1]
  unfold opY
  generalize hval b 31 0=A at *
  generalize b 31=B at *
  omega
 ·have e7:ishr .u8 (b 31) 7=b 31 / 128:=by
   show (b 31).fdiv (2 ^ (min (7:Int).toNat 8))=_
   rw [Int.fdiv_eq_ediv_of_nonneg _ (by decide)];rfl
  unfold opOdd
  rw [e7,e1]
  have:(hval b 31 0+452312848583266388373324160190187140051835877600158453279131187530910662656*b 31) / 57896044618658097711785492504343953926634992332820282019728792003956564819968=b 31 / 128:=by
   generalize hval b 31 0=A at *
   generalize b 31=B at *
   omega
  rw [this];rfl
theorem zbS:bd5 one5L=true∧fm one5L=1:=by decide
theorem zhc:bd5 zer5L=true∧fm zer5L=0:=by decide
structure OpF (b:Nat→Int):Prop where
 y:bd5 (oY b)=true
 yv:opY (hval b 32 0)<pP→fm (oY b)=opY (hval b 32 0)
 u:bd5 (oU b)=true
 v:bd5 (oV b)=true
 yy:bd5 (oYY b)=true
 x:bd5 (oX b)=true
 n:bd5 (oN b)=true
theorem zhv (w:Int):0≤opY w∧opY w<57896044618658097711785492504343953926634992332820282019728792003956564819968:=by unfold opY;omega
theorem opF {b:Nat→Int} (h:areB b 32 0=true):OpF b:=by
 obtain ⟨h1,h2,h3⟩:=zmI h
 have hr:=zhv (hval b 32 0)
 have hy:=zfd (v:=hval (bb b) 32 0) (by rw [h2];omega)
 have y:bd5 (oY b)=true:=hy.1
 have yy:=mR_bd y y
 have u:bd5 (oU b)=true:=zc3 (a:=r5 (oYY b)) yy (b:=r5 one5L) zbS.1
 have v:bd5 (oV b)=true:=zco (a:=r5 (mR cvL (oYY b))) (mR_bd cv_bd yy) (b:=r5 one5L) zbS.1
 have x:bd5 (oX b)=true:=ze1 (U:=r5 (oU b)) u (V:=r5 (oV b)) v _
 exact ⟨y,fun hl=>by show fm (loadL (hval (bb b) 32 0))=_;rw [hy.2,h2];exact md_id ⟨hr.1,hl⟩,u,v,yy,x,zc3 (a:=r5 zer5L) zhc.1 (b:=r5 (oX b)) x⟩
theorem zjq {b:Nat→Int} (h:areB b 32 0=true) (hl:opY (hval b 32 0)<pP):oM b=opM (hval b 32 0)∧fm (oX b)=opX (hval b 32 0)∧fm (oN b)=mS 0 (opX (hval b 32 0)):=by
 have F:=opF h
 have eu:fm (oU b)=opU (hval b 32 0):=by
  show fm (subV (r5 (oYY b)) (r5 one5L))=_
  rw [zcG (a:=r5 (oYY b)) F.yy (b:=r5 one5L) zbS.1,r5_fm,r5_fm,zbS.2]
  show mS (fm (mR (oY b) (oY b))) 1=_
  rw [mR_fm F.y F.y,F.yv hl];rfl
 have ev:fm (oV b)=opV (hval b 32 0):=by
  show fm (addV (r5 (mR cvL (oYY b))) (r5 one5L))=_
  rw [zb2 (a:=r5 (mR cvL (oYY b))) (mR_bd cv_bd F.yy) (b:=r5 one5L) zbS.1,r5_fm,r5_fm,zbS.2,mR_fm cv_bd F.yy,cv_fm]
  show mA (mM eD (fm (mR (oY b) (oY b)))) 1=_
  rw [mR_fm F.y F.y,F.yv hl];rfl
 have em:oM b=opM (hval b 32 0):=by
  show rtM (lf (oU b)) (lf (oV b))=_
  rw [zwW (u:=lf (oU b)) (v:=lf (oV b)) F.u F.v]
  show rootM (fm (oU b)) (fm (oV b))=_
  rw [eu,ev];rfl
 have ex:fm (oX b)=opX (hval b 32 0):=by
  show fm (rxk (r5 (oU b)) (r5 (oV b)) (oM b))=_
  rw [zjX (U:=r5 (oU b)) F.u (V:=r5 (oV b)) F.v,r5_fm,r5_fm,eu,ev,em];rfl
 refine ⟨em,ex,?_⟩
 show fm (subV (r5 zer5L) (r5 (oX b)))=_
 rw [zcG (a:=r5 zer5L) zhc.1 (b:=r5 (oX b)) F.x,r5_fm,r5_fm,zhc.2,ex]
theorem zsy {X Y:List Int} (hx:bd5 X=true) (hy:bd5 Y=true):bdP (lf (oP X Y))=true∧vP (lf (oP X Y))=(fm X,fm Y,1,mM (fm X) (fm Y)):=by
 have hm:=mR_bd hx hy
 obtain ⟨x1,x2,x3,x4⟩:=zmM (a:=r5 X) (b:=r5 Y) (c:=one5L) (d:=r5 (mR X Y)) rfl rfl rfl rfl
 have e:∀ d,d<20→lf (oP X Y) d=lf (r5 X++(r5 Y++(one5L++r5 (mR X Y)))) d:=fun d hd=>by
  have:=zcF (lf (r5 X++(r5 Y++(one5L++r5 (mR X Y))))) 20 0 d hd
  rwa [Nat.zero_add] at this
 obtain ⟨e1,e2,e3,e4⟩:=ziE e
 refine ⟨?_,?_⟩
 ·rw [znc e]
  exact bdP_t.2 ⟨by rw [x1];exact hx,by rw [x2];exact hy,by rw [x3];exact zbS.1,by rw [x4];exact hm⟩
 ·unfold vP
  rw [e1,e2,e3,e4,x1,x2,x3,x4,r5_fm,r5_fm,r5_fm,zbS.2,mR_fm hx hy]
def opLs (b:Nat→Int):List Int:=bif decide (fm (r5 (oX b)) % 2=1) != opOdd (hval b 32 0) then oP (oN b) (oY b) else oP (oX b) (oY b)
def opFs (b:Nat→Int):List Int:=bif opOk (hval b 32 0) then opLs b else tabL (fun _=>0) 20 0
def tOpen:TF:=fun args=>match args with
 | [.agg [.ints .u8 32 b]]=>some (areB b 32 0,.tup [pt (lf (opFs b)),.sc (.bool (opOk (hval b 32 0)))])
 | _=>none
theorem zqj {b:Nat→Int} (h:areB b 32 0=true) (hok:opOk (hval b 32 0)=true):bdP (lf (opFs b))=true∧vP (lf (opFs b))=openS (hval b 32 0):=by
 have F:=opF h
 have hl:opY (hval b 32 0)<pP:=of_decide_eq_true (and_t.1 hok).1
 obtain ⟨em,ex,en⟩:=zjq h hl
 unfold opFs
 rw [hok]
 show bdP (lf (opLs b))=true∧vP (lf (opLs b))=_
 unfold opLs openS opXs
 rw [show fm (r5 (oX b))=opX (hval b 32 0) from ex]
 cases decide (opX (hval b 32 0) % 2=1) != opOdd (hval b 32 0) with
 | true =>
  obtain ⟨q1,q2⟩:=zsy F.n F.y
  refine ⟨q1,?_⟩
  show vP (lf (oP (oN b) (oY b)))=_
  rw [q2,en,F.yv hl];rfl
 | false =>
  obtain ⟨q1,q2⟩:=zsy F.x F.y
  refine ⟨q1,?_⟩
  show vP (lf (oP (oX b) (oY b)))=_
  rw [q2,ex,F.yv hl];rfl
theorem zsA {b:Nat→Int} (h:areB b 32 0=true) (g:Bool) (hg:decide (opY (hval b 32 0)<pP)=!g):oA b g=[true,true,true]:=by
 obtain ⟨h1,h2,h3⟩:=zmI h
 have F:=opF h
 have hr:=zhv (hval b 32 0)
 have hy:=zfd (v:=hval (bb b) 32 0) (by rw [h2];omega)
 have e:eqN 32 (lf (byL 32 (fm (r5 (oY b))))) (bb b)=decide (opY (hval b 32 0)<pP):=by
  rw [ziT h1 (zfL _).1 (zfL _).2,h2]
  show decide (_=fm (loadL (hval (bb b) 32 0)))=_
  rw [hy.2,h2]
  by_cases q:opY (hval b 32 0)<pP
  ·rw [decide_eq_true q,decide_eq_true (md_id ⟨hr.1,q⟩).symm]
  ·rw [decide_eq_false q,decide_eq_false (fun e=>q (by rw [e];exact Int.emod_lt_of_pos _ zd9))]
 unfold oA
 rw [e,h1,show bd5 (r5 (oY b))=true from F.y,hg]
 cases g <;> rfl
theorem zsm {b:Nat→Int} (h:areB b 32 0=true) (hl:opY (hval b 32 0)<pP) (g:Bool) (hg:Nat.ble (opM (hval b 32 0)) 1=!g):oB b g=[true,true,true,true]:=by
 have F:=opF h
 obtain ⟨em,ex,en⟩:=zjq h hl
 unfold oB
 rw [show chk5 (r5 (oY b))=true from zb3 F.y,cM_t cv_bd F.yy,em,hg,show rtCd (lf (oU b)) (lf (oV b))=true from and_t.2 ⟨F.u,F.v⟩]
 cases g <;> rfl
theorem zst {b:Nat→Int} (h:areB b 32 0=true) (g:Bool) (hg:opOdd (hval b 32 0)=g):oO b g=true:=by
 obtain ⟨h1,h2,h3⟩:=zmI h
 unfold oO
 rw [h3,hg]
 cases g <;> rfl
theorem zsr {b:Nat→Int} (h:areB b 32 0=true) (hl:opY (hval b 32 0)<pP) (g:Bool) (hg:decide (opX (hval b 32 0)=0)=g):oZ b g=[true,true]:=by
 have F:=opF h
 obtain ⟨em,ex,en⟩:=zjq h hl
 unfold oZ
 rw [show bd5 (r5 (oX b))=true from F.x,zlC (zfL _).1 (zfL _).2,show fm (r5 (oX b))=opX (hval b 32 0) from ex,hg]
 cases g <;> rfl
theorem zkt {b:Nat→Int} (h:areB b 32 0=true) (hl:opY (hval b 32 0)<pP) (o g:Bool) (ho:opOdd (hval b 32 0)=o) (hg:(decide (fm (r5 (oX b)) % 2=1) != opOdd (hval b 32 0))=g):oD b o g=[true,true]:=by
 have F:=opF h
 subst ho
 unfold oD
 rw [show bd5 (r5 (oX b))=true from F.x,hg]
 cases g <;> rfl
theorem zxj:TRow prog F_edwards_open tOpen:=by
 intro args r h
 unfold tOpen at h
 split at h
 case h_2=>simp at h
 rename_i b
 simp only [Option.some.injEq,Prod.mk.injEq] at h
 obtain ⟨hb,rfl⟩:=h
 have F:=opF hb
 unfold opFs
 cases h1:decide (opY (hval b 32 0)<pP) with
 | false =>
  have hok:opOk (hval b 32 0)=false:=by unfold opOk;rw [h1];rfl
  rw [hok]
  refine zab X12 at_edwards_open ze8 (N:=5) (gs:=[(22,true)]) ?_
  have e:=zvu b
  rw [zsA hb true (by rw [h1];rfl)] at e
  exact e
 | true =>
  have hl:=of_decide_eq_true h1
  have a:=zsA hb false (by rw [h1];rfl)
  cases h2:Nat.ble (opM (hval b 32 0)) 1 with
  | false =>
   have hok:opOk (hval b 32 0)=false:=by unfold opOk;rw [h1,h2];rfl
   rw [hok]
   refine zab X12 at_edwards_open ze8 (N:=5) (gs:=[(22,false),(39,true)]) ?_
   have e:=zuB b
   rw [a,zsm hb hl true (by rw [h2];rfl)] at e
   exact e
  | true =>
   have bb':=zsm hb hl false (by rw [h2];rfl)
   cases h3:opOdd (hval b 32 0) with
   | true =>
    have o:=zst hb true h3
    cases h4:decide (opX (hval b 32 0)=0) with
    | true =>
     have hok:opOk (hval b 32 0)=false:=by unfold opOk;rw [h1,h2,h3,h4];rfl
     rw [hok]
     refine zab X12 at_edwards_open ze8 (N:=5) (gs:=[(12,true),(22,false),(39,false),(46,true)]) ?_
     have e:=zvx b
     rw [a,bb',o,zsr hb hl true h4] at e
     exact e
    | false =>
     have hok:opOk (hval b 32 0)=true:=by unfold opOk;rw [h1,h2,h3,h4];rfl
     rw [hok]
     unfold opLs
     have z:=zsr hb hl false h4
     cases h5:(decide (fm (r5 (oX b)) % 2=1) != opOdd (hval b 32 0)) with
     | true =>
      refine zab X12 at_edwards_open ze8 (N:=5) (gs:=[(12,true),(22,false),(39,false),(46,false),(53,true)]) ?_
      have e:=zp7 b
      rw [a,bb',o,z,zkt hb hl true true h3 h5,cM_t F.n F.y] at e
      exact e
     | false =>
      refine zab X12 at_edwards_open ze8 (N:=5) (gs:=[(12,true),(22,false),(39,false),(46,false),(53,false)]) ?_
      have e:=zrm b
      rw [a,bb',o,z,zkt hb hl true false h3 h5,cM_t F.x F.y] at e
      exact e
   | false =>
    have o:=zst hb false h3
    have hok:opOk (hval b 32 0)=true:=by unfold opOk;rw [h1,h2,h3];rfl
    rw [hok]
    unfold opLs
    cases h5:(decide (fm (r5 (oX b)) % 2=1) != opOdd (hval b 32 0)) with
    | true =>
     refine zab X12 at_edwards_open ze8 (N:=5) (gs:=[(12,false),(22,false),(39,false),(53,true)]) ?_
     have e:=zqI b
     rw [a,bb',o,zkt hb hl false true h3 h5,cM_t F.n F.y] at e
     exact e
    | false =>
     refine zab X12 at_edwards_open ze8 (N:=5) (gs:=[(12,false),(22,false),(39,false),(53,false)]) ?_
     have e:=zsb b
     rw [a,bb',o,zkt hb hl false false h3 h5,cM_t F.x F.y] at e
     exact e
noncomputable def ex13:List (Nat × TF):=(F_edwards_open,tOpen)::ex12
theorem X13:LibOK prog tt ex13 []:=X12.addT zxj
end Go.Proofs.YtplaklpfeabhiaaGreat
namespace Go.Proofs.YtplaklpfeabhiaaGreat
open Go.Proofs.Tryz
open Go Go.AM
abbrev ld0 (b:Nat→Int):Nat→Int:=b
theorem za1 (b:Nat→Int):ld0 b=b:=rfl
theorem zk0 {q:Q4} {s s':Nat→Int} (h:∀ d,d<32→s d=s' d):∀ k,tmSp q s k=tmSp q s' k
 | 0=>rfl
 | k+1=>by
  unfold tmSp
  rw [zk0 h k,zi4 h (i:=63 - k) (by omega)]
def mulS (q:Q4) (k:Int):Q4:=tmSp q (lf (byL 32 k)) 64
theorem zjB {q:Q4} {s:Nat→Int} (h:areB s 32 0=true):tmSp q s 64=mulS q (hval s 32 0):=by
 refine zk0 (fun d hd=>?_) 64
 rw [zcR h]
 have:=zcF s 32 0 d hd
 rw [Nat.zero_add] at this
 exact this.symm
def tCheck:TF:=fun args=>match args with
 | [.agg [.ints .u8 32 b]]=>some (areB b 32 0,.sc (.int .i64 (bif opOk (hval b 32 0) then 0 else 41)))
 | _=>none
theorem znz:fnChk prog (envP tt ex13 []) f_edwards_Check=true:=by kernel_rfl
theorem zu1 (b:Nat→Int) (g:Bool):outP (apFunc (envP tt ex13 []) [(11,true)] 5 f_edwards_Check [u8s 32 b] [])=some (ckL [areB (ld0 b) 32 0,(!opOk (hval (ld0 b) 32 0))==true],.sc (.int .i64 41)):=by kernel_rfl
theorem zpB (b:Nat→Int):outP (apFunc (envP tt ex13 []) [(11,false)] 5 f_edwards_Check [u8s 32 b] [])=some (ckL [areB (ld0 b) 32 0,(!opOk (hval (ld0 b) 32 0))==false],.sc (.int .i64 0)):=by kernel_rfl
theorem zmW:TRow prog F_edwards_Check tCheck:=by
 intro args r h
 unfold tCheck at h
 split at h
 case h_2=>simp at h
 rename_i b
 simp only [Option.some.injEq,Prod.mk.injEq] at h
 obtain ⟨hb,rfl⟩:=h
 cases ho:opOk (hval b 32 0) with
 | true =>
  refine zab X13 at_edwards_Check znz (N:=5) (gs:=[(11,false)]) ?_
  have e:=zpB b
  rw [za1,hb,ho] at e
  exact e
 | false =>
  refine zab X13 at_edwards_Check znz (N:=5) (gs:=[(11,true)]) ?_
  have e:=zu1 b true
  rw [za1,hb,ho] at e
  exact e
def tIdentity:TF:=fun args=>match args with
 | []=>some (true,b32 1)
 | _=>none
theorem zl8:fnChk prog (envP tt ex13 []) f_edwards_Identity=true:=by kernel_rfl
theorem zmo:outP (apFunc (envP tt ex13 []) [] 5 f_edwards_Identity [] [])=some (bdP (lf idP)&&true,b32 (formS (vP (lf idP)))):=by kernel_rfl
theorem zvT:formS idS4=1:=by
 have e:invM 1=1:=by unfold invM powM;rw [Int.one_pow];decide
 unfold formS idS4
 simp only [e]
 decide
theorem zd3:TRow prog F_edwards_Identity tIdentity:=by
 intro args r h
 unfold tIdentity at h
 split at h
 case h_2=>simp at h
 simp only [Option.some.injEq,Prod.mk.injEq,true_and] at h
 subst h
 refine zab X13 at_edwards_Identity zl8 (N:=5) (gs:=[]) ?_
 rw [zmo,ze7.1,ze7.2,zvT];rfl
def tMulBase:TF:=fun args=>match args with
 | [.agg [.ints .u8 32 s]]=>some (areB s 32 0,b32 (formS (mulS baseS (hval s 32 0))))
 | _=>none
theorem zne:fnChk prog (envP tt ex13 []) f_edwards_MulBase=true:=by kernel_rfl
theorem zpf (s:Nat→Int):outP (apFunc (envP tt ex13 []) [] 5 f_edwards_MulBase [u8s 32 s] [])=some (ckL [bdP (lf basL)&&areB (ld0 s) 32 0,bdP (lf (r20 (tmV (n20 (lf basL)) (n32 s) 64)))],b32 (formS (vP (lf (r20 (tmV (n20 (lf basL)) (n32 s) 64)))))):=by kernel_rfl
theorem ze3:TRow prog F_edwards_MulBase tMulBase:=by
 intro args r h
 unfold tMulBase at h
 split at h
 case h_2=>simp at h
 rename_i s
 simp only [Option.some.injEq,Prod.mk.injEq] at h
 obtain ⟨hs,rfl⟩:=h
 refine zab X13 at_edwards_MulBase zne (N:=5) (gs:=[]) ?_
 obtain ⟨h3,h4⟩:=zmA (s:=s) zjb.1
 have e:=zpf s
 rw [za1,zjb.1,hs,h3,h4,zjb.2,zjB hs] at e
 exact e
def isIdS (q:Q4):Bool:=decide (q.1=0)&&decide (q.2.1=q.2.2.1)
def tIsId:TF:=fun args=>match args with
 | [.agg [.ints .u64 20 p]]=>some (bdP p,.sc (.bool (isIdS (vP p))))
 | _=>none
theorem zsH:fnChk prog (envP tt ex13 []) f_edwards_point_isIdentity=true:=by kernel_rfl
theorem ztx (p:Nat→Int):outP (apFunc (envP tt ex13 []) [(6,true)] 5 f_edwards_point_isIdentity [pt p] [])=some (ckL [(bd5 (px p)&&true)&&(decide (fm (px p)=0)==true),bd5 (py p)&&bd5 (pz p)],.sc (.bool (decide (fm (py p)=fm (pz p))))):=by kernel_rfl
theorem zvy (p:Nat→Int):outP (apFunc (envP tt ex13 []) [(6,false)] 5 f_edwards_point_isIdentity [pt p] [])=some (ckL [(bd5 (px p)&&true)&&(decide (fm (px p)=0)==false)],.sc (.bool false)):=by kernel_rfl
theorem zxR:TRow prog F_edwards_point_isIdentity tIsId:=by
 intro args r h
 unfold tIsId at h
 split at h
 case h_2=>simp at h
 rename_i p
 simp only [Option.some.injEq,Prod.mk.injEq] at h
 obtain ⟨hp,rfl⟩:=h
 obtain ⟨h1,h2,h3,h4⟩:=bdP_t.1 hp
 have e:isIdS (vP p)=(decide (fm (px p)=0)&&decide (fm (py p)=fm (pz p))):=rfl
 rw [e]
 cases h0:decide (fm (px p)=0) with
 | true =>
  refine zab X13 at_edwards_point_isIdentity zsH (N:=5) (gs:=[(6,true)]) ?_
  have e:=ztx p
  rw [h0,h1,h2,h3] at e
  exact e
 | false =>
  refine zab X13 at_edwards_point_isIdentity zsH (N:=5) (gs:=[(6,false)]) ?_
  have e:=zvy p
  rw [h0,h1] at e
  exact e
def tOrder4:TF:=fun args=>match args with
 | []=>some (true,b32 ordL)
 | _=>none
theorem zqb:fnChk prog (envP tt ex13 []) f_edwards_order=true:=by kernel_rfl
theorem zqt:TRow prog F_edwards_order tOrder4:=by
 intro args r h
 unfold tOrder4 at h
 split at h
 case h_2=>simp at h
 simp only [Option.some.injEq,Prod.mk.injEq,true_and] at h
 subst h
 exact zab X13 at_edwards_order zqb (N:=5) (gs:=[]) (by kernel_rfl)
noncomputable def ex14:List (Nat × TF):=(F_edwards_order,tOrder4)::(F_edwards_point_isIdentity,tIsId)::(F_edwards_MulBase,tMulBase)::(F_edwards_Identity,tIdentity)::(F_edwards_Check,tCheck)::ex13
theorem X14:LibOK prog tt ex14 []:=((((X13.addT zmW).addT zd3).addT ze3).addT zxR).addT zqt
def prS (w:Int):Bool:=opOk w&&isIdS (mulS (openS w) ordL)
def tIsPrime:TF:=fun args=>match args with
 | [.agg [.ints .u8 32 b]]=>some (areB b 32 0,.tup [.sc (.bool (prS (hval b 32 0))),.sc (.int .i64 (bif opOk (hval b 32 0) then 0 else 41))])
 | _=>none
theorem zhX:fnChk prog (envP tt ex14 []) f_edwards_IsPrime=true:=by kernel_rfl
theorem zmk (b:Nat→Int):outP (apFunc (envP tt ex14 []) [(12,true)] 5 f_edwards_IsPrime [u8s 32 b] [])=some (ckL [areB (ld0 b) 32 0,(!opOk (hval (ld0 b) 32 0))==true],.tup [.sc (.bool false),.sc (.int .i64 41)]):=by kernel_rfl
def zbr (b:Nat→Int):List Int:=tabL (lf (opFs b)) 20 0
set_option maxRecDepth 100000 in
theorem zlD (b:Nat→Int):outP (apFunc (envP tt ex14 []) [(12,false)] 5 f_edwards_IsPrime [u8s 32 b] []) =
  some (ckL [areB (ld0 b) 32 0,(!opOk (hval (ld0 b) 32 0))==false,bdP (lf (zbr (ld0 b)))&&areB (lf (byL 32 ordL)) 32 0,bdP (lf (r20 (tmV (n20 (lf (zbr (ld0 b)))) (n32 (lf (byL 32 ordL))) 64)))],
   .tup [.sc (.bool (isIdS (vP (lf (r20 (tmV (n20 (lf (zbr (ld0 b)))) (n32 (lf (byL 32 ordL))) 64)))))),.sc (.int .i64 0)]):=by kernel_rfl
theorem zgY {b:Nat→Int} (hb:areB b 32 0=true) (ho:opOk (hval b 32 0)=true):bdP (lf (zbr b))=true∧vP (lf (zbr b))=openS (hval b 32 0):=by
 obtain ⟨h1,h2⟩:=zqj hb ho
 exact ⟨h1,h2⟩
theorem ordB:areB (lf (byL 32 ordL)) 32 0=true∧hval (lf (byL 32 ordL)) 32 0=ordL:=⟨za0 _,zcj (by decide) (by decide)⟩
theorem zis:TRow prog F_edwards_IsPrime tIsPrime:=by
 intro args r h
 unfold tIsPrime at h
 split at h
 case h_2=>simp at h
 rename_i b
 simp only [Option.some.injEq,Prod.mk.injEq] at h
 obtain ⟨hb,rfl⟩:=h
 unfold prS
 cases ho:opOk (hval b 32 0) with
 | false =>
  refine zab X14 at_edwards_IsPrime zhX (N:=5) (gs:=[(12,true)]) ?_
  have e:=zmk b
  rw [za1,hb,ho] at e
  exact e
 | true =>
  refine zab X14 at_edwards_IsPrime zhX (N:=5) (gs:=[(12,false)]) ?_
  obtain ⟨h1,h2⟩:=zgY hb ho
  obtain ⟨h3,h4⟩:=zmA (s:=lf (byL 32 ordL)) h1
  have e:=zlD b
  have hm:tmSp (openS (hval b 32 0)) (lf (byL 32 ordL)) 64=mulS (openS (hval b 32 0)) ordL:=rfl
  rw [za1,hb,ho,h1,ordB.1,h3,h4,h2,hm] at e
  generalize mulS (openS (hval b 32 0)) ordL=q at e ⊢
  exact e
def tOneMul:TF:=fun args=>match args with
 | [.agg [.ints .u8 32 b],.sc (.clo f [.vptr _ [.ints .u8 32 s]])]=>some ((areB b 32 0&&areB s 32 0)&&Nat.beq f F_edwards_Mul_1,.tup [b32 (bif opOk (hval b 32 0) then formS (mulS (openS (hval b 32 0)) (hval s 32 0)) else 0),.sc (.int .i64 (bif opOk (hval b 32 0) then 0 else 41))])
 | [.agg [.ints .u8 32 b],.sc (.bnd f [.ints .u64 20 p])]=>some ((areB b 32 0&&bdP p)&&Nat.beq f F_edwards_point_plus,.tup [b32 (bif opOk (hval b 32 0) then formS (addS (vP p) (openS (hval b 32 0))) else 0),.sc (.int .i64 (bif opOk (hval b 32 0) then 0 else 41))])
 | _=>none
def tMul1:TF:=fun args=>match args with
 | [.agg [.ints .u64 20 p],.sc (.vptr _ [.ints .u8 32 s])]=>some (bdP p&&areB s 32 0,pt (lf (r20 (tmV (n20 p) (n32 s) 64))))
 | _=>none
theorem zwd:fnChk prog (envP tt ex14 []) f_edwards_Mul_1=true:=by kernel_rfl
theorem zw3 (t:Bool) (p s:Nat→Int):outP (apFunc (envP tt ex14 []) [] 5 f_edwards_Mul_1 [pt p,.sc (.vptr t [.ints .u8 32 s])] [])=some (ckL [bdP (ld0 p)&&areB (ld0 s) 32 0],pt (lf (r20 (tmV (n20 p) (n32 s) 64)))):=by kernel_rfl
theorem zzn:TRow prog F_edwards_Mul_1 tMul1:=by
 intro args r h
 unfold tMul1 at h
 split at h
 case h_2=>simp at h
 rename_i p t s
 simp only [Option.some.injEq,Prod.mk.injEq] at h
 obtain ⟨hc,rfl⟩:=h
 refine zab X14 at_edwards_Mul_1 zwd (N:=5) (gs:=[]) ?_
 have e:=zw3 t p s
 rw [za1,za1,hc] at e
 exact e
noncomputable def ex15:List (Nat × TF):=(F_edwards_Mul_1,tMul1)::(F_edwards_IsPrime,tIsPrime)::ex14
theorem X15:LibOK prog tt ex15 []:=(X14.addT zis).addT zzn
theorem c_one:fnChk prog (envP tt ex15 []) f_edwards_one=true:=by kernel_rfl
theorem zuP (t:Bool) (b s:Nat→Int):outP (apFunc (envP tt ex15 []) [(14,true)] 5 f_edwards_one [u8s 32 b,.sc (.clo F_edwards_Mul_1 [.vptr t [.ints .u8 32 s]])] [])=some (ckL [areB (ld0 b) 32 0,(!opOk (hval (ld0 b) 32 0))==true],.tup [b32 0,.sc (.int .i64 41)]):=by kernel_rfl
theorem zth (t:Bool) (b s:Nat→Int):outP (apFunc (envP tt ex15 []) [(14,false)] 5 f_edwards_one [u8s 32 b,.sc (.clo F_edwards_Mul_1 [.vptr t [.ints .u8 32 s]])] []) =
  some (ckL [areB (ld0 b) 32 0,(!opOk (hval (ld0 b) 32 0))==false,bdP (lf (zbr (ld0 b)))&&areB s 32 0,bdP (lf (r20 (tmV (n20 (lf (zbr (ld0 b)))) (n32 s) 64)))],.tup [b32 (formS (vP (lf (r20 (tmV (n20 (lf (zbr (ld0 b)))) (n32 s) 64))))),.sc (.int .i64 0)]):=by kernel_rfl
theorem ztf (b p:Nat→Int):outP (apFunc (envP tt ex15 []) [(14,true)] 5 f_edwards_one [u8s 32 b,.sc (.bnd F_edwards_point_plus [.ints .u64 20 p])] [])=some (ckL [areB (ld0 b) 32 0,(!opOk (hval (ld0 b) 32 0))==true],.tup [b32 0,.sc (.int .i64 41)]):=by kernel_rfl
theorem zvj (b p:Nat→Int):outP (apFunc (envP tt ex15 []) [(14,false)] 5 f_edwards_one [u8s 32 b,.sc (.bnd F_edwards_point_plus [.ints .u64 20 p])] []) =
  some (ckL [areB (ld0 b) 32 0,(!opOk (hval (ld0 b) 32 0))==false,chkP p&&chkP (lf (zbr (ld0 b))),bdP (lf (ptAdd p (lf (zbr (ld0 b)))))],.tup [b32 (formS (vP (lf (ptAdd p (lf (zbr (ld0 b))))))),.sc (.int .i64 0)]):=by kernel_rfl
theorem zp5:TRow prog F_edwards_one tOneMul:=by
 intro args r h
 unfold tOneMul at h
 split at h
 case h_3=>simp at h
 case h_1 =>
  rename_i b f t s
  simp only [Option.some.injEq,Prod.mk.injEq,Bool.and_eq_true,beq_t] at h
  obtain ⟨⟨⟨hb,hs⟩,rfl⟩,rfl⟩:=h
  cases ho:opOk (hval b 32 0) with
  | false =>
   refine zab X15 at_edwards_one c_one (N:=5) (gs:=[(14,true)]) ?_
   have e:=zuP t b s
   rw [za1,hb,ho] at e
   exact e
  | true =>
   refine zab X15 at_edwards_one c_one (N:=5) (gs:=[(14,false)]) ?_
   obtain ⟨h1,h2⟩:=zgY hb ho
   obtain ⟨h3,h4⟩:=zmA (s:=s) h1
   have e:=zth t b s
   rw [za1,hb,ho,h1,hs,h3,h4,h2,zjB hs] at e
   exact e
 case h_2 =>
  rename_i b f p
  simp only [Option.some.injEq,Prod.mk.injEq,Bool.and_eq_true,beq_t] at h
  obtain ⟨⟨⟨hb,hp⟩,rfl⟩,rfl⟩:=h
  cases ho:opOk (hval b 32 0) with
  | false =>
   refine zab X15 at_edwards_one c_one (N:=5) (gs:=[(14,true)]) ?_
   have e:=ztf b p
   rw [za1,hb,ho] at e
   exact e
  | true =>
   refine zab X15 at_edwards_one c_one (N:=5) (gs:=[(14,false)]) ?_
   obtain ⟨h1,h2⟩:=zgY hb ho
   obtain ⟨h3,h4⟩:=zdm hp h1
   have e:=zvj b p
   rw [za1,hb,ho,zb4 hp,zb4 h1,h3,h4,h2] at e
   exact e
noncomputable def ex16:List (Nat × TF):=(F_edwards_one,tOneMul)::ex15
theorem X16:LibOK prog tt ex16 []:=X15.addT zp5
def tEMul:TF:=fun args=>match args with
 | [.agg [.ints .u8 32 s],.agg [.ints .u8 32 b]]=>some (areB b 32 0&&areB s 32 0,.tup [b32 (bif opOk (hval b 32 0) then formS (mulS (openS (hval b 32 0)) (hval s 32 0)) else 0),.sc (.int .i64 (bif opOk (hval b 32 0) then 0 else 41))])
 | _=>none
theorem zwy:fnChk prog (envP tt ex16 []) f_edwards_Mul=true:=by kernel_rfl
theorem zy0 (s b:Nat→Int):outP (apFunc (envP tt ex16 []) [] 5 f_edwards_Mul [u8s 32 s,u8s 32 b] [])=some (ckL [(areB (ld0 b) 32 0&&areB (ld0 s) 32 0)&&true],.tup [b32 (bif opOk (hval (ld0 b) 32 0) then formS (mulS (openS (hval (ld0 b) 32 0)) (hval (ld0 s) 32 0)) else 0),.sc (.int .i64 (bif opOk (hval (ld0 b) 32 0) then 0 else 41))]):=by kernel_rfl
theorem zyq:TRow prog F_edwards_Mul tEMul:=by
 intro args r h
 unfold tEMul at h
 split at h
 case h_2=>simp at h
 rename_i s b
 simp only [Option.some.injEq,Prod.mk.injEq] at h
 obtain ⟨hc,rfl⟩:=h
 refine zab X16 at_edwards_Mul zwy (N:=5) (gs:=[]) ?_
 have e:=zy0 s b
 rw [za1,za1,hc] at e
 exact e
def addOk (a b:Int):Bool:=opOk a&&opOk b
def tEAdd:TF:=fun args=>match args with
 | [.agg [.ints .u8 32 a],.agg [.ints .u8 32 b]]=>some (areB a 32 0&&areB b 32 0,.tup [b32 (bif addOk (hval a 32 0) (hval b 32 0) then formS (addS (openS (hval a 32 0)) (openS (hval b 32 0))) else 0),.sc (.int .i64 (bif addOk (hval a 32 0) (hval b 32 0) then 0 else 41))])
 | _=>none
theorem zsU:fnChk prog (envP tt ex16 []) f_edwards_Add=true:=by kernel_rfl
theorem zvw (a b:Nat→Int):outP (apFunc (envP tt ex16 []) [(14,true)] 5 f_edwards_Add [u8s 32 a,u8s 32 b] [])=some (ckL [areB (ld0 a) 32 0,(!opOk (hval (ld0 a) 32 0))==true],.tup [b32 0,.sc (.int .i64 41)]):=by kernel_rfl
theorem zua (a b:Nat→Int):outP (apFunc (envP tt ex16 []) [(14,false)] 5 f_edwards_Add [u8s 32 a,u8s 32 b] []) =
  some (ckL [areB (ld0 a) 32 0,(!opOk (hval (ld0 a) 32 0))==false,(areB (ld0 b) 32 0&&bdP (lf (zbr (ld0 a))))&&true],.tup [b32 (bif opOk (hval (ld0 b) 32 0) then formS (addS (vP (lf (zbr (ld0 a)))) (openS (hval (ld0 b) 32 0))) else 0),.sc (.int .i64 (bif opOk (hval (ld0 b) 32 0) then 0 else 41))]):=by kernel_rfl
theorem zyu:TRow prog F_edwards_Add tEAdd:=by
 intro args r h
 unfold tEAdd at h
 split at h
 case h_2=>simp at h
 rename_i a b
 simp only [Option.some.injEq,Prod.mk.injEq] at h
 obtain ⟨hc,rfl⟩:=h
 obtain ⟨ha,hb⟩:=and_t.1 hc
 unfold addOk
 cases ho:opOk (hval a 32 0) with
 | false =>
  refine zab X16 at_edwards_Add zsU (N:=5) (gs:=[(14,true)]) ?_
  have e:=zvw a b
  rw [za1,ha,ho] at e
  exact e
 | true =>
  refine zab X16 at_edwards_Add zsU (N:=5) (gs:=[(14,false)]) ?_
  obtain ⟨h1,h2⟩:=zgY ha ho
  have e:=zua a b
  rw [za1,za1,ha,hb,ho,h1,h2] at e
  exact e
end Go.Proofs.YtplaklpfeabhiaaGreat
