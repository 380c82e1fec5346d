/-
  Texts of the claim: DGs DCk VH VB VC VD0 VD VD2 VD3 VE0 VE1 VF0 VG0 DSmElements VG VI0 VI VJ0 VK VJ1 VJ VL0 VL VM0 VW DSmScalars DSmInts.
-/
import Derived.Test.YtplaklpfeabhiaaGreatAd
import Derived.Test.YtplaklpfeabhiaaGreatAe
import Derived.Test.YtplaklpfeabhiaaGreatAf
import Derived.Test.YtplaklpfeabhiaaGreatBd
namespace Go.Proofs.YtplaklpfeabhiaaGreat
open Go.Proofs.Tryz
open Go Go.AM
def nbR (m:Nat) (A B:Nat→Nat→Int) (j:Nat):List Seg:=[.ints .i64 1 (A j),.ints .u8 m (B j)]
def nbK (m:Nat):List Sh:=[.ints .i64 1,.ints .u8 m]
theorem zeR (m n:Nat) (A B:Nat→Nat→Int):rowsAll (nbK m) n (nbR m A B)=true:=zds.2 fun j _=>by simp [nbK,nbR,shB,zaj,zan]
theorem nbA {m j:Nat} {A B:Nat→Nat→Int} {d:Nat} (h:d<1):shF (nbR m A B) 0 j d=A j d:=by
 unfold shF nbR
 rw [Nat.zero_add,zac h];rfl
theorem nbB {m j:Nat} {A B:Nat→Nat→Int} {d:Nat} (h:d<m):shF (nbR m A B) 1 j d=B j d:=by
 unfold shF nbR
 rw [zae (by omega) (by simp [lenS];omega),show 1+d - 1=d by omega,zac h];rfl
theorem rs_nb {σ:Sg} {pr:Pr} {w:World} {t:Bool} {m n:Nat} {row:Nat→List Seg} {v:Value} (hr:rowsAll (nbK m) n row=true) (h:RS σ pr w (.vrows t (m+1) n row) v):RS σ pr w (.vrows t (m+1) n (nbR m (shF row 0) (shF row 1))) v:=by
 have each:∀ j,j<n→lenS (shG (nbK m) (row j) 0)=lenS (row j)∧∀ c,c<lenS (row j)→cellAt (shG (nbK m) (row j) 0) c=cellAt (row j) c:=fun j hj =>
  zcS (nbK m) (row j) (row j) 0 (zds.1 hr j hj) fun c _=>by rw [Nat.zero_add]
 have e:∀ j,nbR m (shF row 0) (shF row 1) j=shG (nbK m) (row j) 0:=fun j=>rfl
 cases h with
 | vrows0=>exact .vrows0
 | vrows vs q1 q2 q3 q4 q5 =>
  exact .vrows vs q1 q2 (fun j hj c hc=>by rw [e,(each j hj).2 c (Nat.lt_of_lt_of_le hc (q4 j hj))];exact q3 j hj c hc) (fun j hj=>by rw [e,(each j hj).1];exact q4 j hj) q5
theorem ztZ {σ:Sg} {pr:Pr} {w:World} {t:Bool} {m n:Nat} {row:Nat→List Seg} (hr:rowsAll (nbK m) n row=true):∀ {l1 l2:List AV} {vs:List Value},ArgsOK σ pr w (l1++.sc (.vrows t (m+1) n row)::l2) vs→ArgsOK σ pr w (l1++.sc (.vrows t (m+1) n (nbR m (shF row 0) (shF row 1)))::l2) vs:=by
 intro l1 l2 vs h
 refine ⟨by rw [h.1];simp,fun i a x ha hx=>?_⟩
 by_cases e:i=l1.length
 ·subst e
  rw [List.getElem?_append_right (Nat.le_refl _),Nat.sub_self] at ha
  simp only [List.getElem?_cons_zero,Option.some.injEq] at ha
  subst ha
  exact RV.of_sc (rs_nb hr (h.2 l1.length (.sc (.vrows t (m+1) n row)) x (by rw [List.getElem?_append_right (Nat.le_refl _),Nat.sub_self];rfl) hx))
 ·refine h.2 i a x ?_ hx
  by_cases e2:i<l1.length
  ·rw [List.getElem?_append_left e2] at ha ⊢;exact ha
  ·rw [List.getElem?_append_right (by omega)] at ha ⊢
   obtain ⟨k,hk⟩:∃ k,i - l1.length=k+1:=⟨i - l1.length - 1,by omega⟩
   rw [hk,List.getElem?_cons_succ] at ha ⊢
   exact ha
theorem zpk {P:Program} {f:FuncId} {t:Bool} {m n:Nat} {row:Nat→List Seg} {l1 l2:List AV} {r:AV} (hr:rowsAll (nbK m) n row=true) (h:Pure P f (l1++.sc (.vrows t (m+1) n (nbR m (shF row 0) (shF row 1)))::l2) r):Pure P f (l1++.sc (.vrows t (m+1) n row)::l2) r :=
 fun pr w vs ha hlt=>h pr w vs (ztZ hr ha) hlt
end Go.Proofs.YtplaklpfeabhiaaGreat
namespace Go.Proofs.YtplaklpfeabhiaaGreat
open Go.Proofs.Tryz
open Go Go.AM
def tIsElG (G:Int→Int):TF:=fun args=>match args with
 | [.agg [.ints .u8 32 b]]=>some (areB b 32 0,.sc (.bool (G (hval b 32 0)==0)))
 | _=>none
end Go.Proofs.YtplaklpfeabhiaaGreat
namespace Go.Proofs.YtplaklpfeabhiaaGreat
open Go.Proofs.Tryz
open Go Go.AM
theorem hideEx {α:Type} (a:α):∃ x,x=a:=⟨a,rfl⟩
noncomputable def hide {α:Type} (a:α):α:=Classical.choose (hideEx a)
theorem za5 {α:Type} (a:α):hide a=a:=Classical.choose_spec (hideEx a)
noncomputable def kExp:Int→Int:=hide expS
noncomputable def kBase:Int→Int:=hide fun s=>formS (mulS baseS s)
noncomputable def kGrp:Int→Int:=hide grpS
noncomputable def kOp:Int→Bool:=hide opOk
noncomputable def kMul:Int→Int→Int:=hide fun s w=>bif opOk w then formS (mulS (openS w) s) else 0
noncomputable def kAok:Int→Int→Bool:=hide addOk
noncomputable def kAdd:Int→Int→Int:=hide fun u w=>bif addOk u w then formS (addS (openS u) (openS w)) else 0
noncomputable def tExpO:TF:=fun args=>match args with
 | [.agg [.ints .u8 32 s]]=>some (areB s 32 0,.tup [b32 (kExp (hval s 32 0 % ordL)),.sc (.int .i64 (bif decide (hval s 32 0 % ordL=0) then 9 else 0))])
 | _=>none
theorem zkU:tExpO=tExp:=by unfold tExpO tExp kExp;rw [za5];rfl
noncomputable def tBaseO:TF:=fun args=>match args with
 | [.agg [.ints .u8 32 s]]=>some (areB s 32 0,b32 (kBase (hval s 32 0)))
 | _=>none
theorem zio:tBaseO=tMulBase:=by unfold tBaseO tMulBase kBase;rw [za5];rfl
noncomputable def tEMulO:TF:=fun args=>match args with
 | [.agg [.ints .u8 32 s],.agg [.ints .u8 32 b]]=>some (areB b 32 0&&areB s 32 0,.tup [b32 (kMul (hval s 32 0) (hval b 32 0)),.sc (.int .i64 (bif kOp (hval b 32 0) then 0 else 41))])
 | _=>none
theorem zo1:tEMulO=tEMul:=by unfold tEMulO tEMul kMul kOp;rw [za5,za5];rfl
noncomputable def tEAddO:TF:=fun args=>match args with
 | [.agg [.ints .u8 32 a],.agg [.ints .u8 32 b]]=>some (areB a 32 0&&areB b 32 0,.tup [b32 (kAdd (hval a 32 0) (hval b 32 0)),.sc (.int .i64 (bif kAok (hval a 32 0) (hval b 32 0) then 0 else 41))])
 | _=>none
theorem zoO:tEAddO=tEAdd:=by unfold tEAddO tEAdd kAdd kAok;rw [za5,za5];rfl
noncomputable def tGetO:TF:=fun args=>match args with
 | [.sc (.vints _ .u8 1 n f)]=>some (areB (fun j=>f j 0) n 0,.tup [b32 (bif Nat.beq n 32 then bif decide (kGrp (hval (fun j=>f j 0) n 0)=0) then hval (fun j=>f j 0) n 0 else 0 else 0),.sc (.int .i64 (bif Nat.beq n 32 then kGrp (hval (fun j=>f j 0) n 0) else 3))])
 | _=>none
theorem ztH (n:Nat) (w:Int):getS n w=(bif Nat.beq n 32 then bif decide (kGrp w=0) then w else 0 else 0,bif Nat.beq n 32 then kGrp w else 3):=by
 unfold getS kGrp
 rw [za5]
 by_cases h:n=32
 ·subst h;rfl
 ·have:Nat.beq n 32=false:=by cases hb:Nat.beq n 32 with | false=>rfl | true=>exact absurd (beq_t.1 hb) h
  rw [this,if_neg h];rfl
theorem ztz {f:FuncId} (hr:TRow prog f tGetE):TRow prog f tGetO:=by
 intro args r h
 unfold tGetO at h
 split at h
 case h_2=>simp at h
 rename_i t n g
 simp only [Option.some.injEq,Prod.mk.injEq] at h
 obtain ⟨hb,rfl⟩:=h
 refine hr _ _ ?_
 show some (areB (fun j=>g j 0) n 0,AV.tup [b32 (getS n (hval (fun j=>g j 0) n 0)).1,.sc (.int .i64 (getS n (hval (fun j=>g j 0) n 0)).2)])=_
 rw [hb,ztH]
theorem o_get:TRow prog F_suite_GetElement tGetO:=ztz zyQ
theorem o_exp:TRow prog F_suite_Exp tExpO:=by rw [zkU];exact r_exp
theorem zwI:TRow prog F_rimeref06_Exp tExpO:=by rw [zkU];exact zwH
theorem zx8:TRow prog F_edwards_MulBase tBaseO:=by rw [zio];exact ze3
theorem zva:TRow prog F_rimeref04_MulBase tBaseO:=by rw [zio];exact zf5
theorem o_mul:TRow prog F_edwards_Mul tEMulO:=by rw [zo1];exact zyq
theorem o_add:TRow prog F_edwards_Add tEAddO:=by rw [zoO];exact zyu
theorem zj5 {k:Int} (h0:0<k) (h1:k<ordL):kBase k=encP (nI k bP):=by
 rw [← zpa h0 h1]
 unfold kBase expS
 rw [za5,decide_eq_false (by omega)];rfl
theorem zn7 {k:Int} (h0:0<k) (h1:k<ordL):kExp k=encP (nI k bP):=by rw [← zpa h0 h1];unfold kExp;rw [za5]
theorem zrL (p q:EP):kAok (encP p) (encP q)=true∧kAdd (encP p) (encP q)=encP (p.add q):=by
 obtain ⟨h1,h2⟩:=zuX p q
 unfold kAok kAdd
 rw [za5,za5,h1,h2];exact ⟨rfl,rfl⟩
theorem zve {p:EP} (h1:p≠EP.zero) (h2:nL p=EP.zero):kGrp (encP p)=0:=by unfold kGrp;rw [za5];exact zxr h1 h2
theorem zjo (s:Int):0≤kBase s∧kBase s<R256:=by unfold kBase;rw [za5];exact zcN _
theorem ziv {b:Bool} {x:Int} (h:0≤x∧x<R256):0≤(bif b then x else 0)∧(bif b then x else 0)<R256:=by
 cases b with
 | true=>exact h
 | false=>exact ⟨Int.le_refl 0,show (0:Int)<R256 by decide⟩
theorem zlw (s w:Int):0≤kMul s w∧kMul s w<R256:=by unfold kMul;rw [za5];exact ziv (zcN _)
theorem zfI (u w:Int):0≤kAdd u w∧kAdd u w<R256:=by unfold kAdd;rw [za5];exact ziv (zcN _)
theorem zls (s:Int):0≤kExp s∧kExp s<R256:=by
 unfold kExp;rw [za5];unfold expS
 cases decide (s=0) with
 | true=>exact ⟨Int.le_refl 0,show (0:Int)<R256 by decide⟩
 | false=>exact zcN _
end Go.Proofs.YtplaklpfeabhiaaGreat
namespace Go.Proofs.YtplaklpfeabhiaaGreat
open Go.Proofs.Tryz
open Go Go.AM
noncomputable def vx0:List (Nat × TF):=[(F_suite_GetElement,tGetO),(F_rimeref02_Mul,tMul2),(F_rimeref02_Add,tAdd2)]
theorem VX0:LibOK prog tt vx0 []:=((L0.addT zsL).addT zsl).addT o_get
theorem zww (i:Int) (h:ckL [decide (i ≥ 1)==true]=true):Pure prog F_shamir_may [AV.sc (SV.int IntKind.i64 i)] (AV.sc (SV.bool (decide (i≤255)))) :=
 zad L0 at_shamir_may LsOK.nil (by kernel_rfl) (N:=5) (gs:=[(5,true)]) (Eq.trans (by kernel_rfl) (o1 h))
theorem zw1 (i:Int) (h:ckL [decide (i ≥ 1)==false]=true):Pure prog F_shamir_may [AV.sc (SV.int IntKind.i64 i)] (AV.sc (SV.bool false)) :=
 zad L0 at_shamir_may LsOK.nil (by kernel_rfl) (N:=5) (gs:=[(5,false)]) (Eq.trans (by kernel_rfl) (o1 h))
theorem zxG (i:Int) (h:ckL [decide (i ≥ 1)==true]=true):Pure prog F_vss_isID [AV.sc (SV.int IntKind.i64 i)] (AV.sc (SV.bool (decide (i≤255)))) :=
 zad L0 at_vss_isID LsOK.nil (by kernel_rfl) (N:=5) (gs:=[(5,true)]) (Eq.trans (by kernel_rfl) (o1 h))
theorem zwo (i:Int) (h:ckL [decide (i ≥ 1)==false]=true):Pure prog F_vss_isID [AV.sc (SV.int IntKind.i64 i)] (AV.sc (SV.bool false)) :=
 zad L0 at_vss_isID LsOK.nil (by kernel_rfl) (N:=5) (gs:=[(5,false)]) (Eq.trans (by kernel_rfl) (o1 h))
theorem zwF (i:Int) (h:ckL []=true):Pure prog F_rimeref02_FromInt [AV.sc (SV.int IntKind.u64 i)] (AV.agg [Seg.ints IntKind.u8 (32:Nat) (lf (tabL (fun j=>bif Nat.beq j (7:Nat) then wr IntKind.u8 (ishr IntKind.u64 i (56:Int)) else bif Nat.beq j (6:Nat) then wr IntKind.u8 (ishr IntKind.u64 i (48:Int)) else bif Nat.beq j (5:Nat) then wr IntKind.u8 (ishr IntKind.u64 i (40:Int)) else bif Nat.beq j (4:Nat) then wr IntKind.u8 (ishr IntKind.u64 i (32:Int)) else bif Nat.beq j (3:Nat) then wr IntKind.u8 (ishr IntKind.u64 i (24:Int)) else bif Nat.beq j 2 then wr IntKind.u8 (ishr IntKind.u64 i (16:Int)) else bif Nat.beq j (1:Nat) then wr IntKind.u8 (ishr IntKind.u64 i (8:Int)) else bif Nat.beq j (0:Nat) then wr IntKind.u8 (ishr IntKind.u64 i (0:Int)) else (0:Int)) (32:Nat) (0:Nat)))]) :=
 zad L0 at_rimeref02_FromInt LsOK.nil (by kernel_rfl) (N:=20) (gs:=[]) (Eq.trans (by kernel_rfl) (o1 h))
theorem zwJ (b:Nat→Int) (h:ckL [areB (fun j=>b (0+j*1)) 32 0]=true):Pure prog F_vss_isElement [u8s 32 b] (AV.sc (SV.bool (kGrp (hval (fun j=>b (0+j*1)) 32 0)==0))) :=
 zad VX0 at_vss_isElement LsOK.nil (by kernel_rfl) (N:=5) (gs:=[]) (Eq.trans (by kernel_rfl) (o1 h))
theorem zwa (a b c:Nat→Int) (h:ckL [areB a 32 0&&areB b 32 0,areB (lf (byL 32 (hval a 32 0*hval b 32 0 % ordL))) 32 0&&areB c 32 0]=true):Pure prog F_rimeref02_MulAdd [u8s 32 a,u8s 32 b,u8s 32 c] (AV.agg [Seg.ints IntKind.u8 32 (lf (byL 32 ((hval (lf (byL 32 (hval a 32 0*hval b 32 0 % ordL))) 32 0+hval c 32 0) % ordL)))]) :=
 zad VX0 at_rimeref02_MulAdd LsOK.nil (by kernel_rfl) (N:=5) (gs:=[]) (Eq.trans (by kernel_rfl) (o1 h))
theorem r_may:TRow prog F_shamir_may tIsIdn:=by
 intro args r h
 unfold tIsIdn at h
 split at h
 case h_2=>simp at h
 rename_i i
 simp only [Option.some.injEq,Prod.mk.injEq,true_and] at h
 subst h
 unfold isId
 cases hd:decide (i ≥ 1) with
 | true=>exact zww i (by rw [hd];rfl)
 | false=>exact zw1 i (by rw [hd];rfl)
theorem r_vid:TRow prog F_vss_isID tIsIdn:=by
 intro args r h
 unfold tIsIdn at h
 split at h
 case h_2=>simp at h
 rename_i i
 simp only [Option.some.injEq,Prod.mk.injEq,true_and] at h
 subst h
 unfold isId
 cases hd:decide (i ≥ 1) with
 | true=>exact zxG i (by rw [hd];rfl)
 | false=>exact zwo i (by rw [hd];rfl)
noncomputable def tIsElO:TF:=tIsElG kGrp
theorem ld01 (b:Nat→Int):(fun j=>b (0+j*1))=b:=by funext j;rw [Nat.zero_add,Nat.mul_one]
theorem r_vie:TRow prog F_vss_isElement tIsElO:=by
 intro args r h
 unfold tIsElO tIsElG at h
 split at h
 case h_2=>simp at h
 rename_i b
 simp only [Option.some.injEq,Prod.mk.injEq] at h
 obtain ⟨hb,rfl⟩:=h
 have e:=zwJ b
 rw [ld01,hb] at e
 exact e rfl
theorem znl:TRow prog F_rimeref02_MulAdd tMulAdd:=by
 intro args r h
 unfold tMulAdd at h
 split at h
 case h_2=>simp at h
 rename_i a b c
 simp only [Option.some.injEq,Prod.mk.injEq,Bool.and_eq_true] at h
 obtain ⟨⟨ha,hb,hc⟩,rfl⟩:=h
 have e:=zwa a b c
 rw [zjl,ha,hb,hc,za0,Int.emod_add_emod] at e
 exact e rfl
theorem zfP:TRow prog F_rimeref02_FromInt tFromInt:=by
 intro args r h
 unfold tFromInt at h
 split at h
 case h_2=>simp at h
 rename_i n
 simp only [Option.some.injEq,Prod.mk.injEq] at h
 obtain ⟨hb,rfl⟩:=h
 have e:=zwF n rfl
 have hn:0≤n∧n<18446744073709551616:=by simpa [inU] using hb
 have w:∀ k:Nat,k<8→wr .u8 (ishr .u64 n ((8*k:Nat):Int))=n / 2 ^ (8*k) % 256:=fun k hk=>zas k hk
 have w0:=w 0 (by omega);have w1:=w 1 (by omega);have w2:=w 2 (by omega);have w3:=w 3 (by omega)
 have w4:=w 4 (by omega);have w5:=w 5 (by omega);have w6:=w 6 (by omega);have w7:=w 7 (by omega)
 simp only [Nat.reduceMul,Int.reducePow,Int.cast_ofNat_Int] at w0 w1 w2 w3 w4 w5 w6 w7
 have w0:wr .u8 (ishr .u64 n (0:Int))=n % 256:=by simpa using w0
 rw [w0,w1,w2,w3,w4,w5,w6,w7] at e
 have key:∀ c,c<32→(fun j=>bif Nat.beq j 7 then n / 72057594037927936 % 256 else bif Nat.beq j 6 then n / 281474976710656 % 256 else bif Nat.beq j 5 then n / 1099511627776 % 256 else bif Nat.beq j 4 then n / 4294967296 % 256 else bif Nat.beq j 3 then n / 16777216 % 256 else bif Nat.beq j 2 then n / 65536 % 256 else bif Nat.beq j 1 then n / 256 % 256 else bif Nat.beq j 0 then n % 256 else (0:Int)) c=lf (byL 32 n) c:=fun c hc=>by
  rw [zhD 32 n c hc]
  by_cases h8:c<8
  ·match c,h8 with
   | 0,_=>show n % 256=n / 256 ^ 0 % 256;rw [Int.pow_zero,Int.ediv_one]
   | 1,_ | 2,_ | 3,_ | 4,_ | 5,_ | 6,_ | 7,_=>rfl
  ·have b:∀ m:Nat,m<8→Nat.beq c m=false:=fun m hm=>by cases hb:Nat.beq c m with | false=>rfl | true=>have:=beq_t.1 hb;omega
   dsimp only
   rw [b 7 (by omega),b 6 (by omega),b 5 (by omega),b 4 (by omega),b 3 (by omega),b 2 (by omega),b 1 (by omega),b 0 (by omega)]
   dsimp only [cond_false]
   have z:(256:Int) ^ 8≤256 ^ c:=by
    have:(256:Nat) ^ 8≤256 ^ c:=Nat.pow_le_pow_right (by omega) (by omega)
    have h2:=Int.ofNat_le.2 this
    rw [Int.natCast_pow,Int.natCast_pow] at h2
    exact h2
   rw [Int.ediv_eq_zero_of_lt hn.1 (Int.lt_of_lt_of_le hn.2 z)];first | done | rfl
 rw [zdc (g:=lf (byL 32 n)) 32 0 (fun c hc=>by rw [Nat.zero_add];exact key c hc),zoW (zb9 32 n)] at e
 exact e
end Go.Proofs.YtplaklpfeabhiaaGreat
namespace Go.Proofs.YtplaklpfeabhiaaGreat
open Go.Proofs.Tryz
open Go Go.AM
noncomputable def vp0:List (Nat × TF):=[(F_scalar_FromInt,tFromInt),(F_rimeref02_FromInt,tFromInt)]
theorem VP0:LibOK prog tt vp0 []:=(L0.addT zfP).addT zhY
def tPlace:TF:=fun args=>match args with
 | [.sc (.int .i64 i)]=>some (isId i,b32 i)
 | _=>none
theorem c_pl:fnChk prog (envP tt vp0 []) f_shamir_place=true:=by kernel_rfl
theorem c_pl2:fnChk prog (envP tt vp0 []) f_rimeref07_Place=true:=by kernel_rfl
theorem k_pl (i:Int):outP (apFunc (envP tt vp0 []) [] 5 f_shamir_place [.sc (.int .i64 i)] [])=some (ckL [inU (wr .u64 i)],b32 (wr .u64 i)):=by kernel_rfl
theorem k_pl2 (i:Int):outP (apFunc (envP tt vp0 []) [] 5 f_rimeref07_Place [.sc (.int .i64 i)] [])=some (ckL [inU (wr .u64 i)],b32 (wr .u64 i)):=by kernel_rfl
theorem zka {i:Int} (h:isId i=true):1≤i∧i≤255:=by simpa [isId] using h
theorem pl_in {i:Int} (h:isId i=true):wr .u64 i=i∧inU i=true:=by
 have:=zka h
 refine ⟨?_,by simp [inU];omega⟩
 show IntKind.wrap .u64 i=i
 simp only [IntKind.wrap,IntKind.bits,IntKind.signed]
 simp;omega
theorem r_pl:TRow prog F_shamir_place tPlace:=by
 intro args r h
 unfold tPlace at h
 split at h
 case h_2=>simp at h
 rename_i i
 simp only [Option.some.injEq,Prod.mk.injEq] at h
 obtain ⟨hb,rfl⟩:=h
 refine zab VP0 at_shamir_place c_pl (N:=5) (gs:=[]) ?_
 rw [k_pl,(pl_in hb).1,(pl_in hb).2];rfl
theorem r_pl2:TRow prog F_rimeref07_Place tPlace:=by
 intro args r h
 unfold tPlace at h
 split at h
 case h_2=>simp at h
 rename_i i
 simp only [Option.some.injEq,Prod.mk.injEq] at h
 obtain ⟨hb,rfl⟩:=h
 refine zab VP0 at_rimeref07_Place c_pl2 (N:=5) (gs:=[]) ?_
 rw [k_pl2,(pl_in hb).1,(pl_in hb).2];rfl
noncomputable def vt0:List (Nat × TF):=[(F_shamir_may,tIsIdn),(F_vss_isID,tIsIdn),(F_scalar_FromInt,tFromInt),(F_rimeref02_FromInt,tFromInt),(F_shamir_place,tPlace),(F_rimeref07_Place,tPlace),
 (F_scalar_MulAdd,tMulAdd),(F_rimeref02_MulAdd,tMulAdd),(F_rimeref02_Mul,tMul2),(F_scalar_Add,tAdd),(F_rimeref02_Add,tAdd2),(F_scalar_IsZero,tIsZero),(F_rimeref02_IsZero,tIsZero),(F_scalar_Canonical,tCanon),
 (F_suite_Exp,tExpO),(F_rimeref06_Exp,tExpO),(F_edwards_MulBase,tBaseO),(F_rimeref04_MulBase,tBaseO),(F_edwards_Mul,tEMulO),(F_edwards_Add,tEAddO),(F_edwards_Identity,tIdentity),
 (F_vss_isElement,tIsElO),(F_shamir_Eval,tEval)]
theorem VT0:LibOK prog tt vt0 []:=(((((((((((((((((((((((((((((((((((L0.addT zyJ))))).addT r_vie)))).addT zd3)).addT o_add)).addT o_mul).addT zva).addT zx8).addT zwI).addT o_exp)).addT znQ).addT zoE).addT zhm).addT zsL).addT r_add).addT zsl)).addT znl).addT zky).addT r_pl2).addT r_pl).addT zfP).addT zhY)).addT r_vid).addT r_may)
end Go.Proofs.YtplaklpfeabhiaaGreat
namespace Go.Proofs.YtplaklpfeabhiaaGreat
open Go.Proofs.Tryz
open Go Go.AM
noncomputable def reB:Code:=match Func.body f_rimeref07_Eval with | some c=>(match bodiesOf 0 c with | [.loop b]=>b | _=>.skip) | none=>.skip
theorem zi2:(Func.body f_rimeref07_Eval).map (bodiesOf 0)=some [.loop reB]:=by kernel_rfl
theorem re_ok:codeOK prog (EnvP.env (envL tt vt0 [] [])).isW reB=true:=by kernel_rfl
def reS (t:Bool) (n:Nat) (f:Nat→Nat→Int) (x:Nat→Int) (i1:Int) (x1:Nat→Int):St:=⟨tmOf [(0,AV.sc (SV.vints t IntKind.u8 32 n f)),(3,AV.sc (SV.ptr 0 32 0 0 32)),(4,AV.sc (SV.ptr 1 32 0 0 32)),(5,AV.sc (SV.ptr 2 32 0 0 32)),(6,AV.sc (SV.int IntKind.i64 i1))] 22 0,[some (Blk.ints IntKind.u8 32 1 fun r=>x),some (Blk.ints IntKind.u8 32 1 fun r d=>0),some (Blk.ints IntKind.u8 32 1 fun r=>x1)]⟩
noncomputable def zhj (t:Bool) (n:Nat) (f:Nat→Nat→Int) (x:Nat→Int) (i1:Int) (x1:Nat→Int):Nat→Int:=lf (byL 32 ((hval x1 32 0*hval x 32 0+hval (f (Int.toNat i1)) 32 0) % ordL))
def reT1 (x x1:Nat→Int):St:=⟨tmOf [(4,(AV.sc (SV.ptr 1 32 0 0 32))),(5,(AV.sc (SV.ptr 2 32 0 0 32)))] 22 0,[some (Blk.ints IntKind.u8 32 1 (fun _=>x)),some (Blk.ints IntKind.u8 32 1 (fun _=>(fun d=>0))),some (Blk.ints IntKind.u8 32 1 (fun _=>x1))]⟩
inductive reO where
 | e1 (x x1:Nat→Int)
def reex:reO→Ex
 | .e1 ..=>.normal
def reT:reO→St
 | .e1 x x1=>reT1 x x1
noncomputable def rerun (t:Bool) (n:Nat) (f:Nat→Nat→Int) (x:Nat→Int):Nat→(Int)→(Nat→Int)→Option reO
 | 0,_,_=>none
 | m_+1,i1,x1=>bif ckL [decide (i1 ≥ 0)==true,inR i1 n,areB x1 32 0&&(areB x 32 0&&areB (f (Int.toNat i1)) 32 0)] then rerun t n f x m_ (wr IntKind.i64 (i1 - 1)) (zhj t n f x i1 x1)
  else bif ckL [decide (i1 ≥ 0)==false] then some (.e1 (x) (x1))
  else none
theorem req (t:Bool) (n:Nat) (f:Nat→Nat→Int) (x:Nat→Int):∀ (m_:Nat) (i1:Int) (x1:Nat→Int) (o_:reO),rerun t n f x m_ i1 x1=some o_→∃ e1,leave 0 e1=some (reex o_)∧Runs prog 5 3 reB (reS t n f x i1 x1) e1 (reT o_):=by
 intro m_
 induction m_ with
 | zero=>intro i1 x1 o_ h;cases h
 | succ m_ ih =>
  intro i1 x1 o_ h
  rw [rerun] at h
  rcases bifS h with ⟨h1,h⟩ | ⟨_,h⟩
  ·obtain ⟨e1,q1,q2⟩:=ih _ _ o_ h
   exact ⟨e1,q1,.step (Rd.of_round VT0 LsOK.nil zi2 re_ok (gs:=[(11,true)]) (N:=5) (n:=3) (zs:=[]) (l:=[]) (keep:=[0,3,4,5,6]) (bs:=[.one,.one,.one]) (by kernel_rfl) h1 rfl) (Nat.le_of_ble_eq_true rfl) q2⟩
  rcases bifS h with ⟨h1,h⟩ | ⟨_,h⟩
  ·obtain rfl:=Option.some.inj h
   exact ⟨(.exit 0),rfl,.stop (Rd.of_round VT0 LsOK.nil zi2 re_ok (gs:=[(11,false)]) (N:=5) (n:=3) (zs:=[]) (l:=[]) (keep:=[4,5]) (bs:=[.one,.one,.one]) (by kernel_rfl) h1 rfl)⟩
  cases h
theorem reL (t:Bool) (n:Nat) (f:Nat→Nat→Int) (x:Nat→Int) {l_:List Nat} {m_:Nat} {i1:Int} {x1:Nat→Int} {o_:reO} (h:rerun t n f x m_ i1 x1=some o_):LRow prog f_rimeref07_Eval 0 (famV 3 l_ (reS t n f x i1 x1) (reex o_) (reT o_)):=LRow.runs mix zi2 rfl (req t n f x m_ i1 x1 o_ h)
noncomputable def vcB:Code:=match Func.body f_vss_Commit with | some c=>(match bodiesOf 0 c with | [.loop b]=>b | _=>.skip) | none=>.skip
theorem zhn:(Func.body f_vss_Commit).map (bodiesOf 0)=some [.loop vcB]:=by kernel_rfl
theorem vc_ok:codeOK prog (EnvP.env (envL tt vt0 [] [])).isW vcB=true:=by kernel_rfl
def vcS (t:Bool) (n:Nat) (f:Nat→Nat→Int) (i1:Int) (k1:Nat) (D1:Nat→Nat→Int):St:=⟨tmOf [(4,AV.sc (SV.slice 0 32 0 0 32 k1)),(17,AV.sc (SV.vints t IntKind.u8 32 n f)),(18,AV.sc (SV.int IntKind.i64 (n:Int))),(19,AV.sc (SV.int IntKind.i64 i1))] 36 0,[some (Blk.ints IntKind.u8 32 k1 D1)]⟩
def vcT1 :St:=⟨tmOf [(2,(AV.sc (SV.nils))),(3,(AV.sc (SV.int IntKind.i64 (9))))] 36 0,[]⟩
noncomputable def zko (t:Bool) (n:Nat) (f:Nat→Nat→Int) (i1:Int) (k1:Nat) (D1:Nat→Nat→Int):Nat→Nat→Int:=fun r d=>bif Nat.ble (r+(1:Nat)) k1 then D1 r d else svInt (cellAt (List.getD [[Seg.ints IntKind.u8 (32:Nat) (lf (byL (32:Nat) (kExp (hval (f (Int.toNat i1)) (32:Nat) (0:Nat) % (ordL:Int)))))]] (r - k1) []) d)
def vcT2 (k1:Nat) (D1:Nat→Nat→Int):St:=⟨tmOf [(4,(AV.sc (SV.slice 0 32 (0) (0) 32 k1)))] 36 0,[some (Blk.ints IntKind.u8 32 k1 D1)]⟩
inductive vcO where
 | e1 
 | e2 (k1:Nat) (D1:Nat→Nat→Int)
def vcex:vcO→Ex
 | .e1 ..=>.ret
 | .e2 ..=>.normal
def vcT:vcO→St
 | .e1=>vcT1
 | .e2 k1 D1=>vcT2 k1 D1
noncomputable def vcrun (t:Bool) (n:Nat) (f:Nat→Nat→Int):Nat→(Int)→(Nat)→(Nat→Nat→Int)→Option vcO
 | 0,_,_,_=>none
 | m_+1,i1,k1,D1=>bif ckL [decide (i1<(n:Int))==true,inR i1 n,areB (f (Int.toNat i1)) 32 0,((bif decide (hval (f (Int.toNat i1)) (32:Nat) (0:Nat) % (ordL:Int)=(0:Int)) then (9:Int) else (0:Int)) != (0:Int))==true] then some (.e1 )
  else bif ckL [decide (i1<(n:Int))==true,inR i1 n,areB (f (Int.toNat i1)) 32 0,((bif decide (hval (f (Int.toNat i1)) (32:Nat) (0:Nat) % (ordL:Int)=(0:Int)) then (9:Int) else (0:Int)) != (0:Int))==false,fits (k1+1) 32&&true] then vcrun t n f m_ (wr IntKind.i64 (i1+1)) (k1+1) (zko t n f i1 k1 D1)
  else bif ckL [decide (i1<(n:Int))==false] then some (.e2 (k1) (D1))
  else none
theorem vcq (t:Bool) (n:Nat) (f:Nat→Nat→Int):∀ (m_:Nat) (i1:Int) (k1:Nat) (D1:Nat→Nat→Int) (o_:vcO),vcrun t n f m_ i1 k1 D1=some o_→∃ e1,leave 0 e1=some (vcex o_)∧Runs prog 5 0 vcB (vcS t n f i1 k1 D1) e1 (vcT o_):=by
 intro m_
 induction m_ with
 | zero=>intro i1 k1 D1 o_ h;cases h
 | succ m_ ih =>
  intro i1 k1 D1 o_ h
  rw [vcrun] at h
  rcases bifS h with ⟨h1,h⟩ | ⟨_,h⟩
  ·obtain rfl:=Option.some.inj h
   exact ⟨.ret,rfl,.stop (Rd.of_round VT0 LsOK.nil zhn vc_ok (gs:=[(20,true),(29,true)]) (N:=5) (n:=0) (zs:=[]) (l:=[]) (keep:=[2,3]) (bs:=[]) (by kernel_rfl) h1 rfl)⟩
  rcases bifS h with ⟨h1,h⟩ | ⟨_,h⟩
  ·obtain ⟨e1,q1,q2⟩:=ih _ _ _ o_ h
   exact ⟨e1,q1,.step (Rd.of_round VT0 LsOK.nil zhn vc_ok (gs:=[(20,true),(29,false)]) (N:=5) (n:=0) (zs:=[]) (l:=[4]) (keep:=[4,17,18,19]) (bs:=[.keep]) (by kernel_rfl) h1 rfl) (Nat.le_of_ble_eq_true rfl) q2⟩
  rcases bifS h with ⟨h1,h⟩ | ⟨_,h⟩
  ·obtain rfl:=Option.some.inj h
   exact ⟨(.exit 0),rfl,.stop (Rd.of_round VT0 LsOK.nil zhn vc_ok (gs:=[(20,false)]) (N:=5) (n:=0) (zs:=[]) (l:=[0]) (keep:=[4]) (bs:=[.keep]) (by kernel_rfl) h1 rfl)⟩
  cases h
theorem vcL (t:Bool) (n:Nat) (f:Nat→Nat→Int) {l_:List Nat} {m_:Nat} {i1:Int} {k1:Nat} {D1:Nat→Nat→Int} {o_:vcO} (h:vcrun t n f m_ i1 k1 D1=some o_):LRow prog f_vss_Commit 0 (famV 0 l_ (vcS t n f i1 k1 D1) (vcex o_) (vcT o_)):=LRow.runs mix zhn rfl (vcq t n f m_ i1 k1 D1 o_ h)
noncomputable def ccB:Code:=match Func.body f_vss_CheckCommits with | some c=>(match bodiesOf 0 c with | [.loop b]=>b | _=>.skip) | none=>.skip
theorem zgz:(Func.body f_vss_CheckCommits).map (bodiesOf 0)=some [.loop ccB]:=by kernel_rfl
theorem cc_ok:codeOK prog (EnvP.env (envL tt vt0 [] [])).isW ccB=true:=by kernel_rfl
def ccS (t:Bool) (n:Nat) (f:Nat→Nat→Int) (i1:Int):St:=⟨tmOf [(13,AV.sc (SV.vints t IntKind.u8 32 n f)),(14,AV.sc (SV.int IntKind.i64 (n:Int))),(15,AV.sc (SV.int IntKind.i64 i1))] 23 0,[]⟩
def ccT1 :St:=⟨tmOf [(2,(AV.sc (SV.int IntKind.i64 (91))))] 23 0,[]⟩
def ccT2 :St:=⟨tmOf [] 23 0,[]⟩
inductive ccO where
 | e1 
 | e2 
def ccex:ccO→Ex
 | .e1 ..=>.ret
 | .e2 ..=>.normal
def ccT:ccO→St
 | .e1=>ccT1
 | .e2=>ccT2
noncomputable def ccrun (t:Bool) (n:Nat) (f:Nat→Nat→Int):Nat→(Int)→Option ccO
 | 0,_=>none
 | m_+1,i1=>bif ckL [decide (i1<(n:Int))==true,inR i1 n,areB (f (Int.toNat i1)) 32 0,(!kGrp (hval (f (Int.toNat i1)) 32 0)==0)==true] then some (.e1 )
  else bif ckL [decide (i1<(n:Int))==true,inR i1 n,areB (f (Int.toNat i1)) 32 0,(!kGrp (hval (f (Int.toNat i1)) 32 0)==0)==false] then ccrun t n f m_ (wr IntKind.i64 (i1+1))
  else bif ckL [decide (i1<(n:Int))==false] then some (.e2 )
  else none
theorem ccq (t:Bool) (n:Nat) (f:Nat→Nat→Int):∀ (m_:Nat) (i1:Int) (o_:ccO),ccrun t n f m_ i1=some o_→∃ e1,leave 0 e1=some (ccex o_)∧Runs prog 5 0 ccB (ccS t n f i1) e1 (ccT o_):=by
 intro m_
 induction m_ with
 | zero=>intro i1 o_ h;cases h
 | succ m_ ih =>
  intro i1 o_ h
  rw [ccrun] at h
  rcases bifS h with ⟨h1,h⟩ | ⟨_,h⟩
  ·obtain rfl:=Option.some.inj h
   exact ⟨.ret,rfl,.stop (Rd.of_round VT0 LsOK.nil zgz cc_ok (gs:=[(16,true),(21,true)]) (N:=5) (n:=0) (zs:=[]) (l:=[]) (keep:=[2]) (bs:=[]) (by kernel_rfl) h1 rfl)⟩
  rcases bifS h with ⟨h1,h⟩ | ⟨_,h⟩
  ·obtain ⟨e1,q1,q2⟩:=ih _ o_ h
   exact ⟨e1,q1,.step (Rd.of_round VT0 LsOK.nil zgz cc_ok (gs:=[(16,true),(21,false)]) (N:=5) (n:=0) (zs:=[]) (l:=[]) (keep:=[13,14,15]) (bs:=[]) (by kernel_rfl) h1 rfl) (Nat.le_of_ble_eq_true rfl) q2⟩
  rcases bifS h with ⟨h1,h⟩ | ⟨_,h⟩
  ·obtain rfl:=Option.some.inj h
   exact ⟨(.exit 0),rfl,.stop (Rd.of_round VT0 LsOK.nil zgz cc_ok (gs:=[(16,false)]) (N:=5) (n:=0) (zs:=[]) (l:=[]) (keep:=[]) (bs:=[]) (by kernel_rfl) h1 rfl)⟩
  cases h
theorem ccL (t:Bool) (n:Nat) (f:Nat→Nat→Int) {l_:List Nat} {m_:Nat} {i1:Int} {o_:ccO} (h:ccrun t n f m_ i1=some o_):LRow prog f_vss_CheckCommits 0 (famV 0 l_ (ccS t n f i1) (ccex o_) (ccT o_)):=LRow.runs mix zgz rfl (ccq t n f m_ i1 o_ h)
noncomputable def rcoB:Code:=match Func.body f_rimeref08_Commit with | some c=>(match bodiesOf 0 c with | [.loop b]=>b | _=>.skip) | none=>.skip
theorem zeD:(Func.body f_rimeref08_Commit).map (bodiesOf 0)=some [.loop rcoB]:=by kernel_rfl
theorem znO:codeOK prog (EnvP.env (envL tt vt0 [] [])).isW rcoB=true:=by kernel_rfl
def rcoS (t:Bool) (n:Nat) (f:Nat→Nat→Int) (i1:Int):St:=⟨tmOf [(0,AV.sc (SV.vints t IntKind.u8 32 n f)),(4,AV.sc SV.nils),(5,AV.sc (SV.int IntKind.i64 i1))] 47 0,[]⟩
def rcoT1 :St:=⟨tmOf [(2,(AV.sc (SV.nils))),(3,(AV.sc (SV.int IntKind.i64 (9))))] 47 0,[]⟩
def rcoT2 (t:Bool) (n:Nat) (f:Nat→Nat→Int):St:=⟨tmOf [(0,(AV.sc (SV.vints t IntKind.u8 32 n f))),(4,(AV.sc (SV.nils)))] 47 0,[]⟩
inductive rcoO where
 | e1 
 | e2 (t:Bool) (n:Nat) (f:Nat→Nat→Int)
def rcoex:rcoO→Ex
 | .e1 ..=>.ret
 | .e2 ..=>.normal
def rcoT:rcoO→St
 | .e1=>rcoT1
 | .e2 t n f=>rcoT2 t n f
noncomputable def rcorun (t:Bool) (n:Nat) (f:Nat→Nat→Int):Nat→(Int)→Option rcoO
 | 0,_=>none
 | m_+1,i1=>bif ckL [decide (i1<(n:Int))==true,inR i1 n,areB (f (Int.toNat i1)) 32 0&&decide (hval (f (Int.toNat i1)) 32 0 % ordL=0)==true] then some (.e1 )
  else bif ckL [decide (i1<(n:Int))==true,inR i1 n,areB (f (Int.toNat i1)) 32 0&&decide (hval (f (Int.toNat i1)) 32 0 % ordL=0)==false] then rcorun t n f m_ (wr IntKind.i64 (i1+1))
  else bif ckL [decide (i1<(n:Int))==false] then some (.e2 (t) (n) (f))
  else none
theorem rcoq (t:Bool) (n:Nat) (f:Nat→Nat→Int):∀ (m_:Nat) (i1:Int) (o_:rcoO),rcorun t n f m_ i1=some o_→∃ e1,leave 0 e1=some (rcoex o_)∧Runs prog 5 0 rcoB (rcoS t n f i1) e1 (rcoT o_):=by
 intro m_
 induction m_ with
 | zero=>intro i1 o_ h;cases h
 | succ m_ ih =>
  intro i1 o_ h
  rw [rcorun] at h
  rcases bifS h with ⟨h1,h⟩ | ⟨_,h⟩
  ·obtain rfl:=Option.some.inj h
   exact ⟨.ret,rfl,.stop (Rd.of_round VT0 LsOK.nil zeD znO (gs:=[(20,true),(27,true)]) (N:=5) (n:=0) (zs:=[]) (l:=[]) (keep:=[2,3]) (bs:=[]) (by kernel_rfl) h1 rfl)⟩
  rcases bifS h with ⟨h1,h⟩ | ⟨_,h⟩
  ·obtain ⟨e1,q1,q2⟩:=ih _ o_ h
   exact ⟨e1,q1,.step (Rd.of_round VT0 LsOK.nil zeD znO (gs:=[(20,true),(27,false)]) (N:=5) (n:=0) (zs:=[]) (l:=[]) (keep:=[0,4,5]) (bs:=[]) (by kernel_rfl) h1 rfl) (Nat.le_of_ble_eq_true rfl) q2⟩
  rcases bifS h with ⟨h1,h⟩ | ⟨_,h⟩
  ·obtain rfl:=Option.some.inj h
   exact ⟨(.exit 0),rfl,.stop (Rd.of_round VT0 LsOK.nil zeD znO (gs:=[(20,false)]) (N:=5) (n:=0) (zs:=[]) (l:=[]) (keep:=[0,4]) (bs:=[]) (by kernel_rfl) h1 rfl)⟩
  cases h
theorem rcoL (t:Bool) (n:Nat) (f:Nat→Nat→Int) {l_:List Nat} {m_:Nat} {i1:Int} {o_:rcoO} (h:rcorun t n f m_ i1=some o_):LRow prog f_rimeref08_Commit 0 (famV 0 l_ (rcoS t n f i1) (rcoex o_) (rcoT o_)):=LRow.runs mix zeD rfl (rcoq t n f m_ i1 o_ h)
noncomputable def at_B:Code:=match Func.body f_vss_at with | some c=>(match bodiesOf 0 c with | [.loop b]=>b | _=>.skip) | none=>.skip
theorem at__body:(Func.body f_vss_at).map (bodiesOf 0)=some [.loop at_B]:=by kernel_rfl
theorem at__ok:codeOK prog (EnvP.env (envL tt vt0 [] [])).isW at_B=true:=by kernel_rfl
def at_S (t:Bool) (n:Nat) (f:Nat→Nat→Int) (i i1:Int) (x1:Nat→Int):St:=⟨tmOf [(0,AV.sc (SV.vints t IntKind.u8 32 n f)),(4,AV.sc (SV.ptr 0 32 0 0 32)),(5,AV.sc (SV.ptr 1 32 0 0 32)),(6,AV.sc (SV.ptr 2 32 0 0 32)),(13,AV.sc (SV.int IntKind.i64 (n:Int))),(14,AV.sc (SV.int IntKind.i64 i1))] 38 0,[some (Blk.ints IntKind.u8 32 1 fun r d=>0),some (Blk.ints IntKind.u8 32 1 fun r=>lf (byL 32 (wr IntKind.u64 i))),some (Blk.ints IntKind.u8 32 1 fun r=>x1)]⟩
noncomputable def at__n1_x1 (t:Bool) (n:Nat) (f:Nat→Nat→Int) (i i1:Int) (x1:Nat→Int):Nat→Int:=lf (byL 32 (kAdd (hval (lf (byL 32 (kMul (hval (lf (byL 32 (wr IntKind.u64 i))) 32 0) (hval x1 32 0)))) 32 0) (hval (f (Int.toNat (wr IntKind.i64 (wr IntKind.i64 ((n:Int) - 1) - i1)))) 32 0)))
def at_T1 (y1 x1:Nat→Int):St:=⟨tmOf [(4,(AV.sc (SV.ptr 0 32 0 0 32))),(6,(AV.sc (SV.ptr 2 32 0 0 32)))] 38 0,[some (Blk.ints IntKind.u8 32 1 (fun _=>(fun d=>0))),some (Blk.ints IntKind.u8 32 1 (fun _=>y1)),some (Blk.ints IntKind.u8 32 1 (fun _=>x1))]⟩
inductive at_O where
 | e1 (y1 x1:Nat→Int)
def at_ex:at_O→Ex
 | .e1 ..=>.normal
def at_T:at_O→St
 | .e1 y1 x1=>at_T1 y1 x1
noncomputable def at_run (t:Bool) (n:Nat) (f:Nat→Nat→Int) (i:Int):Nat→(Int)→(Nat→Int)→Option at_O
 | 0,_,_=>none
 | m_+1,i1,x1=>bif ckL [decide (i1<(n:Int))==true,areB x1 32 0&&areB (lf (byL 32 (wr IntKind.u64 i))) 32 0,inR (wr IntKind.i64 (wr IntKind.i64 ((n:Int) - 1) - i1)) n,areB (lf (byL 32 (kMul (hval (lf (byL 32 (wr IntKind.u64 i))) 32 0) (hval x1 32 0)))) 32 0&&areB (f (Int.toNat (wr IntKind.i64 (wr IntKind.i64 ((n:Int) - 1) - i1)))) 32 0] then at_run t n f i m_ (wr IntKind.i64 (i1+1)) (at__n1_x1 t n f i i1 x1)
  else bif ckL [decide (i1<(n:Int))==false] then some (.e1 (lf (byL 32 (wr IntKind.u64 i))) (x1))
  else none
theorem at_q (t:Bool) (n:Nat) (f:Nat→Nat→Int) (i:Int):∀ (m_:Nat) (i1:Int) (x1:Nat→Int) (o_:at_O),at_run t n f i m_ i1 x1=some o_→∃ e1,leave 0 e1=some (at_ex o_)∧Runs prog 5 3 at_B (at_S t n f i i1 x1) e1 (at_T o_):=by
 intro m_
 induction m_ with
 | zero=>intro i1 x1 o_ h;cases h
 | succ m_ ih =>
  intro i1 x1 o_ h
  rw [at_run] at h
  rcases bifS h with ⟨h1,h⟩ | ⟨_,h⟩
  ·obtain ⟨e1,q1,q2⟩:=ih _ _ o_ h
   exact ⟨e1,q1,.step (Rd.of_round VT0 LsOK.nil at__body at__ok (gs:=[(15,true)]) (N:=5) (n:=3) (zs:=[]) (l:=[]) (keep:=[0,4,5,6,13,14]) (bs:=[.one,.one,.one]) (by kernel_rfl) h1 rfl) (Nat.le_of_ble_eq_true rfl) q2⟩
  rcases bifS h with ⟨h1,h⟩ | ⟨_,h⟩
  ·obtain rfl:=Option.some.inj h
   exact ⟨(.exit 0),rfl,.stop (Rd.of_round VT0 LsOK.nil at__body at__ok (gs:=[(15,false)]) (N:=5) (n:=3) (zs:=[]) (l:=[]) (keep:=[4,6]) (bs:=[.one,.one,.one]) (by kernel_rfl) h1 rfl)⟩
  cases h
theorem at_L (t:Bool) (n:Nat) (f:Nat→Nat→Int) (i:Int) {l_:List Nat} {m_:Nat} {i1:Int} {x1:Nat→Int} {o_:at_O} (h:at_run t n f i m_ i1 x1=some o_):LRow prog f_vss_at 0 (famV 3 l_ (at_S t n f i i1 x1) (at_ex o_) (at_T o_)):=LRow.runs mix at__body rfl (at_q t n f i m_ i1 x1 o_ h)
end Go.Proofs.YtplaklpfeabhiaaGreat
namespace Go.Proofs.YtplaklpfeabhiaaGreat
open Go.Proofs.Tryz
open Go Go.AM
noncomputable def rcpB:Code:=match Func.body f_rimeref08_Commit with | some c=>(match bodiesOf 2 c with | [.loop b]=>b | _=>.skip) | none=>.skip
theorem zgU:(Func.body f_rimeref08_Commit).map (bodiesOf 2)=some [.loop rcpB]:=by kernel_rfl
theorem zsP:codeOK prog (EnvP.env (envL tt vt0 [] [])).isW rcpB=true:=by kernel_rfl
def rcpS (t:Bool) (n:Nat) (f:Nat→Nat→Int) (i1:Int) (k1:Nat) (D1:Nat→Nat→Int):St:=⟨tmOf [(0,AV.sc (SV.vints t IntKind.u8 32 n f)),(4,AV.sc (SV.slice 0 32 0 0 32 k1)),(6,AV.sc (SV.int IntKind.i64 i1))] 47 0,[some (Blk.ints IntKind.u8 32 k1 D1)]⟩
noncomputable def ziw (t:Bool) (n:Nat) (f:Nat→Nat→Int) (i1:Int) (k1:Nat) (D1:Nat→Nat→Int):Nat→Nat→Int:=fun r d=>bif Nat.ble (r+(1:Nat)) k1 then D1 r d else svInt (cellAt (List.getD [[Seg.ints IntKind.u8 (32:Nat) (lf (byL (32:Nat) (kExp (hval (f (Int.toNat i1)) (32:Nat) (0:Nat) % (ordL:Int)))))]] (r - k1) []) d)
def rcpT1 (k1:Nat) (D1:Nat→Nat→Int):St:=⟨tmOf [(4,(AV.sc (SV.slice 0 32 (0) (0) 32 k1)))] 47 0,[some (Blk.ints IntKind.u8 32 k1 D1)]⟩
inductive rcpO where
 | e1 (k1:Nat) (D1:Nat→Nat→Int)
def rcpex:rcpO→Ex
 | .e1 ..=>.normal
def rcpT:rcpO→St
 | .e1 k1 D1=>rcpT1 k1 D1
noncomputable def rcprun (t:Bool) (n:Nat) (f:Nat→Nat→Int):Nat→(Int)→(Nat)→(Nat→Nat→Int)→Option rcpO
 | 0,_,_,_=>none
 | m_+1,i1,k1,D1=>bif ckL [decide (i1<(n:Int))==true,inR i1 n,areB (f (Int.toNat i1)) 32 0,fits (k1+1) 32&&true] then rcprun t n f m_ (wr IntKind.i64 (i1+1)) (k1+1) (ziw t n f i1 k1 D1)
  else bif ckL [decide (i1<(n:Int))==false] then some (.e1 (k1) (D1))
  else none
theorem rcpq (t:Bool) (n:Nat) (f:Nat→Nat→Int):∀ (m_:Nat) (i1:Int) (k1:Nat) (D1:Nat→Nat→Int) (o_:rcpO),rcprun t n f m_ i1 k1 D1=some o_→∃ e1,leave 2 e1=some (rcpex o_)∧Runs prog 5 0 rcpB (rcpS t n f i1 k1 D1) e1 (rcpT o_):=by
 intro m_
 induction m_ with
 | zero=>intro i1 k1 D1 o_ h;cases h
 | succ m_ ih =>
  intro i1 k1 D1 o_ h
  rw [rcprun] at h
  rcases bifS h with ⟨h1,h⟩ | ⟨_,h⟩
  ·obtain ⟨e1,q1,q2⟩:=ih _ _ _ o_ h
   exact ⟨e1,q1,.step (Rd.of_round VT0 LsOK.nil zgU zsP (gs:=[(31,true)]) (N:=5) (n:=0) (zs:=[]) (l:=[3]) (keep:=[0,4,6]) (bs:=[.keep]) (by kernel_rfl) h1 rfl) (Nat.le_of_ble_eq_true rfl) q2⟩
  rcases bifS h with ⟨h1,h⟩ | ⟨_,h⟩
  ·obtain rfl:=Option.some.inj h
   exact ⟨(.exit 2),rfl,.stop (Rd.of_round VT0 LsOK.nil zgU zsP (gs:=[(31,false)]) (N:=5) (n:=0) (zs:=[]) (l:=[0]) (keep:=[4]) (bs:=[.keep]) (by kernel_rfl) h1 rfl)⟩
  cases h
theorem rcpL (t:Bool) (n:Nat) (f:Nat→Nat→Int) {l_:List Nat} {m_:Nat} {i1:Int} {k1:Nat} {D1:Nat→Nat→Int} {o_:rcpO} (h:rcprun t n f m_ i1 k1 D1=some o_):LRow prog f_rimeref08_Commit 2 (famV 0 l_ (rcpS t n f i1 k1 D1) (rcpex o_) (rcpT o_)):=LRow.runs mix zgU rfl (rcpq t n f m_ i1 k1 D1 o_ h)
theorem zpX (t:Bool) (n:Nat) (f:Nat→Nat→Int) (x x_1 x1:Nat→Int):stZ [] (rnm 3 []) { tm:=tmOf [(0,AV.sc (SV.vints t IntKind.u8 32 n f)),(3,AV.sc (SV.ptr 0 32 0 0 32)),(4,AV.sc (SV.ptr 1 32 0 0 32)),(5,AV.sc (SV.ptr 2 32 0 0 32)),(6,AV.sc (SV.int IntKind.i64 (wr IntKind.i64 ((n:Int) - 1))))] 22 0,hp:=[some (Blk.ints IntKind.u8 32 1 fun j=>x),some (Blk.ints IntKind.u8 32 1 fun j d=>0),some (Blk.ints IntKind.u8 32 1 fun j d=>0)] } (reS t n f x (wr IntKind.i64 ((n:Int) - 1)) fun d=>0)=true:=by simp [stZ,tmOf,tmZ,avZ,svZ,segZ,svR,capR,segR,rIs,rnm,zaj,eqF_1,zam,zaD,zan,hpZ,blkZ,dP_t,newEl,kdOfZ,ndR,isZ,reS] <;> decide
theorem zzc (t:Bool) (n:Nat) (f:Nat→Nat→Int) (x x_1 x1:Nat→Int) (m1:Nat) (r1:rerun (t) (n) (f) (x) m1 (wr IntKind.i64 ((n:Int) - 1)) (fun d=>0)=some (reO.e1 x_1 x1)) (h:ckL []=true):Pure prog F_rimeref07_Eval [AV.sc (SV.vints t IntKind.u8 32 n f),u8s 32 x] (AV.agg [Seg.ints IntKind.u8 32 (lf (tabL x1 32 0))]) :=
 zad VT0 at_rimeref07_Eval (LsOK.nil.cons (reL (t) (n) (f) (x) (l_:=[]) r1)) (by kernel_rfl) (N:=5) (gs:=[]) (Eq.trans (by kernel_rfl) (o1 (ckIns 0 (zpX t n f x x_1 x1) h)))
theorem zxb (t:Bool) (n:Nat) (f:Nat→Nat→Int) (h:ckL [((n:Int)==0)==true]=true):Pure prog F_vss_Commit [AV.sc (SV.vints t IntKind.u8 32 n f)] (AV.tup [AV.sc SV.nils,AV.sc (SV.int IntKind.i64 8)]) :=
 zad VT0 at_vss_Commit LsOK.nil (by kernel_rfl) (N:=5) (gs:=[(12,true)]) (Eq.trans (by kernel_rfl) (o1 h))
theorem zwS (t:Bool) (n:Nat) (f:Nat→Nat→Int) (h:ckL [((n:Int)==0)==false,decide ((n:Int) > 255)==true]=true):Pure prog F_vss_Commit [AV.sc (SV.vints t IntKind.u8 32 n f)] (AV.tup [AV.sc SV.nils,AV.sc (SV.int IntKind.i64 8)]) :=
 zad VT0 at_vss_Commit LsOK.nil (by kernel_rfl) (N:=5) (gs:=[(12,false),(16,true)]) (Eq.trans (by kernel_rfl) (o1 h))
theorem zsi (t:Bool) (n:Nat) (f:Nat→Nat→Int):stZ [] (rnm 0 []) { tm:=tmOf [(4,AV.sc SV.nils),(17,AV.sc (SV.vints t IntKind.u8 32 n f)),(18,AV.sc (SV.int IntKind.i64 (n:Int))),(19,AV.sc (SV.int IntKind.i64 0))] 36 0,hp:=[] } (vcS t n f 0 0 fun _ _=>0)=true:=by simp [stZ,tmOf,tmZ,avZ,svZ,segZ,svR,capR,segR,rIs,rnm,zaj,eqF_1,zam,zaD,zan,hpZ,blkZ,dP_t,newEl,kdOfZ,ndR,isZ,vcS] <;> decide
theorem zw7 (t:Bool) (n:Nat) (f:Nat→Nat→Int) (m1:Nat) (r1:vcrun (t) (n) (f) m1 (0) (0) (fun _ _=>0)=some (vcO.e1)) (h:ckL [((n:Int)==0)==false,decide ((n:Int) > 255)==false]=true):Pure prog F_vss_Commit [AV.sc (SV.vints t IntKind.u8 32 n f)] (AV.tup [AV.sc SV.nils,AV.sc (SV.int IntKind.i64 9)]) :=
 zad VT0 at_vss_Commit (LsOK.nil.cons (vcL (t) (n) (f) (l_:=[]) r1)) (by kernel_rfl) (N:=5) (gs:=[(12,false),(16,false)]) (Eq.trans (by kernel_rfl) (o1 (ckIns 2 (zsi t n f) h)))
theorem zrH (t:Bool) (n:Nat) (f:Nat→Nat→Int) (k1:Nat) (D1:Nat→Nat→Int):stZ [] (rnm 0 []) { tm:=tmOf [(4,AV.sc SV.nils),(17,AV.sc (SV.vints t IntKind.u8 32 n f)),(18,AV.sc (SV.int IntKind.i64 (n:Int))),(19,AV.sc (SV.int IntKind.i64 0))] 36 0,hp:=[] } (vcS t n f 0 0 fun _ _=>0)=true:=by simp [stZ,tmOf,tmZ,avZ,svZ,segZ,svR,capR,segR,rIs,rnm,zaj,eqF_1,zam,zaD,zan,hpZ,blkZ,dP_t,newEl,kdOfZ,ndR,isZ,vcS] <;> decide
theorem zyc (t:Bool) (n:Nat) (f:Nat→Nat→Int) (k1:Nat) (D1:Nat→Nat→Int) (m1:Nat) (r1:vcrun (t) (n) (f) m1 (0) (0) (fun _ _=>0)=some (vcO.e2 k1 D1)) (h:ckL [((n:Int)==0)==false,decide ((n:Int) > 255)==false]=true):Pure prog F_vss_Commit [AV.sc (SV.vints t IntKind.u8 32 n f)] (AV.tup [AV.sc (SV.vints true IntKind.u8 32 k1 D1),AV.sc (SV.int IntKind.i64 0)]) :=
 zad VT0 at_vss_Commit (LsOK.nil.cons (vcL (t) (n) (f) (l_:=[]) r1)) (by kernel_rfl) (N:=5) (gs:=[(12,false),(16,false)]) (Eq.trans (by kernel_rfl) (o1 (ckIns 2 (zrH t n f k1 D1) h)))
theorem zwf (t:Bool) (n:Nat) (f:Nat→Nat→Int) (h:ckL [((n:Int)==0)==true]=true):Pure prog F_vss_CheckCommits [AV.sc (SV.vints t IntKind.u8 32 n f)] (AV.sc (SV.int IntKind.i64 8)) :=
 zad VT0 at_vss_CheckCommits LsOK.nil (by kernel_rfl) (N:=5) (gs:=[(8,true)]) (Eq.trans (by kernel_rfl) (o1 h))
theorem zzj (t:Bool) (n:Nat) (f:Nat→Nat→Int) (h:ckL [((n:Int)==0)==false,decide ((n:Int) > 255)==true]=true):Pure prog F_vss_CheckCommits [AV.sc (SV.vints t IntKind.u8 32 n f)] (AV.sc (SV.int IntKind.i64 8)) :=
 zad VT0 at_vss_CheckCommits LsOK.nil (by kernel_rfl) (N:=5) (gs:=[(8,false),(12,true)]) (Eq.trans (by kernel_rfl) (o1 h))
theorem zqz (t:Bool) (n:Nat) (f:Nat→Nat→Int):stZ [] (rnm 0 []) { tm:=tmOf [(13,AV.sc (SV.vints t IntKind.u8 32 n f)),(14,AV.sc (SV.int IntKind.i64 (n:Int))),(15,AV.sc (SV.int IntKind.i64 0))] 23 0,hp:=[] } (ccS t n f 0)=true:=by simp [stZ,tmOf,tmZ,avZ,svZ,segZ,svR,capR,segR,rIs,rnm,zaj,eqF_1,zam,zaD,zan,hpZ,blkZ,dP_t,newEl,kdOfZ,ndR,isZ,ccS] <;> decide
theorem zw9 (t:Bool) (n:Nat) (f:Nat→Nat→Int) (m1:Nat) (r1:ccrun (t) (n) (f) m1 (0)=some (ccO.e1)) (h:ckL [((n:Int)==0)==false,decide ((n:Int) > 255)==false]=true):Pure prog F_vss_CheckCommits [AV.sc (SV.vints t IntKind.u8 32 n f)] (AV.sc (SV.int IntKind.i64 91)) :=
 zad VT0 at_vss_CheckCommits (LsOK.nil.cons (ccL (t) (n) (f) (l_:=[]) r1)) (by kernel_rfl) (N:=5) (gs:=[(8,false),(12,false)]) (Eq.trans (by kernel_rfl) (o1 (ckIns 2 (zqz t n f) h)))
theorem zqi (t:Bool) (n:Nat) (f:Nat→Nat→Int):stZ [] (rnm 0 []) { tm:=tmOf [(13,AV.sc (SV.vints t IntKind.u8 32 n f)),(14,AV.sc (SV.int IntKind.i64 (n:Int))),(15,AV.sc (SV.int IntKind.i64 0))] 23 0,hp:=[] } (ccS t n f 0)=true:=by simp [stZ,tmOf,tmZ,avZ,svZ,segZ,svR,capR,segR,rIs,rnm,zaj,eqF_1,zam,zaD,zan,hpZ,blkZ,dP_t,newEl,kdOfZ,ndR,isZ,ccS] <;> decide
theorem zwc (t:Bool) (n:Nat) (f:Nat→Nat→Int) (m1:Nat) (r1:ccrun (t) (n) (f) m1 (0)=some (ccO.e2)) (h:ckL [((n:Int)==0)==false,decide ((n:Int) > 255)==false]=true):Pure prog F_vss_CheckCommits [AV.sc (SV.vints t IntKind.u8 32 n f)] (AV.sc (SV.int IntKind.i64 0)) :=
 zad VT0 at_vss_CheckCommits (LsOK.nil.cons (ccL (t) (n) (f) (l_:=[]) r1)) (by kernel_rfl) (N:=5) (gs:=[(8,false),(12,false)]) (Eq.trans (by kernel_rfl) (o1 (ckIns 2 (zqi t n f) h)))
theorem zrU (t:Bool) (n:Nat) (f:Nat→Nat→Int) (i:Int) (y1 x1:Nat→Int):stZ [] (rnm (3:Nat) []) { tm:=tmOf [((0:Nat),AV.sc (SV.vints t IntKind.u8 (32:Nat) n f)),((4:Nat),AV.sc (SV.ptr (0:Nat) (32:Nat) (0:Nat) (0:Nat) (32:Nat))),((5:Nat),AV.sc (SV.ptr (1:Nat) (32:Nat) (0:Nat) (0:Nat) (32:Nat))),((6:Nat),AV.sc (SV.ptr 2 (32:Nat) (0:Nat) (0:Nat) (32:Nat))),((13:Nat),AV.sc (SV.int IntKind.i64 (n:Int))),((14:Nat),AV.sc (SV.int IntKind.i64 (0:Int)))] (38:Nat) (0:Nat),hp:=[some (Blk.ints IntKind.u8 (32:Nat) (1:Nat) fun j d=>(0:Int)),some (Blk.ints IntKind.u8 (32:Nat) (1:Nat) fun r d=>bif Nat.beq r (0:Nat) then lf (byL (32:Nat) (wr IntKind.u64 i)) d else (0:Int)),some (Blk.ints IntKind.u8 (32:Nat) (1:Nat) fun r d=>bif Nat.beq r (0:Nat) then lf (byL (32:Nat) (1:Int)) d else (0:Int))] } (at_S t n f i (0:Int) (lf (byL (32:Nat) (1:Int))))=true:=by simp [stZ,tmOf,tmZ,avZ,svZ,segZ,svR,capR,segR,rIs,rnm,zaj,eqF_1,zam,zaD,zan,hpZ,blkZ,dP_t,newEl,kdOfZ,ndR,isZ,at_S] <;> decide
theorem zyV (t:Bool) (n:Nat) (f:Nat→Nat→Int) (i:Int) (y1 x1:Nat→Int) (m1:Nat) (r1:at_run (t) (n) (f) (i) m1 (0) (lf (byL 32 1))=some (at_O.e1 y1 x1)) (h:ckL [inU (wr IntKind.u64 i)]=true):Pure prog F_vss_at [AV.sc (SV.vints t IntKind.u8 32 n f),AV.sc (SV.int IntKind.i64 i)] (AV.agg [Seg.ints IntKind.u8 32 (lf (tabL x1 32 0))]) :=
 zad VT0 at_vss_at (LsOK.nil.cons (at_L (t) (n) (f) (i) (l_:=[]) r1)) (by kernel_rfl) (N:=5) (gs:=[]) (Eq.trans (by kernel_rfl) (o1 (ckIns 1 (zrU t n f i y1 x1) h)))
theorem bng {a b:Bool} (h:a=b):(a==b)=true:=by rw [h];cases b <;> rfl
theorem zxn {t:Bool} {n:Nat} {f:Nat→Nat→Int} {x:Nat→Int} (hn:n≤1073741824) (hf:rowsB f n=true) (hx:areB x 32 0=true):∀ (k m:Nat) (y:Nat→Int),k≤n→k<m→areB y 32 0=true →
  hval y 32 0=hs (hF f) (hval x 32 0) (n - k) k→∃ z,rerun t n f x m ((k:Int) - 1) y=some (.e1 x z)∧areB z 32 0=true∧hval z 32 0=hs (hF f) (hval x 32 0) n 0:=by
 intro k
 induction k with
 | zero =>
  intro m y _ hm hy e
  obtain ⟨m,rfl⟩:∃ k,m=k+1:=⟨m - 1,by omega⟩
  refine ⟨y,?_,hy,e⟩
  rw [rerun];simp [ckL]
 | succ k ih =>
  intro m y hk hm hy e
  obtain ⟨m,rfl⟩:∃ k,m=k+1:=⟨m - 1,by omega⟩
  have e1:((k+1:Nat):Int) - 1=(k:Int):=by omega
  have e2:wr .i64 ((k:Int) - 1)=(k:Int) - 1:=zbn (by omega) (by omega)
  have hfk:=rowsB_t.1 hf k (by omega)
  obtain ⟨z,h1,h2⟩:=ih m (zhj t n f x (k:Int) y) (by omega) (by omega) (za0 _) (by
   unfold zhj
   rw [zjl,Int.toNat_natCast,e,show n - k=(n - (k+1))+1 by omega];rfl)
  refine ⟨z,?_,h2⟩
  rw [rerun,e1,e2,h1]
  simp [ckL,zaM (show k<n by omega),hy,hx,hfk]
theorem ztU:TRow prog F_rimeref07_Eval tEval:=by
 intro args r h
 unfold tEval at h
 split at h
 case h_2=>simp at h
 rename_i t n f x
 simp only [Option.some.injEq,Prod.mk.injEq,Bool.and_eq_true,ble_t] at h
 obtain ⟨⟨hn,hf,hx⟩,rfl⟩:=h
 obtain ⟨z,h1,h2,h3⟩:=zxn (t:=t) hn hf hx n (n+1) (fun _=>0) (Nat.le_refl _) (by omega) (by decide) (by rw [Nat.sub_self];show hval (fun _=>(0:Int)) 32 0=0;decide)
 rw [← zbn (x:=(n:Int) - 1) (by omega) (by omega)] at h1
 have e:=zzc t n f x _ _ _ h1 rfl
 rw [ze6 h2,h3] at e
 exact e
noncomputable def grB (f:Nat→Nat→Int):Nat→Bool:=fun j=>kGrp (hF f j)==0
def n255 (n:Nat):Bool:=decide (n=0) || decide (n > 255)
noncomputable def ccE (f:Nat→Nat→Int) (n:Nat):Int:=bif n255 n then 8 else bif Nat.beq (ffb (grB f) n 0) n then 0 else 91
noncomputable def tCC:TF:=fun args=>match args with
 | [.sc (.vints _ .u8 32 n f)]=>some (rowsB f n,.sc (.int .i64 (ccE f n)))
 | _=>none
theorem zwZ {t:Bool} {n:Nat} {f:Nat→Nat→Int} (hn:n≤255) (hf:rowsB f n=true):ccrun t n f (n+1) 0=some (bif Nat.beq (ffb (grB f) n 0) n then .e2 else .e1):=by
 have:=scan (O:=ccO) (run:=fun m i (_:Unit)=>ccrun t n f m i) (n:=n) (p:=grB f) (nx:=fun _ s=>s) (bad:=fun _ _=>.e1) (fin:=fun _=>.e2) (I:=fun _ _=>True)
  (fun m s _=>by rw [ccrun];simp [ckL])
  (fun m i s hi hp _=>by
   have hb:=rowsB_t.1 hf i hi
   have hg:(kGrp (hval (f i) 32 0)==0)=true:=hp
   rw [ccrun];simp [ckL,zaM hi,hb,hg,hi,ewr (show i<4611686018427387904 by omega)])
  (fun m i s hi hp _=>by
   have hb:=rowsB_t.1 hf i hi
   have hg:(kGrp (hval (f i) 32 0)==0)=false:=hp
   rw [ccrun];simp [ckL,zaM hi,hb,hg,hi])
  n 0 (n+1) () (by omega) (by omega) trivial
 rcases this with ⟨h,z,h2,_⟩ | ⟨h,z,h2,_⟩
 ·rw [show Nat.beq (ffb (grB f) n 0) n=true from beq_t.2 h];exact h2
 ·rw [show Nat.beq (ffb (grB f) n 0) n=false from by cases hb:Nat.beq (ffb (grB f) n 0) n with | false=>rfl | true=>have:=beq_t.1 hb;omega];exact h2
theorem r_cc:TRow prog F_vss_CheckCommits tCC:=by
 intro args r h
 unfold tCC at h
 split at h
 case h_2=>simp at h
 rename_i t n f
 simp only [Option.some.injEq,Prod.mk.injEq] at h
 obtain ⟨hf,rfl⟩:=h
 unfold ccE n255
 by_cases h0:n=0
 ·rw [decide_eq_true h0];exact zwf t n f (by subst h0;rfl)
 ·rw [decide_eq_false h0]
  have z0:(((n:Int)==0)==false)=true:=bng (by simp [h0])
  by_cases h1:n > 255
  ·rw [decide_eq_true h1];exact zzj t n f (by simp [ckL,z0];omega)
  ·rw [decide_eq_false h1]
   have e:=zwZ (t:=t) (by omega) hf
   cases hb:Nat.beq (ffb (grB f) n 0) n with
   | true=>rw [hb] at e;exact zwc t n f _ e (by simp [ckL,z0];omega)
   | false=>rw [hb] at e;exact zw9 t n f _ e (by simp [ckL,z0];omega)
end Go.Proofs.YtplaklpfeabhiaaGreat
namespace Go.Proofs.YtplaklpfeabhiaaGreat
open Go.Proofs.Tryz
open Go Go.AM
theorem zsx {r k:Nat} (h:r<k):Nat.ble (r+1) k=true:=Nat.ble_eq_true_of_le h
theorem zsD {r k:Nat} (h:¬ r<k):Nat.ble (r+1) k=false:=by cases hb:Nat.ble (r+1) k with | false=>rfl | true=>exact absurd (Nat.le_of_ble_eq_true hb) h
def joinK (K:IntKind) (w m:Nat) (D:Nat→Nat→Int) (x:Nat→Int):Nat→Nat→Int:=fun r d=>bif Nat.ble (r+1) m then D r d else svInt (cellAt (([[Seg.ints K w x]]:List (List Seg)).getD (r - m) []) d)
theorem zig {K:IntKind} {k w:Nat} {D G:Nat→Nat→Int} {x:Nat→Int} (h:RowE k w D G) (hx:∀ d,d<w→x d=G k d):RowE (k+1) w (joinK K w k D x) G:=fun r hr d hd=>by
 unfold joinK
 by_cases e:r<k
 ·rw [zsx e];exact h r e d hd
 ·obtain rfl:r=k:=by omega
  rw [zsD e,Nat.sub_self,← hx d hd];rfl
theorem zge {w:Nat} {D G:Nat→Nat→Int}:RowE 0 w D G:=fun r hr=>absurd hr (Nat.not_lt_zero r)
theorem zgB {n b:Nat} (h:n≤1073741824) (hb:b≤1024):fits n b=true:=by
 have:n*b≤1073741824*1024:=Nat.mul_le_mul h hb
 simp [fits];omega
theorem zsQ {n w:Nat} {D G:Nat→Nat→Int} {e:Int} (h:RowE n w D G):rvR (.tup [.sc (.vints true .u8 w n D),.sc (.int .i64 e)]) (.tup [.sc (.vints true .u8 w n G),.sc (.int .i64 e)])=true:=by
 simp [rvR,twR,svR,zaj,zan,zaK h]
theorem zfV {w:Nat} {G:Nat→Nat→Int} {e:Int}:rvR (.tup [.sc .nils,.sc (.int .i64 e)]) (.tup [.sc (.vints true .u8 w 0 G),.sc (.int .i64 e)])=true:=by
 simp [rvR,twR,svR,zaj]
def nzB (f:Nat→Nat→Int):Nat→Bool:=fun j=>!decide (hF f j % ordL=0)
def comE (f:Nat→Nat→Int) (n:Nat):Int:=bif n255 n then 8 else bif Nat.beq (ffb (nzB f) n 0) n then 0 else 9
noncomputable def comR (f:Nat→Nat→Int):Nat→Nat→Int:=fun r=>lf (byL 32 (kExp (hF f r % ordL)))
noncomputable def tCom:TF:=fun args=>match args with
 | [.sc (.vints _ .u8 32 n f)]=>some (rowsB f n,.tup [.sc (.vints true .u8 32 (bif comE f n==0 then n else 0) (comR f)),.sc (.int .i64 (comE f n))])
 | _=>none
theorem nbf {a b:Nat} (h:a≠b):Nat.beq a b=false:=by cases hb:Nat.beq a b with | false=>rfl | true=>exact absurd (beq_t.1 hb) h
theorem zwb {t:Bool} {n:Nat} {f:Nat→Nat→Int} (hn:n≤255) (hf:rowsB f n=true):(Nat.beq (ffb (nzB f) n 0) n=true∧∃ D,vcrun t n f (n+1) 0 0 (fun _ _=>0)=some (.e2 n D)∧RowE n 32 D (comR f)) ∨ (Nat.beq (ffb (nzB f) n 0) n=false∧vcrun t n f (n+1) 0 0 (fun _ _=>0)=some .e1):=by
 have:=scan (O:=vcO) (run:=fun m i (s:Nat × (Nat→Nat→Int))=>vcrun t n f m i s.1 s.2) (n:=n) (p:=nzB f) (nx:=fun i s=>(s.1+1,zko t n f i s.1 s.2)) (bad:=fun _ _=>.e1) (fin:=fun s=>.e2 s.1 s.2) (I:=fun i s=>s.1=i∧RowE i 32 s.2 (comR f))
  (fun m s _=>by rw [vcrun];simp [ckL])
  (fun m i s hi hp hI=>by
   have hb:=rowsB_t.1 hf i hi
   obtain ⟨k,D⟩:=s
   obtain ⟨rfl,hR⟩:=hI
   have hg:decide (hval (f k) 32 0 % ordL=0)=false:=by have hp:(!decide (hval (f k) 32 0 % ordL=0))=true:=hp;simpa using hp
   refine ⟨?_,rfl,zig (K:=.u8) hR fun d _=>by rw [Int.toNat_natCast];rfl⟩
   rw [vcrun];simp [ckL,zaM hi,hb,hg,hi,ewr (show k<4611686018427387904 by omega),zgB (show k+1≤1073741824 by omega) (show 32≤1024 by omega)])
  (fun m i s hi hp hI=>by
   have hb:=rowsB_t.1 hf i hi
   have hg:decide (hval (f i) 32 0 % ordL=0)=true:=by have hp:(!decide (hval (f i) 32 0 % ordL=0))=false:=hp;simpa using hp
   rw [vcrun];simp [ckL,zaM hi,hb,hg,hi])
  n 0 (n+1) (0,fun _ _=>0) (by omega) (by omega) ⟨rfl,zge⟩
 rcases this with ⟨h,z,h2,h3,h4⟩ | ⟨h,z,h2,_⟩
 ·exact .inl ⟨beq_t.2 h,z.2,by rw [h3] at h2;exact h2,h4⟩
 ·exact .inr ⟨nbf (by omega),h2⟩
theorem zxd:TRow prog F_vss_Commit tCom:=by
 intro args r h
 unfold tCom at h
 split at h
 case h_2=>simp at h
 rename_i t n f
 simp only [Option.some.injEq,Prod.mk.injEq] at h
 obtain ⟨hf,rfl⟩:=h
 unfold comE n255
 by_cases h0:n=0
 ·rw [decide_eq_true h0];exact zaZ (zxb t n f (by subst h0;rfl)) zfV
 ·rw [decide_eq_false h0]
  have z0:(((n:Int)==0)==false)=true:=bng (by simp [h0])
  by_cases h1:n > 255
  ·rw [decide_eq_true h1];exact zaZ (zwS t n f (by simp [ckL,z0];omega)) zfV
  ·rw [decide_eq_false h1]
   rcases zwb (t:=t) (by omega) hf with ⟨hb,D,e,hR⟩ | ⟨hb,e⟩
   ·rw [hb];exact zaZ (zyc t n f _ _ _ e (by simp [ckL,z0];omega)) (zsQ hR)
   ·rw [hb];exact zaZ (zw7 t n f _ e (by simp [ckL,z0];omega)) zfV
theorem zyD (t:Bool) (n:Nat) (f:Nat→Nat→Int) (h:ckL [decide ((n:Int)<1)==true]=true):Pure prog F_rimeref08_Commit [AV.sc (SV.vints t IntKind.u8 32 n f)] (AV.tup [AV.sc SV.nils,AV.sc (SV.int IntKind.i64 8)]) :=
 zad VT0 at_rimeref08_Commit LsOK.nil (by kernel_rfl) (N:=5) (gs:=[(12,true)]) (Eq.trans (by kernel_rfl) (o1 h))
theorem zzf (t:Bool) (n:Nat) (f:Nat→Nat→Int) (h:ckL [decide ((n:Int)<1)==false,decide ((n:Int) > 255)==true]=true):Pure prog F_rimeref08_Commit [AV.sc (SV.vints t IntKind.u8 32 n f)] (AV.tup [AV.sc SV.nils,AV.sc (SV.int IntKind.i64 8)]) :=
 zad VT0 at_rimeref08_Commit LsOK.nil (by kernel_rfl) (N:=5) (gs:=[(12,false),(16,true)]) (Eq.trans (by kernel_rfl) (o1 h))
theorem zq8 (t:Bool) (n:Nat) (f:Nat→Nat→Int):stZ [] (rnm 0 []) { tm:=tmOf [(0,AV.sc (SV.vints t IntKind.u8 32 n f)),(4,AV.sc SV.nils),(5,AV.sc (SV.int IntKind.i64 0))] 47 0,hp:=[] } (rcoS t n f 0)=true:=by simp [stZ,tmOf,tmZ,avZ,svZ,segZ,svR,capR,segR,rIs,rnm,zaj,eqF_1,zam,zaD,zan,hpZ,blkZ,dP_t,newEl,kdOfZ,ndR,isZ,rcoS] <;> decide
theorem zyv (t:Bool) (n:Nat) (f:Nat→Nat→Int) (m1:Nat) (r1:rcorun (t) (n) (f) m1 (0)=some (rcoO.e1)) (h:ckL [decide ((n:Int)<1)==false,decide ((n:Int) > 255)==false]=true):Pure prog F_rimeref08_Commit [AV.sc (SV.vints t IntKind.u8 32 n f)] (AV.tup [AV.sc SV.nils,AV.sc (SV.int IntKind.i64 9)]) :=
 zad VT0 at_rimeref08_Commit (LsOK.nil.cons (rcoL (t) (n) (f) (l_:=[]) r1)) (by kernel_rfl) (N:=5) (gs:=[(12,false),(16,false)]) (Eq.trans (by kernel_rfl) (o1 (ckIns 2 (zq8 t n f) h)))
theorem zrV (t:Bool) (n:Nat) (f:Nat→Nat→Int) (t_1:Bool) (n_1:Nat) (f_1:Nat→Nat→Int) (k1:Nat) (D1:Nat→Nat→Int):stZ [] (rnm 0 []) { tm:=tmOf [(0,AV.sc (SV.vints t IntKind.u8 32 n f)),(4,AV.sc SV.nils),(5,AV.sc (SV.int IntKind.i64 0))] 47 0,hp:=[] } (rcoS t n f 0)=true:=by simp [stZ,tmOf,tmZ,avZ,svZ,segZ,svR,capR,segR,rIs,rnm,zaj,eqF_1,zam,zaD,zan,hpZ,blkZ,dP_t,newEl,kdOfZ,ndR,isZ,rcoS] <;> decide
theorem zrj (t:Bool) (n:Nat) (f:Nat→Nat→Int) (t_1:Bool) (n_1:Nat) (f_1:Nat→Nat→Int) (k1:Nat) (D1:Nat→Nat→Int):stZ [] (rnm 0 []) { tm:=tmOf [(0,AV.sc (SV.vints t_1 IntKind.u8 32 n_1 f_1)),(4,AV.sc SV.nils),(6,AV.sc (SV.int IntKind.i64 0))] 47 0,hp:=[] } (rcpS t_1 n_1 f_1 0 0 fun _ _=>0)=true:=by simp [stZ,tmOf,tmZ,avZ,svZ,segZ,svR,capR,segR,rIs,rnm,zaj,eqF_1,zam,zaD,zan,hpZ,blkZ,dP_t,newEl,kdOfZ,ndR,isZ,rcpS] <;> decide
theorem zwT (t:Bool) (n:Nat) (f:Nat→Nat→Int) (t_1:Bool) (n_1:Nat) (f_1:Nat→Nat→Int) (k1:Nat) (D1:Nat→Nat→Int) (m1:Nat) (r1:rcorun (t) (n) (f) m1 (0)=some (rcoO.e2 t_1 n_1 f_1)) (m2:Nat) (r2:rcprun (t_1) (n_1) (f_1) m2 (0) (0) (fun _ _=>0)=some (rcpO.e1 k1 D1)) (h:ckL [decide ((n:Int)<1)==false,decide ((n:Int) > 255)==false]=true):Pure prog F_rimeref08_Commit [AV.sc (SV.vints t IntKind.u8 32 n f)] (AV.tup [AV.sc (SV.vints true IntKind.u8 32 k1 D1),AV.sc (SV.int IntKind.i64 0)]) :=
 zad VT0 at_rimeref08_Commit ((LsOK.nil.cons (rcoL (t) (n) (f) (l_:=[]) r1)).cons (rcpL (t_1) (n_1) (f_1) (l_:=[]) r2)) (by kernel_rfl) (N:=5) (gs:=[(12,false),(16,false)]) (Eq.trans (by kernel_rfl) (o1 (ckIns 3 (zrj t n f t_1 n_1 f_1 k1 D1) (ckIns 2 (zrV t n f t_1 n_1 f_1 k1 D1) h))))
theorem zu5 {t:Bool} {n:Nat} {f:Nat→Nat→Int} (hn:n≤255) (hf:rowsB f n=true):rcorun t n f (n+1) 0=some (bif Nat.beq (ffb (nzB f) n 0) n then .e2 t n f else .e1):=by
 have:=scan (O:=rcoO) (run:=fun m i (_:Unit)=>rcorun t n f m i) (n:=n) (p:=nzB f) (nx:=fun _ s=>s) (bad:=fun _ _=>.e1) (fin:=fun _=>.e2 t n f) (I:=fun _ _=>True)
  (fun m s _=>by rw [rcorun];simp [ckL])
  (fun m i s hi hp _=>by
   have hb:=rowsB_t.1 hf i hi
   have hg:decide (hval (f i) 32 0 % ordL=0)=false:=by have hp:(!decide (hval (f i) 32 0 % ordL=0))=true:=hp;simpa using hp
   rw [rcorun];simp [ckL,zaM hi,hb,hg,hi,ewr (show i<4611686018427387904 by omega)])
  (fun m i s hi hp _=>by
   have hb:=rowsB_t.1 hf i hi
   have hg:decide (hval (f i) 32 0 % ordL=0)=true:=by have hp:(!decide (hval (f i) 32 0 % ordL=0))=false:=hp;simpa using hp
   rw [rcorun];simp [ckL,zaM hi,hb,hg,hi])
  n 0 (n+1) () (by omega) (by omega) trivial
 rcases this with ⟨h,z,h2,_⟩ | ⟨h,z,h2,_⟩
 ·rw [beq_t.2 h];exact h2
 ·rw [nbf (by omega)];exact h2
theorem zt3 {t:Bool} {n:Nat} {f:Nat→Nat→Int} (hn:n≤255) (hf:rowsB f n=true):∃ D,rcprun t n f (n+1) 0 0 (fun _ _=>0)=some (.e1 n D)∧RowE n 32 D (comR f):=by
 have:=scan (O:=rcpO) (run:=fun m i (s:Nat × (Nat→Nat→Int))=>rcprun t n f m i s.1 s.2) (n:=n) (p:=fun _=>true) (nx:=fun i s=>(s.1+1,ziw t n f i s.1 s.2)) (bad:=fun _ s=>.e1 s.1 s.2) (fin:=fun s=>.e1 s.1 s.2) (I:=fun i s=>s.1=i∧RowE i 32 s.2 (comR f))
  (fun m s _=>by rw [rcprun];simp [ckL])
  (fun m i s hi hp hI=>by
   have hb:=rowsB_t.1 hf i hi
   obtain ⟨k,D⟩:=s
   obtain ⟨rfl,hR⟩:=hI
   refine ⟨?_,rfl,zig (K:=.u8) hR fun d _=>by rw [Int.toNat_natCast];rfl⟩
   rw [rcprun];simp [ckL,zaM hi,hb,hi,ewr (show k<4611686018427387904 by omega),zgB (show k+1≤1073741824 by omega) (show 32≤1024 by omega)])
  (fun m i s hi hp hI=>by simp at hp)
  n 0 (n+1) (0,fun _ _=>0) (by omega) (by omega) ⟨rfl,zge⟩
 rcases this with ⟨h,z,h2,h3,h4⟩ | ⟨h,z,h2,_⟩
 ·exact ⟨z.2,by rw [h3] at h2;exact h2,h4⟩
 ·rw [zc7 fun _ _ _=>rfl] at h;omega
theorem zyy:TRow prog F_rimeref08_Commit tCom:=by
 intro args r h
 unfold tCom at h
 split at h
 case h_2=>simp at h
 rename_i t n f
 simp only [Option.some.injEq,Prod.mk.injEq] at h
 obtain ⟨hf,rfl⟩:=h
 unfold comE n255
 by_cases h0:n=0
 ·rw [decide_eq_true h0];exact zaZ (zyD t n f (by subst h0;rfl)) zfV
 ·rw [decide_eq_false h0]
  have z0:(decide ((n:Int)<1)==false)=true:=bng (decide_eq_false (by omega))
  by_cases h1:n > 255
  ·rw [decide_eq_true h1];exact zaZ (zzf t n f (by simp [ckL,z0];omega)) zfV
  ·rw [decide_eq_false h1]
   have e:=zu5 (t:=t) (by omega) hf
   cases hb:Nat.beq (ffb (nzB f) n 0) n with
   | true =>
    rw [hb] at e
    obtain ⟨D,e2,hR⟩:=zt3 (t:=t) (by omega) hf
    exact zaZ (zwT t n f t n f _ _ _ e _ e2 (by simp [ckL,z0];omega)) (zsQ hR)
   | false=>rw [hb] at e;exact zaZ (zyv t n f _ e (by simp [ckL,z0];omega)) zfV
end Go.Proofs.YtplaklpfeabhiaaGreat
namespace Go.Proofs.YtplaklpfeabhiaaGreat
open Go.Proofs.Tryz
open Go Go.AM
noncomputable def hp (w:Nat→Int) (x:Int):Nat→Nat→Int
 | 0,_=>1
 | m+1,j=>kAdd (kMul x (hp w x m (j+1))) (w j)
theorem zqc (w:Nat→Int) (x:Int):∀ m j,0≤hp w x m j∧hp w x m j<R256
 | 0,_=>by show (0:Int)≤1∧(1:Int)<R256;decide
 | m+1,j=>zfI _ _
theorem r_b32 {x:Int} (h:0≤x∧x<R256):hval (lf (byL 32 x)) 32 0=x:=zcj h.1 h.2
noncomputable def tAt:TF:=fun args=>match args with
 | [.sc (.vints _ .u8 32 n f),.sc (.int .i64 i)]=>some (isId i&&(Nat.ble n 1073741824&&rowsB f n),b32 (hp (hF f) i n 0))
 | _=>none
theorem id_r {i:Int} (h:isId i=true):0≤i∧i<R256:=by have:=zka h;unfold R256;omega
theorem at_law {t:Bool} {n:Nat} {f:Nat→Nat→Int} {i:Int} (hn:n≤1073741824) (hf:rowsB f n=true) (hi:isId i=true):∃ y z,at_run t n f i (n+1) 0 (lf (byL 32 1))=some (.e1 y z)∧areB z 32 0=true∧hval z 32 0=hp (hF f) i n 0:=by
 have:=scan (O:=at_O) (run:=fun m j (s:Nat→Int)=>at_run t n f i m j s) (n:=n) (p:=fun _=>true) (nx:=fun j s=>at__n1_x1 t n f i j s) (bad:=fun _ s=>.e1 s s) (fin:=fun s=>.e1 (lf (byL 32 i)) s) (I:=fun j s=>areB s 32 0=true∧hval s 32 0=hp (hF f) i j (n - j))
  (fun m s _=>by rw [at_run,(pl_in hi).1];simp [ckL])
  (fun m j s hj hp hI=>by
   obtain ⟨h1,h2⟩:=hI
   have e1:wr .i64 ((n:Int) - 1)=(n:Int) - 1:=zbn (by omega) (by omega)
   have e2:wr .i64 ((n:Int) - 1 - (j:Int))=((n - 1 - j:Nat):Int):=by rw [zbn (by omega) (by omega)];omega
   have hb:=rowsB_t.1 hf (n - 1 - j) (by omega)
   refine ⟨?_,?_,?_⟩
   ·rw [at_run,e1,e2,Int.toNat_natCast];simp [ckL,zaM (show n - 1 - j<n by omega),hb,hj,h1,za0,ewr (show j<4611686018427387904 by omega)]
   ·exact za0 _
   ·unfold at__n1_x1
    rw [e1,e2,Int.toNat_natCast,(pl_in hi).1,r_b32 (id_r hi),r_b32 (zlw _ _),r_b32 (zfI _ _),h2,show n - j=n - (j+1)+1 by omega,show n - 1 - j=n - (j+1) by omega];rfl)
  (fun m j s hj hp hI=>by simp at hp)
  n 0 (n+1) (lf (byL 32 1)) (by omega) (by omega) ⟨za0 1,r_b32 (x:=1) (by decide)⟩
 rcases this with ⟨h,z,h2,h3,h4⟩ | ⟨h,z,h2,_⟩
 ·exact ⟨_,z,h2,h3,by rw [h4,Nat.sub_self]⟩
 ·rw [zc7 fun _ _ _=>rfl] at h;omega
theorem r_at:TRow prog F_vss_at tAt:=by
 intro args r h
 unfold tAt at h
 split at h
 case h_2=>simp at h
 rename_i t n f i
 simp only [Option.some.injEq,Prod.mk.injEq,Bool.and_eq_true,ble_t] at h
 obtain ⟨⟨hi,hn,hf⟩,rfl⟩:=h
 obtain ⟨y,z,h1,h2,h3⟩:=at_law (t:=t) hn hf hi
 have e:=zyV t n f i _ _ _ h1 (by rw [(pl_in hi).1,(pl_in hi).2];rfl)
 rw [ze6 h2,h3] at e
 exact e
end Go.Proofs.YtplaklpfeabhiaaGreat
namespace Go.Proofs.YtplaklpfeabhiaaGreat
open Go.Proofs.Tryz
open Go Go.AM
noncomputable def liB:Code:=match Func.body f_shamir_listed with | some c=>(match bodiesOf 0 c with | [.loop b]=>b | _=>.skip) | none=>.skip
theorem zfA:(Func.body f_shamir_listed).map (bodiesOf 0)=some [.loop liB]:=by kernel_rfl
theorem li_ok:codeOK prog (EnvP.env (envL tt vt0 [] [])).isW liB=true:=by kernel_rfl
noncomputable def liS (t:Bool) (n:Nat) (f:Nat→Nat→Int) (i1:Int) (k1:Nat) (hm1:(Nat→Int)→Bool) (em1:(Nat→Int)→Nat→Int):St:=⟨tmOf [(3,AV.sc (SV.mapp 0)),(10,AV.sc (SV.vints t IntKind.i64 1 n f)),(11,AV.sc (SV.int IntKind.i64 (n:Int))),(12,AV.sc (SV.int IntKind.i64 i1))] 29 0,[some (Blk.map (KD.one IntKind.i64) false 1 k1 hm1 (MEl.ints [(IntKind.i64,1)] em1))]⟩
noncomputable def liT1 (k1:Nat) (hm1:(Nat→Int)→Bool) (em1:(Nat→Int)→Nat→Int):St:=⟨tmOf [(2,(AV.sc (SV.int IntKind.i64 (4))))] 29 0,[some (Blk.map (KD.one IntKind.i64) false 1 k1 hm1 (MEl.ints [(IntKind.i64,1)] em1))]⟩
noncomputable def liT2 (k1:Nat) (hm1:(Nat→Int)→Bool) (em1:(Nat→Int)→Nat→Int):St:=⟨tmOf [(2,(AV.sc (SV.int IntKind.i64 (5))))] 29 0,[some (Blk.map (KD.one IntKind.i64) false 1 k1 hm1 (MEl.ints [(IntKind.i64,1)] em1))]⟩
noncomputable def zft (t:Bool) (n:Nat) (f:Nat→Nat→Int) (i1:Int) (k1:Nat) (hm1:(Nat→Int)→Bool) (em1:(Nat→Int)→Nat→Int):(Nat→Int)→Nat→Int:=fun h c=>bif eqK (KD.n (KD.one IntKind.i64)) h fun x=>f (Int.toNat i1) (0:Nat) then numsOf [Seg.ints IntKind.i64 (1:Nat) fun x=>wr IntKind.i64 (i1+(1:Int))] c else em1 h c
noncomputable def liT3 (k1:Nat) (hm1:(Nat→Int)→Bool) (em1:(Nat→Int)→Nat→Int):St:=⟨tmOf [] 29 0,[some (Blk.map (KD.one IntKind.i64) false 1 k1 hm1 (MEl.ints [(IntKind.i64,1)] em1))]⟩
inductive liO where
 | e1 (k1:Nat) (hm1:(Nat→Int)→Bool) (em1:(Nat→Int)→Nat→Int)
 | e2 (k1:Nat) (hm1:(Nat→Int)→Bool) (em1:(Nat→Int)→Nat→Int)
 | e3 (k1:Nat) (hm1:(Nat→Int)→Bool) (em1:(Nat→Int)→Nat→Int)
def liex:liO→Ex
 | .e1 ..=>.ret
 | .e2 ..=>.ret
 | .e3 ..=>.normal
noncomputable def liT:liO→St
 | .e1 k1 hm1 em1=>liT1 k1 hm1 em1
 | .e2 k1 hm1 em1=>liT2 k1 hm1 em1
 | .e3 k1 hm1 em1=>liT3 k1 hm1 em1
noncomputable def lirun (t:Bool) (n:Nat) (f:Nat→Nat→Int):Nat→(Int)→(Nat)→((Nat→Int)→Bool)→((Nat→Int)→Nat→Int)→Option liO
 | 0,_,_,_,_=>none
 | m_+1,i1,k1,hm1,em1=>bif ckL [decide (i1<(n:Int))==true,inR i1 n,(!isId (f (Int.toNat i1) 0))==true] then some (.e1 (k1) (hm1) (em1))
  else bif ckL [decide (i1<(n:Int))==true,inR i1 n,(!isId (f (Int.toNat i1) 0))==false,decide ((bif hm1 fun j=>f (Int.toNat i1) (0:Nat) then em1 (fun j=>f (Int.toNat i1) (0:Nat)) (0:Nat) else (0:Int)) > (0:Int))==true] then some (.e2 (k1) (hm1) (em1))
  else bif ckL [decide (i1<(n:Int))==true,inR i1 n,(!isId (f (Int.toNat i1) 0))==false,decide ((bif hm1 fun j=>f (Int.toNat i1) (0:Nat) then em1 (fun j=>f (Int.toNat i1) (0:Nat)) (0:Nat) else (0:Int)) > (0:Int))==false] then lirun t n f m_ (wr IntKind.i64 (i1+1)) (bif hm1 fun j=>f (Int.toNat i1) 0 then k1 else k1+1) (fun h=>(eqK 1 h fun j=>f (Int.toNat i1) 0) || hm1 h) (zft t n f i1 k1 hm1 em1)
  else bif ckL [decide (i1<(n:Int))==false] then some (.e3 (k1) (hm1) (em1))
  else none
theorem liq (t:Bool) (n:Nat) (f:Nat→Nat→Int):∀ (m_:Nat) (i1:Int) (k1:Nat) (hm1:(Nat→Int)→Bool) (em1:(Nat→Int)→Nat→Int) (o_:liO),lirun t n f m_ i1 k1 hm1 em1=some o_→∃ e1,leave 0 e1=some (liex o_)∧Runs prog 5 1 liB (liS t n f i1 k1 hm1 em1) e1 (liT o_):=by
 intro m_
 induction m_ with
 | zero=>intro i1 k1 hm1 em1 o_ h;cases h
 | succ m_ ih =>
  intro i1 k1 hm1 em1 o_ h
  rw [lirun] at h
  rcases bifS h with ⟨h1,h⟩ | ⟨_,h⟩
  ·obtain rfl:=Option.some.inj h
   exact ⟨.ret,rfl,.stop (Rd.of_round VT0 LsOK.nil zfA li_ok (gs:=[(13,true),(19,true)]) (N:=5) (n:=1) (zs:=[]) (l:=[]) (keep:=[2]) (bs:=[.keep]) (by kernel_rfl) h1 rfl)⟩
  rcases bifS h with ⟨h1,h⟩ | ⟨_,h⟩
  ·obtain rfl:=Option.some.inj h
   exact ⟨.ret,rfl,.stop (Rd.of_round VT0 LsOK.nil zfA li_ok (gs:=[(13,true),(19,false),(23,true)]) (N:=5) (n:=1) (zs:=[]) (l:=[]) (keep:=[2]) (bs:=[.keep]) (by kernel_rfl) h1 rfl)⟩
  rcases bifS h with ⟨h1,h⟩ | ⟨_,h⟩
  ·obtain ⟨e1,q1,q2⟩:=ih _ _ _ _ o_ h
   exact ⟨e1,q1,.step (Rd.of_round VT0 LsOK.nil zfA li_ok (gs:=[(13,true),(19,false),(23,false)]) (N:=5) (n:=1) (zs:=[]) (l:=[]) (keep:=[3,10,11,12]) (bs:=[.keep]) (by kernel_rfl) h1 rfl) (Nat.le_of_ble_eq_true rfl) q2⟩
  rcases bifS h with ⟨h1,h⟩ | ⟨_,h⟩
  ·obtain rfl:=Option.some.inj h
   exact ⟨(.exit 0),rfl,.stop (Rd.of_round VT0 LsOK.nil zfA li_ok (gs:=[(13,false)]) (N:=5) (n:=1) (zs:=[]) (l:=[]) (keep:=[]) (bs:=[.keep]) (by kernel_rfl) h1 rfl)⟩
  cases h
theorem liL (t:Bool) (n:Nat) (f:Nat→Nat→Int) {l_:List Nat} {m_:Nat} {i1:Int} {k1:Nat} {hm1:(Nat→Int)→Bool} {em1:(Nat→Int)→Nat→Int} {o_:liO} (h:lirun t n f m_ i1 k1 hm1 em1=some o_):LRow prog f_shamir_listed 0 (famV 1 l_ (liS t n f i1 k1 hm1 em1) (liex o_) (liT o_)):=LRow.runs mix zfA rfl (liq t n f m_ i1 k1 hm1 em1 o_ h)
noncomputable def ilB:Code:=match Func.body f_rimeref07_IDs with | some c=>(match bodiesOf 2 c with | [.loop b]=>b | _=>.skip) | none=>.skip
theorem zgt:(Func.body f_rimeref07_IDs).map (bodiesOf 2)=some [.loop ilB]:=by kernel_rfl
theorem il_ok:codeOK prog (EnvP.env (envL tt vt0 [] [])).isW ilB=true:=by kernel_rfl
noncomputable def ilS (t:Bool) (n:Nat) (f:Nat→Nat→Int) (i i1:Int):St:=⟨tmOf [(0,AV.sc (SV.vints t IntKind.i64 1 n f)),(3,AV.sc (SV.int IntKind.i64 i)),(4,AV.sc (SV.int IntKind.i64 i1))] 40 0,[]⟩
noncomputable def ilT1 :St:=⟨tmOf [(2,(AV.sc (SV.int IntKind.i64 (5))))] 40 0,[]⟩
noncomputable def ilT2 (t:Bool) (n:Nat) (f:Nat→Nat→Int) (i:Int):St:=⟨tmOf [(0,(AV.sc (SV.vints t IntKind.i64 1 n f))),(3,(AV.sc (SV.int IntKind.i64 i)))] 40 0,[]⟩
inductive ilO where
 | e1 
 | e2 (t:Bool) (n:Nat) (f:Nat→Nat→Int) (i:Int)
def ilex:ilO→Ex
 | .e1 ..=>.ret
 | .e2 ..=>.normal
noncomputable def ilT:ilO→St
 | .e1=>ilT1
 | .e2 t n f i=>ilT2 t n f i
noncomputable def ilrun (t:Bool) (n:Nat) (f:Nat→Nat→Int) (i:Int):Nat→(Int)→Option ilO
 | 0,_=>none
 | m_+1,i1=>bif ckL [decide (i1<i)==true,inR i1 n,inR i n,(f (Int.toNat i1) 0==f (Int.toNat i) 0)==true] then some (.e1 )
  else bif ckL [decide (i1<i)==true,inR i1 n,inR i n,(f (Int.toNat i1) 0==f (Int.toNat i) 0)==false] then ilrun t n f i m_ (wr IntKind.i64 (i1+1))
  else bif ckL [decide (i1<i)==false] then some (.e2 (t) (n) (f) (i))
  else none
theorem ilq (t:Bool) (n:Nat) (f:Nat→Nat→Int) (i:Int):∀ (m_:Nat) (i1:Int) (o_:ilO),ilrun t n f i m_ i1=some o_→∃ e1,leave 2 e1=some (ilex o_)∧Runs prog 5 0 ilB (ilS t n f i i1) e1 (ilT o_):=by
 intro m_
 induction m_ with
 | zero=>intro i1 o_ h;cases h
 | succ m_ ih =>
  intro i1 o_ h
  rw [ilrun] at h
  rcases bifS h with ⟨h1,h⟩ | ⟨_,h⟩
  ·obtain rfl:=Option.some.inj h
   exact ⟨.ret,rfl,.stop (Rd.of_round VT0 LsOK.nil zgt il_ok (gs:=[(28,true),(39,true)]) (N:=5) (n:=0) (zs:=[]) (l:=[]) (keep:=[2]) (bs:=[]) (by kernel_rfl) h1 rfl)⟩
  rcases bifS h with ⟨h1,h⟩ | ⟨_,h⟩
  ·obtain ⟨e1,q1,q2⟩:=ih _ o_ h
   exact ⟨e1,q1,.step (Rd.of_round VT0 LsOK.nil zgt il_ok (gs:=[(28,true),(39,false)]) (N:=5) (n:=0) (zs:=[]) (l:=[]) (keep:=[0,3,4]) (bs:=[]) (by kernel_rfl) h1 rfl) (Nat.le_of_ble_eq_true rfl) q2⟩
  rcases bifS h with ⟨h1,h⟩ | ⟨_,h⟩
  ·obtain rfl:=Option.some.inj h
   exact ⟨(.exit 2),rfl,.stop (Rd.of_round VT0 LsOK.nil zgt il_ok (gs:=[(28,false)]) (N:=5) (n:=0) (zs:=[]) (l:=[]) (keep:=[0,3]) (bs:=[]) (by kernel_rfl) h1 rfl)⟩
  cases h
theorem ilL (t:Bool) (n:Nat) (f:Nat→Nat→Int) (i:Int) {l_:List Nat} {m_:Nat} {i1:Int} {o_:ilO} (h:ilrun t n f i m_ i1=some o_):LRow prog f_rimeref07_IDs 2 (famV 0 l_ (ilS t n f i i1) (ilex o_) (ilT o_)):=LRow.runs mix zgt rfl (ilq t n f i m_ i1 o_ h)
noncomputable def idsB:Code:=match Func.body f_rimeref07_IDs with | some c=>(match bodiesOf 0 c with | [.loop b]=>b | _=>.skip) | none=>.skip
theorem zcM:(Func.body f_rimeref07_IDs).map (bodiesOf 0)=some [.loop idsB]:=by kernel_rfl
def idsS (t:Bool) (n:Nat) (f:Nat→Nat→Int) (i:Int):St:=⟨tmOf [(0,.sc (.vints t .i64 1 n f)),(3,.sc (.int .i64 i))] 40 0,[]⟩
def idsT4:St:=⟨tmOf [] 40 0,[]⟩
def idsT1 (e:Int):St:=⟨tmOf [(2,.sc (.int .i64 e))] 40 0,[]⟩
end Go.Proofs.YtplaklpfeabhiaaGreat
namespace Go.Proofs.YtplaklpfeabhiaaGreat
open Go.Proofs.Tryz
open Go Go.AM
theorem zx6 (t:Bool) (n:Nat) (f:Nat→Nat→Int) (h:ckL [((n:Int)==0)==true]=true):Pure prog F_shamir_listed [AV.sc (SV.vints t IntKind.i64 1 n f)] (AV.sc (SV.int IntKind.i64 8)) :=
 zad VT0 at_shamir_listed LsOK.nil (by kernel_rfl) (N:=5) (gs:=[(8,true)]) (Eq.trans (by kernel_rfl) (o1 h))
theorem zri (t:Bool) (n:Nat) (f:Nat→Nat→Int) (k1:Nat) (hm1:(Nat→Int)→Bool) (em1:(Nat→Int)→Nat→Int):stZ [] (rnm 1 []) { tm:=tmOf [(3,AV.sc (SV.mapp 0)),(10,AV.sc (SV.vints t IntKind.i64 1 n f)),(11,AV.sc (SV.int IntKind.i64 (n:Int))),(12,AV.sc (SV.int IntKind.i64 0))] 29 0,hp:=[some (Blk.map (KD.one IntKind.i64) false 1 0 (fun j=>false) (newEl { d:=TD.int IntKind.i64,size:=1,bytes:=8,zero:=[Seg.ints IntKind.i64 1 fun x=>0],eq:=false }))] } (liS t n f 0 0 (fun j=>false) fun j j_1=>0)=true:=by simp [stZ,tmOf,tmZ,avZ,svZ,segZ,svR,capR,segR,rIs,rnm,zaj,eqF_1,zam,zaD,zan,hpZ,blkZ,dP_t,newEl,kdOfZ,ndR,isZ,lenS,beq_f,liS] <;> decide
theorem zxT (t:Bool) (n:Nat) (f:Nat→Nat→Int) (k1:Nat) (hm1:(Nat→Int)→Bool) (em1:(Nat→Int)→Nat→Int) (m1:Nat) (r1:lirun (t) (n) (f) m1 (0) (0) (fun j=>false) (fun j j_1=>0)=some (liO.e1 k1 hm1 em1)) (h:ckL [((n:Int)==0)==false]=true):Pure prog F_shamir_listed [AV.sc (SV.vints t IntKind.i64 1 n f)] (AV.sc (SV.int IntKind.i64 4)) :=
 zad VT0 at_shamir_listed (LsOK.nil.cons (liL (t) (n) (f) (l_:=[]) r1)) (by kernel_rfl) (N:=5) (gs:=[(8,false)]) (Eq.trans (by kernel_rfl) (o1 (ckIns 1 (zri t n f k1 hm1 em1) h)))
theorem zsg (t:Bool) (n:Nat) (f:Nat→Nat→Int) (k1:Nat) (hm1:(Nat→Int)→Bool) (em1:(Nat→Int)→Nat→Int):stZ [] (rnm 1 []) { tm:=tmOf [(3,AV.sc (SV.mapp 0)),(10,AV.sc (SV.vints t IntKind.i64 1 n f)),(11,AV.sc (SV.int IntKind.i64 (n:Int))),(12,AV.sc (SV.int IntKind.i64 0))] 29 0,hp:=[some (Blk.map (KD.one IntKind.i64) false 1 0 (fun j=>false) (newEl { d:=TD.int IntKind.i64,size:=1,bytes:=8,zero:=[Seg.ints IntKind.i64 1 fun x=>0],eq:=false }))] } (liS t n f 0 0 (fun j=>false) fun j j_1=>0)=true:=by simp [stZ,tmOf,tmZ,avZ,svZ,segZ,svR,capR,segR,rIs,rnm,zaj,eqF_1,zam,zaD,zan,hpZ,blkZ,dP_t,newEl,kdOfZ,ndR,isZ,lenS,beq_f,liS] <;> decide
theorem zy7 (t:Bool) (n:Nat) (f:Nat→Nat→Int) (k1:Nat) (hm1:(Nat→Int)→Bool) (em1:(Nat→Int)→Nat→Int) (m1:Nat) (r1:lirun (t) (n) (f) m1 (0) (0) (fun j=>false) (fun j j_1=>0)=some (liO.e2 k1 hm1 em1)) (h:ckL [((n:Int)==0)==false]=true):Pure prog F_shamir_listed [AV.sc (SV.vints t IntKind.i64 1 n f)] (AV.sc (SV.int IntKind.i64 5)) :=
 zad VT0 at_shamir_listed (LsOK.nil.cons (liL (t) (n) (f) (l_:=[]) r1)) (by kernel_rfl) (N:=5) (gs:=[(8,false)]) (Eq.trans (by kernel_rfl) (o1 (ckIns 1 (zsg t n f k1 hm1 em1) h)))
theorem zp2 (t:Bool) (n:Nat) (f:Nat→Nat→Int) (k1:Nat) (hm1:(Nat→Int)→Bool) (em1:(Nat→Int)→Nat→Int):stZ [] (rnm 1 []) { tm:=tmOf [(3,AV.sc (SV.mapp 0)),(10,AV.sc (SV.vints t IntKind.i64 1 n f)),(11,AV.sc (SV.int IntKind.i64 (n:Int))),(12,AV.sc (SV.int IntKind.i64 0))] 29 0,hp:=[some (Blk.map (KD.one IntKind.i64) false 1 0 (fun j=>false) (newEl { d:=TD.int IntKind.i64,size:=1,bytes:=8,zero:=[Seg.ints IntKind.i64 1 fun x=>0],eq:=false }))] } (liS t n f 0 0 (fun j=>false) fun j j_1=>0)=true:=by simp [stZ,tmOf,tmZ,avZ,svZ,segZ,svR,capR,segR,rIs,rnm,zaj,eqF_1,zam,zaD,zan,hpZ,blkZ,dP_t,newEl,kdOfZ,ndR,isZ,lenS,beq_f,liS] <;> decide
theorem zwk (t:Bool) (n:Nat) (f:Nat→Nat→Int) (k1:Nat) (hm1:(Nat→Int)→Bool) (em1:(Nat→Int)→Nat→Int) (m1:Nat) (r1:lirun (t) (n) (f) m1 (0) (0) (fun j=>false) (fun j j_1=>0)=some (liO.e3 k1 hm1 em1)) (h:ckL [((n:Int)==0)==false]=true):Pure prog F_shamir_listed [AV.sc (SV.vints t IntKind.i64 1 n f)] (AV.sc (SV.int IntKind.i64 0)) :=
 zad VT0 at_shamir_listed (LsOK.nil.cons (liL (t) (n) (f) (l_:=[]) r1)) (by kernel_rfl) (N:=5) (gs:=[(8,false)]) (Eq.trans (by kernel_rfl) (o1 (ckIns 1 (zp2 t n f k1 hm1 em1) h)))
def exK (f:Nat→Nat→Int) (i:Nat) (z:Int):Bool:=(List.range i).any fun k=>f k 0==z
def idB (f:Nat→Nat→Int) (j:Nat):Bool:=isId (f j 0)&&!exK f j (f j 0)
def idsE (f:Nat→Nat→Int) (n:Nat):Int:=bif decide (n=0) then 8 else bif Nat.beq (ffb (idB f) n 0) n then 0 else bif isId (f (ffb (idB f) n 0) 0) then 5 else 4
def tIDs:TF:=fun args=>match args with
 | [.sc (.vints _ .i64 1 n f)]=>some (Nat.ble n 1073741824,.sc (.int .i64 (idsE f n)))
 | _=>none
theorem zqU (f:Nat→Nat→Int) (i:Nat) (z:Int):exK f (i+1) z=(exK f i z || f i 0==z):=by
 unfold exK;rw [List.range_succ,List.any_append];simp
theorem zwU {t:Bool} {n:Nat} {f:Nat→Nat→Int} (hn:n≤1073741824):∃ k H M,lirun t n f (n+1) 0 0 (fun _=>false) (fun _ _=>0) =
  some (bif Nat.beq (ffb (idB f) n 0) n then .e3 k H M else bif isId (f (ffb (idB f) n 0) 0) then .e2 k H M else .e1 k H M):=by
 have:=scan (O:=liO) (run:=fun m i (s:Nat × ((Nat→Int)→Bool) × ((Nat→Int)→Nat→Int))=>lirun t n f m i s.1 s.2.1 s.2.2) (n:=n) (p:=idB f)
  (nx:=fun i s=>(bif s.2.1 fun _=>f i 0 then s.1 else s.1+1,fun h=>(eqK 1 h fun _=>f i 0) || s.2.1 h,zft t n f i s.1 s.2.1 s.2.2))
  (bad:=fun i s=>bif isId (f i 0) then .e2 s.1 s.2.1 s.2.2 else .e1 s.1 s.2.1 s.2.2) (fin:=fun s=>.e3 s.1 s.2.1 s.2.2)
  (I:=fun i s=>∀ z:Int,decide ((bif s.2.1 (fun _=>z) then s.2.2 (fun _=>z) 0 else 0) > 0)=exK f i z)
  (fun m s _=>by rw [lirun];simp [ckL])
  (fun m i s hi hp hI=>by
   simp only [idB,Bool.and_eq_true,Bool.not_eq_true'] at hp
   have h1:=hI (f i 0)
   rw [hp.2] at h1
   have ei:wr .i64 ((i:Int)+1)=((i+1:Nat):Int):=ewr (by omega)
   refine ⟨?_,fun z=>?_⟩
   ·rw [lirun,ei,Int.toNat_natCast];simp only [ckL,List.foldl,zaM hi,hp.1,h1,decide_eq_true (show (i:Int)<(n:Int) by omega)];rfl
   ·rw [zqU]
    unfold zft
    rw [Int.toNat_natCast,ei]
    have h2:=hI z
    show decide ((bif ((z==f i 0) || s.2.1 fun _=>z) then (bif z==f i 0 then ((i+1:Nat):Int) else s.2.2 (fun _=>z) 0) else 0) > 0)=_
    by_cases e:z=f i 0
    ·rw [e];simp
    ·have e1:(z==f i 0)=false:=by simpa using e
     have e2:(f i 0==z)=false:=by simpa using fun h=>e h.symm
     rw [e1,e2,Bool.false_or,Bool.or_false];exact h2)
  (fun m i s hi hp hI=>by
   have h1:=hI (f i 0)
   cases hb:isId (f i 0) with
   | false=>rw [lirun,Int.toNat_natCast];simp only [ckL,List.foldl,zaM hi,hb,decide_eq_true (show (i:Int)<(n:Int) by omega)];rfl
   | true =>
    have h2:exK f i (f i 0)=true:=by unfold idB at hp;rw [hb] at hp;simpa using hp
    rw [h2] at h1
    rw [lirun,Int.toNat_natCast];simp only [ckL,List.foldl,zaM hi,hb,h1,decide_eq_true (show (i:Int)<(n:Int) by omega)];rfl)
  n 0 (n+1) (0,fun _=>false,fun _ _=>0) (by omega) (by omega) (fun z=>by rfl)
 rcases this with ⟨h,z,h2,_⟩ | ⟨h,z,h2,_⟩
 ·rw [beq_t.2 h];exact ⟨_,_,_,h2⟩
 ·rw [nbf (by omega)]
  refine ⟨z.1,z.2.1,z.2.2,h2.trans ?_⟩
  rfl
theorem zr7:TRow prog F_shamir_listed tIDs:=by
 intro args r h
 unfold tIDs at h
 split at h
 case h_2=>simp at h
 rename_i t n f
 simp only [Option.some.injEq,Prod.mk.injEq,ble_t] at h
 obtain ⟨hn,rfl⟩:=h
 unfold idsE
 by_cases h0:n=0
 ·rw [decide_eq_true h0];exact zx6 t n f (by subst h0;rfl)
 ·rw [decide_eq_false h0]
  have z0:ckL [((n:Int)==0)==false]=true:=by simp [ckL,h0]
  obtain ⟨k,H,M,e⟩:=zwU (t:=t) (f:=f) hn
  cases hb:Nat.beq (ffb (idB f) n 0) n with
  | true=>rw [hb] at e;exact zwk t n f _ _ _ _ e z0
  | false =>
   rw [hb] at e
   cases hi:isId (f (ffb (idB f) n 0) 0) with
   | true=>rw [hi] at e;exact zy7 t n f _ _ _ _ e z0
   | false=>rw [hi] at e;exact zxT t n f _ _ _ _ e z0
noncomputable abbrev idpB:=idsB
noncomputable abbrev idoB:=idsB
abbrev idoS:=idsS
theorem zgm:(Func.body f_rimeref07_IDs).map (bodiesOf 0)=some [.loop idoB]:=zcM
noncomputable abbrev idqB:=idsB
abbrev idpS:=idsS
abbrev idqS:=idsS
theorem zrq:(Func.body f_rimeref07_IDs).map (bodiesOf 0)=some [.loop idpB]:=zcM
theorem zq4:(Func.body f_rimeref07_IDs).map (bodiesOf 0)=some [.loop idqB]:=zcM
theorem zmT:codeOK prog (EnvP.env (envL tt vt0 [] [])).isW idpB=true:=by kernel_rfl
theorem zyH:codeOK prog (EnvP.env (envL tt vt0 [] [])).isW idqB=true:=zmT
theorem zpe:codeOK prog (EnvP.env (envL tt vt0 [] [])).isW idoB=true:=zmT
theorem znL  (t:Bool) (n:Nat) (f:Nat→Nat→Int) (i:Int):stZ [] (rnm 0 []) { tm:=tmOf [(0,AV.sc (SV.vints t IntKind.i64 1 n f)),(3,AV.sc (SV.int IntKind.i64 i)),(4,AV.sc (SV.int IntKind.i64 0))] 40 0,hp:=[] } (ilS t n f i 0)=true:=by simp [stZ,tmOf,tmZ,avZ,svZ,segZ,svR,capR,segR,rIs,rnm,zaj,eqF_1,zam,zaD,zan,hpZ,blkZ,dP_t,newEl,kdOfZ,ndR,isZ,lenS,beq_f,ilS] <;> decide
noncomputable def idpT3 :St:=⟨tmOf [(2,(AV.sc (SV.int IntKind.i64 (5))))] 40 0,[]⟩
theorem zwP  (t:Bool) (n:Nat) (f:Nat→Nat→Int) (i:Int){u:Nat} (q:ilrun t n f i u 0=some .e1) (h:ckL [decide (i<(n:Int))==true,inR i n,decide (f (Int.toNat i) 0<1)==false,inR i n,decide (f (Int.toNat i) 0 > 255)==false]=true) (h':ckL []=true):Rd prog 5 0 idpB (idpS  t n f i) .ret (idpT3 ):=(Rd.of_round VT0 (LsOK.nil.cons (ilL t n f i (l_:=[]) q)) zrq zmT (gs:=[(11,true),(19,false),(25,false)]) (N:=5) (n:=0) (zs:=[]) (l:=[]) (keep:=[2]) (bs:=[]) (by kernel_rfl) (ckIns 5 (znL  t n f i) h) h')
theorem zm1  (t:Bool) (n:Nat) (f:Nat→Nat→Int) (i:Int):stZ [] (rnm 0 []) { tm:=tmOf [(0,AV.sc (SV.vints t IntKind.i64 1 n f)),(3,AV.sc (SV.int IntKind.i64 i)),(4,AV.sc (SV.int IntKind.i64 0))] 40 0,hp:=[] } (ilS t n f i 0)=true:=by simp [stZ,tmOf,tmZ,avZ,svZ,segZ,svR,capR,segR,rIs,rnm,zaj,eqF_1,zam,zaD,zan,hpZ,blkZ,dP_t,newEl,kdOfZ,ndR,isZ,lenS,beq_f,ilS] <;> decide
theorem zxm  (t:Bool) (n:Nat) (f:Nat→Nat→Int) (i:Int){u:Nat} (q:ilrun t n f i u 0=some (.e2 t n f i)) (h:ckL [decide (i<(n:Int))==true,inR i n,decide (f (Int.toNat i) 0<1)==false,inR i n,decide (f (Int.toNat i) 0 > 255)==false]=true) (h':ckL []=true):Rd prog 5 0 idqB (idqS  t n f i) .normal (idqS  (t) (n) (f) (wr IntKind.i64 (i+1))):=(Rd.of_round VT0 (LsOK.nil.cons (ilL t n f i (l_:=[]) q)) zq4 zyH (gs:=[(11,true),(19,false),(25,false)]) (N:=5) (n:=0) (zs:=[]) (l:=[]) (keep:=[0,3]) (bs:=[]) (by kernel_rfl) (ckIns 5 (zm1  t n f i) h) h')
noncomputable def idoT1 :St:=⟨tmOf [(2,(AV.sc (SV.int IntKind.i64 (4))))] 40 0,[]⟩
theorem zw6  (t:Bool) (n:Nat) (f:Nat→Nat→Int) (i:Int) (h:ckL [decide (i<(n:Int))==true,inR i n,decide (f (Int.toNat i) 0<1)==true]=true) (h':ckL []=true):Rd prog 5 0 idoB (idoS  t n f i) .ret (idoT1 ):=(Rd.of_round VT0 LsOK.nil zgm zpe (gs:=[(11,true),(19,true)]) (N:=5) (n:=0) (zs:=[]) (l:=[]) (keep:=[2]) (bs:=[]) (by kernel_rfl) h h')
noncomputable def idoT2 :St:=⟨tmOf [(2,(AV.sc (SV.int IntKind.i64 (4))))] 40 0,[]⟩
theorem zwz  (t:Bool) (n:Nat) (f:Nat→Nat→Int) (i:Int) (h:ckL [decide (i<(n:Int))==true,inR i n,decide (f (Int.toNat i) 0<1)==false,inR i n,decide (f (Int.toNat i) 0 > 255)==true]=true) (h':ckL []=true):Rd prog 5 0 idoB (idoS  t n f i) .ret (idoT2 ):=(Rd.of_round VT0 LsOK.nil zgm zpe (gs:=[(11,true),(19,false),(25,true)]) (N:=5) (n:=0) (zs:=[]) (l:=[]) (keep:=[2]) (bs:=[]) (by kernel_rfl) h h')
noncomputable def idoT3 :St:=⟨tmOf [] 40 0,[]⟩
theorem zsB  (t:Bool) (n:Nat) (f:Nat→Nat→Int) (i:Int) (h:ckL [decide (i<(n:Int))==false]=true) (h':ckL []=true):Rd prog 5 0 idoB (idoS  t n f i) (.exit 0) (idoT3 ):=(Rd.of_round VT0 LsOK.nil zgm zpe (gs:=[(11,false)]) (N:=5) (n:=0) (zs:=[]) (l:=[]) (keep:=[]) (bs:=[]) (by kernel_rfl) h h')
theorem zzk (t:Bool) (n:Nat) (f:Nat→Nat→Int) (hl0:LsOK prog f_rimeref07_IDs [(0,famV 0 [] (idsS t n f 0) Ex.normal idsT4)]) (h:ckL [((n:Int)==0)==true]=true):Pure prog F_rimeref07_IDs [AV.sc (SV.vints t IntKind.i64 1 n f)] (AV.sc (SV.int IntKind.i64 8)) :=
 zad VT0 at_rimeref07_IDs hl0 (by kernel_rfl) (N:=5) (gs:=[(7,true)]) (Eq.trans (by kernel_rfl) (o1 h))
theorem zsj (t:Bool) (n:Nat) (f:Nat→Nat→Int):stZ [] (rnm 0 []) { tm:=tmOf [(0,AV.sc (SV.vints t IntKind.i64 1 n f)),(3,AV.sc (SV.int IntKind.i64 0))] 40 0,hp:=[] } (idsS t n f 0)=true:=by simp [stZ,tmOf,tmZ,avZ,svZ,segZ,svR,capR,segR,rIs,rnm,zaj,eqF_1,zam,zaD,zan,hpZ,blkZ,dP_t,newEl,kdOfZ,ndR,isZ,lenS,beq_f,idsS] <;> decide
theorem zzd (t:Bool) (n:Nat) (f:Nat→Nat→Int) (hl0:LsOK prog f_rimeref07_IDs [(0,famV 0 [] (idsS t n f 0) Ex.normal idsT4)]) (h:ckL [((n:Int)==0)==false]=true):Pure prog F_rimeref07_IDs [AV.sc (SV.vints t IntKind.i64 1 n f)] (AV.sc (SV.int IntKind.i64 0)) :=
 zad VT0 at_rimeref07_IDs hl0 (by kernel_rfl) (N:=5) (gs:=[(7,false)]) (Eq.trans (by kernel_rfl) (o1 (ckIns 1 (zsj t n f) h)))
theorem zrb (t:Bool) (n:Nat) (f:Nat→Nat→Int) (e:Int):stZ [] (rnm 0 []) { tm:=tmOf [(0,AV.sc (SV.vints t IntKind.i64 1 n f)),(3,AV.sc (SV.int IntKind.i64 0))] 40 0,hp:=[] } (idsS t n f 0)=true:=by simp [stZ,tmOf,tmZ,avZ,svZ,segZ,svR,capR,segR,rIs,rnm,zaj,eqF_1,zam,zaD,zan,hpZ,blkZ,dP_t,newEl,kdOfZ,ndR,isZ,lenS,beq_f,idsS] <;> decide
theorem zxV (t:Bool) (n:Nat) (f:Nat→Nat→Int) (e:Int) (hl0:LsOK prog f_rimeref07_IDs [(0,famV 0 [] (idsS t n f 0) Ex.ret (idsT1 e))]) (h:ckL [((n:Int)==0)==false]=true):Pure prog F_rimeref07_IDs [AV.sc (SV.vints t IntKind.i64 1 n f)] (AV.sc (SV.int IntKind.i64 e)) :=
 zad VT0 at_rimeref07_IDs hl0 (by kernel_rfl) (N:=5) (gs:=[(7,false)]) (Eq.trans (by kernel_rfl) (o1 (ckIns 1 (zrb t n f e) h)))
theorem zyx {t:Bool} {n:Nat} {f:Nat→Nat→Int} {i:Nat} (hn:n≤1073741824) (hi:i<n):ilrun t n f i (i+1) 0=some (bif exK f i (f i 0) then .e1 else .e2 t n f i):=by
 have:=scan (O:=ilO) (run:=fun m j (_:Unit)=>ilrun t n f i m j) (n:=i) (p:=fun j=>!(f j 0==f i 0)) (nx:=fun _ s=>s) (bad:=fun _ _=>.e1) (fin:=fun _=>.e2 t n f i) (I:=fun _ _=>True)
  (fun m s _=>by rw [ilrun];simp [ckL])
  (fun m j s hj hp _=>by
   have hg:(f j 0==f i 0)=false:=by simpa using hp
   rw [ilrun,ewr (show j<4611686018427387904 by omega),Int.toNat_natCast,Int.toNat_natCast];simp only [ckL,List.foldl,zaM hi,zaM (show j<n by omega),hg,decide_eq_true (show (j:Int)<(i:Int) by omega)];exact ⟨rfl,trivial⟩)
  (fun m j s hj hp _=>by
   have hg:(f j 0==f i 0)=true:=by simpa using hp
   rw [ilrun,Int.toNat_natCast,Int.toNat_natCast];simp only [ckL,List.foldl,zaM hi,zaM (show j<n by omega),hg,decide_eq_true (show (j:Int)<(i:Int) by omega)];rfl)
  i 0 (i+1) () (by omega) (by omega) trivial
 rcases this with ⟨h,z,h2,_⟩ | ⟨h,z,h2,_⟩
 ·have:exK f i (f i 0)=false:=by
   unfold exK
   rw [List.any_eq_false]
   intro k hk
   have:=zdS (p:=fun j=>!(f j 0==f i 0)) (k:=i) (i:=0) (j:=k) (by omega) (by rw [h];exact List.mem_range.1 hk)
   simpa using this
  rw [this];exact h2
 ·have:exK f i (f i 0)=true:=by
   unfold exK
   rw [List.any_eq_true]
   exact ⟨_,List.mem_range.2 h,by have:=zsC (p:=fun j=>!(f j 0==f i 0)) (k:=i) (i:=0) (by omega);simpa using this⟩
  rw [this];exact h2
theorem zp0 {t:Bool} {n:Nat} {f:Nat→Nat→Int} (hn:n≤1073741824):∀ k i,i+k=n →
  Runs prog 5 0 idsB (idsS t n f i) (bif Nat.beq (ffb (idB f) k i) n then .exit 0 else .ret) (bif Nat.beq (ffb (idB f) k i) n then idsT4 else idsT1 (bif isId (f (ffb (idB f) k i) 0) then 5 else 4)):=by
 intro k
 induction k with
 | zero =>
  intro i hi
  obtain rfl:i=n:=by omega
  rw [show ffb (idB f) 0 i=i from rfl,zan]
  exact .stop (zsB t i f i (by simp [ckL]) rfl)
 | succ k ih =>
  intro i hi
  have hlt:i<n:=by omega
  have l0:decide ((i:Int)<(n:Int))=true:=decide_eq_true (by omega)
  have il:=zyx (t:=t) (f:=f) hn hlt
  unfold ffb
  cases hb:idB f i with
  | true =>
   simp only [idB,Bool.and_eq_true,Bool.not_eq_true'] at hb
   rw [hb.2] at il
   have h12:=zka hb.1
   have s:=zxm t n f i il (by simp only [ckL,List.foldl,l0,zaM hlt,Int.toNat_natCast,decide_eq_false (show ¬ f i 0<1 by omega),decide_eq_false (show ¬ f i 0 > 255 by omega)];rfl) rfl
   rw [ewr (show i<4611686018427387904 by omega)] at s
   exact .step s (Nat.zero_le _) (ih (i+1) (by omega))
  | false =>
   have ne:Nat.beq i n=false:=nbf (by omega)
   show Runs prog 5 0 idsB (idsS t n f i) (bif Nat.beq i n then .exit 0 else .ret) (bif Nat.beq i n then idsT4 else idsT1 (bif isId (f i 0) then 5 else 4))
   rw [ne]
   cases hi:isId (f i 0) with
   | true =>
    have hx:exK f i (f i 0)=true:=by unfold idB at hb;rw [hi] at hb;simpa using hb
    rw [hx] at il
    have h12:=zka hi
    exact .stop (zwP t n f i il (by simp only [ckL,List.foldl,l0,zaM hlt,Int.toNat_natCast,decide_eq_false (show ¬ f i 0<1 by omega),decide_eq_false (show ¬ f i 0 > 255 by omega)];rfl) rfl)
   | false =>
    have:¬ (1≤f i 0∧f i 0≤255):=by simpa [isId] using hi
    by_cases h1:f i 0<1
    ·exact .stop (zw6 t n f i (by simp only [ckL,List.foldl,l0,zaM hlt,Int.toNat_natCast,decide_eq_true h1];rfl) rfl)
    ·exact .stop (zwz t n f i (by simp only [ckL,List.foldl,l0,zaM hlt,Int.toNat_natCast,decide_eq_false h1,decide_eq_true (show f i 0 > 255 by omega)];rfl) rfl)
theorem r_ids:TRow prog F_rimeref07_IDs tIDs:=by
 intro args r h
 unfold tIDs at h
 split at h
 case h_2=>simp at h
 rename_i t n f
 simp only [Option.some.injEq,Prod.mk.injEq,ble_t] at h
 obtain ⟨hn,rfl⟩:=h
 unfold idsE
 by_cases h0:n=0
 ·rw [decide_eq_true h0]
  have L:LRow prog f_rimeref07_IDs 0 (famV 0 [] (idsS t n f 0) .normal idsT4):=LRow.runs mix zcM rfl ⟨_,rfl,by subst h0;exact .stop (zsB t 0 f 0 (by simp [ckL]) rfl)⟩
  exact zzk t n f (LsOK.nil.cons L) (by subst h0;rfl)
 ·rw [decide_eq_false h0]
  have z0:ckL [((n:Int)==0)==false]=true:=by simp [ckL,h0]
  have R:=zp0 (t:=t) (f:=f) hn n 0 (by omega)
  cases hb:Nat.beq (ffb (idB f) n 0) n with
  | true =>
   rw [hb] at R
   exact zzd t n f (LsOK.nil.cons (LRow.runs mix zcM rfl ⟨_,rfl,R⟩)) z0
  | false =>
   rw [hb] at R
   exact zxV t n f _ (LsOK.nil.cons (LRow.runs mix zcM rfl ⟨_,rfl,R⟩)) z0
end Go.Proofs.YtplaklpfeabhiaaGreat
namespace Go.Proofs.YtplaklpfeabhiaaGreat
open Go.Proofs.Tryz
open Go Go.AM
noncomputable def vt1:List (Nat × TF):=(F_shamir_listed,tIDs)::(F_rimeref07_IDs,tIDs)::(F_rimeref07_Eval,tEval)::(F_vss_Commit,tCom)::(F_rimeref08_Commit,tCom)::(F_vss_CheckCommits,tCC)::(F_vss_at,tAt)::vt0
theorem VT1:LibOK prog tt vt1 []:=((((((((VT0).addT r_at)).addT r_cc).addT zyy).addT zxd).addT ztU).addT r_ids).addT zr7
end Go.Proofs.YtplaklpfeabhiaaGreat
namespace Go.Proofs.YtplaklpfeabhiaaGreat
open Go.Proofs.Tryz
open Go Go.AM
def jnW (m k:Nat) (D E:Nat→Nat→Int) (x y:Nat→Int):Nat→List Seg:=fun r=>bif Nat.ble (r+1) k then [Seg.ints .i64 1 (D r),Seg.ints .u8 m (E r)] else cutS (List.getD [[Seg.ints .i64 1 x,Seg.ints .u8 m y]] (r - k) []) 0 (m+1)
theorem zxE {m:Nat} (hm:0<m) (x y:Nat→Int):cutS [Seg.ints .i64 1 x,Seg.ints .u8 m y] 0 (m+1)=[Seg.ints .i64 1 x,Seg.ints .u8 m y]:=by
 obtain ⟨m,rfl⟩:∃ k,m=k+1:=⟨m - 1,by omega⟩
 rfl
theorem zmQ {m k:Nat} (hm:0<m) {D E:Nat→Nat→Int} {x y:Nat→Int} {r:Nat} (hr:r<k+1):jnW m k D E x y r=[Seg.ints .i64 1 (if r<k then D r else x),Seg.ints .u8 m (if r<k then E r else y)]:=by
 unfold jnW
 by_cases h:r<k
 ·rw [zsx h,if_pos h,if_pos h];rfl
 ·obtain rfl:r=k:=by omega
  rw [zsD h,if_neg h,if_neg h,Nat.sub_self]
  exact zxE hm x y
theorem zsv {m k:Nat} (hm:0<m) {D E:Nat→Nat→Int} {x y:Nat→Int}:mvBk (.rows [.ints .i64 1,.ints .u8 m]) (.mix (m+1) (k+1) (jnW m k D E x y))=true:=by
 simp only [mvBk,List.all_eq_true,List.mem_range]
 intro r hr
 rw [zmQ hm hr];simp [shB,zaj,zan]
theorem jnW_0 {m k:Nat} (hm:0<m) {D E G:Nat→Nat→Int} {x y:Nat→Int} (h:RowE k 1 D G) (hx:x 0=G k 0):RowE (k+1) 1 (shF (jnW m k D E x y) 0) G:=fun r hr d hd=>by
 obtain rfl:d=0:=by omega
 unfold shF
 rw [zmQ hm hr]
 by_cases e:r<k
 ·rw [if_pos e];exact h r e 0 hd
 ·obtain rfl:r=k:=by omega
  rw [if_neg e];exact hx
theorem jnW_1 {m k:Nat} (hm:0<m) {D E G:Nat→Nat→Int} {x y:Nat→Int} (h:RowE k m E G) (hy:∀ d,d<m→y d=G k d):RowE (k+1) m (shF (jnW m k D E x y) 1) G:=fun r hr d hd=>by
 unfold shF
 rw [zmQ hm hr]
 show svInt (cellAt _ (1+d))=_
 rw [zae (by omega) (by simp [lenS];omega),Nat.add_sub_cancel_left]
 rw [zac hd]
 by_cases e:r<k
 ·rw [if_pos e];exact h r e d hd
 ·obtain rfl:r=k:=by omega
  rw [if_neg e];exact hy d hd
noncomputable def spB:Code:=match Func.body f_shamir_Split with | some c=>(match bodiesOf 0 c with | [.loop b]=>b | _=>.skip) | none=>.skip
theorem zjr:(Func.body f_shamir_Split).map (bodiesOf 0)=some [.loop spB]:=by kernel_rfl
theorem sp_ok:codeOK prog (EnvP.env (envL tt vt1 [] [])).isW spB=true:=by kernel_rfl
def spS (t t':Bool) (n m:Nat) (f g:Nat→Nat→Int) (i1:Int) (k1:Nat) (D1 D2:Nat→Nat→Int):St:=⟨tmOf [(0,AV.sc (SV.vints t IntKind.u8 32 n f)),(7,AV.sc (SV.slice 0 33 0 0 33 k1)),(15,AV.sc (SV.vints t' IntKind.i64 1 m g)),(16,AV.sc (SV.int IntKind.i64 (m:Int))),(17,AV.sc (SV.int IntKind.i64 i1))] 32 0,[some (Blk.mix 33 k1 fun r=>[Seg.ints IntKind.i64 1 (D1 r),Seg.ints IntKind.u8 32 (D2 r)])]⟩
noncomputable def zdG (t t':Bool) (n m:Nat) (f g:Nat→Nat→Int) (i1:Int) (k1:Nat) (D1 D2:Nat→Nat→Int):Nat→List Seg:=fun r=>bif Nat.ble (r+1) k1 then [Seg.ints IntKind.i64 1 (D1 r),Seg.ints IntKind.u8 32 (D2 r)] else cutS (List.getD [[Seg.ints IntKind.i64 1 fun j=>g (Int.toNat i1) 0,Seg.ints IntKind.u8 32 (lf (byL 32 (hs (hF f) (hval (lf (byL 32 (g (Int.toNat i1) 0))) 32 0) n 0)))]] (r - k1) []) 0 33
def spT1 (k1:Nat) (D1 D2:Nat→Nat→Int):St:=⟨tmOf [(7,(AV.sc (SV.slice 0 33 (0) (0) 33 k1)))] 32 0,[some (Blk.mix 33 k1 (fun r=>[Seg.ints IntKind.i64 1 (D1 r),Seg.ints IntKind.u8 32 (D2 r)]))]⟩
inductive spO where
 | e1 (k1:Nat) (D1 D2:Nat→Nat→Int)
def spex:spO→Ex
 | .e1 ..=>.normal
def spT:spO→St
 | .e1 k1 D1 D2=>spT1 k1 D1 D2
noncomputable def sprun (t t':Bool) (n m:Nat) (f g:Nat→Nat→Int):Nat→(Int)→(Nat)→(Nat→Nat→Int)→(Nat→Nat→Int)→Option spO
 | 0,_,_,_,_=>none
 | m_+1,i1,k1,D1,D2=>bif (ckL [decide (i1<(m:Int))==true,inR i1 m,isId (g (Int.toNat i1) 0),Nat.ble n 1073741824&&(rowsB f n&&areB (lf (byL 32 (g (Int.toNat i1) 0))) 32 0),fits (k1+1) 40&&true]&&ckL [mvBk (.rows [.ints IntKind.i64 1,.ints IntKind.u8 32]) (.mix 33 (k1+1) (zdG t t' n m f g i1 k1 D1 D2))]) then sprun t t' n m f g m_ (wr IntKind.i64 (i1+1)) (k1+1) (shF (zdG t t' n m f g i1 k1 D1 D2) 0) (shF (zdG t t' n m f g i1 k1 D1 D2) 1)
  else bif ckL [decide (i1<(m:Int))==false] then some (.e1 (k1) (D1) (D2))
  else none
theorem spq (t t':Bool) (n m:Nat) (f g:Nat→Nat→Int):∀ (m_:Nat) (i1:Int) (k1:Nat) (D1 D2:Nat→Nat→Int) (o_:spO),sprun t t' n m f g m_ i1 k1 D1 D2=some o_→∃ e1,leave 0 e1=some (spex o_)∧Runs prog 5 0 spB (spS t t' n m f g i1 k1 D1 D2) e1 (spT o_):=by
 intro m_
 induction m_ with
 | zero=>intro i1 k1 D1 D2 o_ h;cases h
 | succ m_ ih =>
  intro i1 k1 D1 D2 o_ h
  rw [sprun] at h
  rcases bifS h with ⟨h1,h⟩ | ⟨_,h⟩
  ·obtain ⟨e1,q1,q2⟩:=ih _ _ _ _ o_ h
   exact ⟨e1,q1,.step (Rd.of_round VT1 LsOK.nil zjr sp_ok (gs:=[(18,true)]) (N:=5) (n:=0) (zs:=[]) (l:=[2]) (keep:=[0,7,15,16,17]) (bs:=[.rows [.ints IntKind.i64 1,.ints IntKind.u8 32]]) (by kernel_rfl) (andB h1).1 (andB h1).2) (Nat.le_of_ble_eq_true rfl) q2⟩
  rcases bifS h with ⟨h1,h⟩ | ⟨_,h⟩
  ·obtain rfl:=Option.some.inj h
   exact ⟨(.exit 0),rfl,.stop (Rd.of_round VT1 LsOK.nil zjr sp_ok (gs:=[(18,false)]) (N:=5) (n:=0) (zs:=[]) (l:=[0]) (keep:=[7]) (bs:=[.keep]) (by kernel_rfl) h1 rfl)⟩
  cases h
theorem spL (t t':Bool) (n m:Nat) (f g:Nat→Nat→Int) {l_:List Nat} {m_:Nat} {i1:Int} {k1:Nat} {D1:Nat→Nat→Int} {D2:Nat→Nat→Int} {o_:spO} (h:sprun t t' n m f g m_ i1 k1 D1 D2=some o_):LRow prog f_shamir_Split 0 (famV 0 l_ (spS t t' n m f g i1 k1 D1 D2) (spex o_) (spT o_)):=LRow.runs mix zjr rfl (spq t t' n m f g m_ i1 k1 D1 D2 o_ h)
noncomputable def rspB:Code:=match Func.body f_rimeref07_Split with | some c=>(match bodiesOf 0 c with | [.loop b]=>b | _=>.skip) | none=>.skip
theorem zgA:(Func.body f_rimeref07_Split).map (bodiesOf 0)=some [.loop rspB]:=by kernel_rfl
theorem zsG:codeOK prog (EnvP.env (envL tt vt1 [] [])).isW rspB=true:=by kernel_rfl
def rspS (t t':Bool) (n m:Nat) (f g:Nat→Nat→Int) (i1:Int) (k1:Nat) (D1 D2:Nat→Nat→Int):St:=⟨tmOf [(0,AV.sc (SV.vints t IntKind.u8 32 n f)),(1,AV.sc (SV.vints t' IntKind.i64 1 m g)),(7,AV.sc (SV.slice 0 33 0 0 33 k1)),(8,AV.sc (SV.int IntKind.i64 i1))] 36 0,[some (Blk.mix 33 k1 fun r=>[Seg.ints IntKind.i64 1 (D1 r),Seg.ints IntKind.u8 32 (D2 r)])]⟩
noncomputable def zcV (t t':Bool) (n m:Nat) (f g:Nat→Nat→Int) (i1:Int) (k1:Nat) (D1 D2:Nat→Nat→Int):Nat→List Seg:=fun r=>bif Nat.ble (r+1) k1 then [Seg.ints IntKind.i64 1 (D1 r),Seg.ints IntKind.u8 32 (D2 r)] else cutS (List.getD [[Seg.ints IntKind.i64 1 fun j=>g (Int.toNat i1) 0,Seg.ints IntKind.u8 32 (lf (byL 32 (hs (hF f) (hval (lf (byL 32 (g (Int.toNat i1) 0))) 32 0) n 0)))]] (r - k1) []) 0 33
def rspT1 (k1:Nat) (D1 D2:Nat→Nat→Int):St:=⟨tmOf [(7,(AV.sc (SV.slice 0 33 (0) (0) 33 k1)))] 36 0,[some (Blk.mix 33 k1 (fun r=>[Seg.ints IntKind.i64 1 (D1 r),Seg.ints IntKind.u8 32 (D2 r)]))]⟩
inductive rspO where
 | e1 (k1:Nat) (D1 D2:Nat→Nat→Int)
def rspex:rspO→Ex
 | .e1 ..=>.normal
def rspT:rspO→St
 | .e1 k1 D1 D2=>rspT1 k1 D1 D2
noncomputable def rsprun (t t':Bool) (n m:Nat) (f g:Nat→Nat→Int):Nat→(Int)→(Nat)→(Nat→Nat→Int)→(Nat→Nat→Int)→Option rspO
 | 0,_,_,_,_=>none
 | m_+1,i1,k1,D1,D2=>bif (ckL [decide (i1<(m:Int))==true,inR i1 m,inR i1 m,isId (g (Int.toNat i1) 0),Nat.ble n 1073741824&&(rowsB f n&&areB (lf (byL 32 (g (Int.toNat i1) 0))) 32 0),fits (k1+1) 40&&true]&&ckL [mvBk (.rows [.ints IntKind.i64 1,.ints IntKind.u8 32]) (.mix 33 (k1+1) (zcV t t' n m f g i1 k1 D1 D2))]) then rsprun t t' n m f g m_ (wr IntKind.i64 (i1+1)) (k1+1) (shF (zcV t t' n m f g i1 k1 D1 D2) 0) (shF (zcV t t' n m f g i1 k1 D1 D2) 1)
  else bif ckL [decide (i1<(m:Int))==false] then some (.e1 (k1) (D1) (D2))
  else none
theorem rspq (t t':Bool) (n m:Nat) (f g:Nat→Nat→Int):∀ (m_:Nat) (i1:Int) (k1:Nat) (D1 D2:Nat→Nat→Int) (o_:rspO),rsprun t t' n m f g m_ i1 k1 D1 D2=some o_→∃ e1,leave 0 e1=some (rspex o_)∧Runs prog 5 0 rspB (rspS t t' n m f g i1 k1 D1 D2) e1 (rspT o_):=by
 intro m_
 induction m_ with
 | zero=>intro i1 k1 D1 D2 o_ h;cases h
 | succ m_ ih =>
  intro i1 k1 D1 D2 o_ h
  rw [rsprun] at h
  rcases bifS h with ⟨h1,h⟩ | ⟨_,h⟩
  ·obtain ⟨e1,q1,q2⟩:=ih _ _ _ _ o_ h
   exact ⟨e1,q1,.step (Rd.of_round VT1 LsOK.nil zgA zsG (gs:=[(17,true)]) (N:=5) (n:=0) (zs:=[]) (l:=[2]) (keep:=[0,1,7,8]) (bs:=[.rows [.ints IntKind.i64 1,.ints IntKind.u8 32]]) (by kernel_rfl) (andB h1).1 (andB h1).2) (Nat.le_of_ble_eq_true rfl) q2⟩
  rcases bifS h with ⟨h1,h⟩ | ⟨_,h⟩
  ·obtain rfl:=Option.some.inj h
   exact ⟨(.exit 0),rfl,.stop (Rd.of_round VT1 LsOK.nil zgA zsG (gs:=[(17,false)]) (N:=5) (n:=0) (zs:=[]) (l:=[0]) (keep:=[7]) (bs:=[.keep]) (by kernel_rfl) h1 rfl)⟩
  cases h
theorem rspL (t t':Bool) (n m:Nat) (f g:Nat→Nat→Int) {l_:List Nat} {m_:Nat} {i1:Int} {k1:Nat} {D1:Nat→Nat→Int} {D2:Nat→Nat→Int} {o_:rspO} (h:rsprun t t' n m f g m_ i1 k1 D1 D2=some o_):LRow prog f_rimeref07_Split 0 (famV 0 l_ (rspS t t' n m f g i1 k1 D1 D2) (rspex o_) (rspT o_)):=LRow.runs mix zgA rfl (rspq t t' n m f g m_ i1 k1 D1 D2 o_ h)
noncomputable def sshB:Code:=match Func.body f_rimeplain_SameShares with | some c=>(match bodiesOf 0 c with | [.loop b]=>b | _=>.skip) | none=>.skip
theorem zeI:(Func.body f_rimeplain_SameShares).map (bodiesOf 0)=some [.loop sshB]:=by kernel_rfl
theorem zpj:codeOK prog (EnvP.env (envL tt vt1 [] [])).isW sshB=true:=by kernel_rfl
def sshS (t t':Bool) (n m:Nat) (A B C D:Nat→Nat→Int) (i1:Int):St:=⟨tmOf [(0,AV.sc (SV.vrows t 33 n fun j=>[Seg.ints IntKind.i64 1 (A j),Seg.ints IntKind.u8 32 (B j)])),(1,AV.sc (SV.vrows t' 33 m fun j=>[Seg.ints IntKind.i64 1 (C j),Seg.ints IntKind.u8 32 (D j)])),(5,AV.sc (SV.int IntKind.i64 i1))] 26 0,[]⟩
def sshT1 :St:=⟨tmOf [(4,(AV.sc (SV.bool (false))))] 26 0,[]⟩
def sshT2 :St:=⟨tmOf [] 26 0,[]⟩
inductive sshO where
 | e1 
 | e2 
def sshex:sshO→Ex
 | .e1 ..=>.ret
 | .e2 ..=>.normal
def sshT:sshO→St
 | .e1=>sshT1
 | .e2=>sshT2
noncomputable def sshrun (t t':Bool) (n m:Nat) (A B C D:Nat→Nat→Int):Nat→(Int)→Option sshO
 | 0,_=>none
 | m_+1,i1=>bif ckL [decide (i1<(n:Int))==true,inR i1 n,inR i1 m,(!(eqN 1 (A (Int.toNat i1)) (C (Int.toNat i1))&&(eqN 32 (B (Int.toNat i1)) (D (Int.toNat i1))&&true)))==true] then some (.e1 )
  else bif ckL [decide (i1<(n:Int))==true,inR i1 n,inR i1 m,(!(eqN 1 (A (Int.toNat i1)) (C (Int.toNat i1))&&(eqN 32 (B (Int.toNat i1)) (D (Int.toNat i1))&&true)))==false] then sshrun t t' n m A B C D m_ (wr IntKind.i64 (i1+1))
  else bif ckL [decide (i1<(n:Int))==false] then some (.e2 )
  else none
theorem sshq (t t':Bool) (n m:Nat) (A B C D:Nat→Nat→Int):∀ (m_:Nat) (i1:Int) (o_:sshO),sshrun t t' n m A B C D m_ i1=some o_→∃ e1,leave 0 e1=some (sshex o_)∧Runs prog 5 0 sshB (sshS t t' n m A B C D i1) e1 (sshT o_):=by
 intro m_
 induction m_ with
 | zero=>intro i1 o_ h;cases h
 | succ m_ ih =>
  intro i1 o_ h
  rw [sshrun] at h
  rcases bifS h with ⟨h1,h⟩ | ⟨_,h⟩
  ·obtain rfl:=Option.some.inj h
   exact ⟨.ret,rfl,.stop (Rd.of_round VT1 LsOK.nil zeI zpj (gs:=[(14,true),(25,true)]) (N:=5) (n:=0) (zs:=[]) (l:=[]) (keep:=[4]) (bs:=[]) (by kernel_rfl) h1 rfl)⟩
  rcases bifS h with ⟨h1,h⟩ | ⟨_,h⟩
  ·obtain ⟨e1,q1,q2⟩:=ih _ o_ h
   exact ⟨e1,q1,.step (Rd.of_round VT1 LsOK.nil zeI zpj (gs:=[(14,true),(25,false)]) (N:=5) (n:=0) (zs:=[]) (l:=[]) (keep:=[0,1,5]) (bs:=[]) (by kernel_rfl) h1 rfl) (Nat.le_of_ble_eq_true rfl) q2⟩
  rcases bifS h with ⟨h1,h⟩ | ⟨_,h⟩
  ·obtain rfl:=Option.some.inj h
   exact ⟨(.exit 0),rfl,.stop (Rd.of_round VT1 LsOK.nil zeI zpj (gs:=[(14,false)]) (N:=5) (n:=0) (zs:=[]) (l:=[]) (keep:=[]) (bs:=[]) (by kernel_rfl) h1 rfl)⟩
  cases h
theorem sshL (t t':Bool) (n m:Nat) (A B C D:Nat→Nat→Int) {l_:List Nat} {m_:Nat} {i1:Int} {o_:sshO} (h:sshrun t t' n m A B C D m_ i1=some o_):LRow prog f_rimeplain_SameShares 0 (famV 0 l_ (sshS t t' n m A B C D i1) (sshex o_) (sshT o_)):=LRow.runs mix zeI rfl (sshq t t' n m A B C D m_ i1 o_ h)
end Go.Proofs.YtplaklpfeabhiaaGreat
namespace Go.Proofs.YtplaklpfeabhiaaGreat
open Go.Proofs.Tryz
open Go Go.AM
noncomputable def smElementsB:Code:=match f_rimeplain_SameElements.body with | some c=>(match bodiesOf 0 c with | [.loop b]=>b | _=>.skip) | none=>.skip
def smElementsV (t t':Bool) (n:Nat) (f g:Nat→Nat→Int) (v:Int):St:=⟨tmOf [(0,.sc (.vints t .u8 32 n f)),(1,.sc (.vints t' .u8 32 n g)),(5,.sc (.int .i64 v))] 26 0,[]⟩
def smElements1:St:=⟨tmOf [] 26 0,[]⟩
def smElements2:St:=⟨tmOf [(4,.sc (.bool false))] 26 0,[]⟩
def smElementsN (f g:Nat→Nat→Int) (v:Int):Bool:=!(eqN 32 (ld0 (f v.toNat)) (ld0 (g v.toNat))&&true)
theorem smElementsr (t t':Bool) (n:Nat) (f g:Nat→Nat→Int) (v v':Int):roundR pE [(14,true),(25,false)] 5 0 [] smElementsB (smElementsV t t' n f g v) .normal (smElementsV t t' n f g v') =
  some (ckL [decide (v<(n:Int))==true,inR v n,inR v n,smElementsN f g v==false]&&stR (rnm 0 []) (smElementsV t t' n f g (wr .i64 (v+1))) (smElementsV t t' n f g v')):=by kernel_rfl
theorem smElementss (t t':Bool) (n:Nat) (f g:Nat→Nat→Int) (v:Int):roundR pE [(14,false)] 5 0 [] smElementsB (smElementsV t t' n f g v) (.exit 0) smElements1=some (ckL [decide (v<(n:Int))==false]&&true):=by kernel_rfl
theorem smElementst (t t':Bool) (n:Nat) (f g:Nat→Nat→Int) (v:Int):roundR pE [(14,true),(25,true)] 5 0 [] smElementsB (smElementsV t t' n f g v) .ret smElements2 =
  some (ckL [decide (v<(n:Int))==true,inR v n,inR v n,smElementsN f g v==true]&&true):=by kernel_rfl
theorem smElementse {t t':Bool} {n:Nat} {f g:Nat→Nat→Int} {v v':Int} (h:v=v'):stR (rnm 0 []) (smElementsV t t' n f g v) (smElementsV t t' n f g v')=true:=by
 subst h
 simp [stR,smElementsV,tmOf,tmR,avR,svR,rnm,zaj,zam,hpR,ndR]
theorem smElementsn (f g:Nat→Nat→Int) (k:Nat):smElementsN f g (k:Int)=!eqN 32 (f k) (g k):=by
 unfold smElementsN
 rw [Int.toNat_natCast]
 rw [za1,za1,Bool.and_true]
def smElementsP (f g:Nat→Nat→Int) (j:Nat):Bool:=eqN 32 (f j) (g j)
theorem smElementsf (f g:Nat→Nat→Int) (n:Nat):eqF n 32 f g=Nat.beq (firstF (smElementsP f g) n 0) n:=by
 obtain ⟨h1,h2,h3,h4⟩:=zaG (smElementsP f g) n 0
 rw [Bool.eq_iff_iff]
 constructor
 ·intro h
  refine beq_t.2 ?_
  rcases Nat.lt_or_ge (firstF (smElementsP f g) n 0) n with q | q
  ·have:=h4 (by omega)
   rw [show smElementsP f g (firstF (smElementsP f g) n 0)=true from zct fun d hd=>eqF_t h _ q d hd] at this
   cases this
  ·omega
 ·intro h
  have h:=beq_t.1 h
  exact zaK fun r hr d hd=>AM.eqN_t (h3 r (Nat.zero_le _) (by omega)) d hd
def smElementsF1 (t t':Bool) (n:Nat) (f g:Nat→Nat→Int):LF:=famA 0 [] (smElementsV t t' n f g ((0:Nat):Int)) (big n&&Nat.beq (firstF (smElementsP f g) n 0) n) .normal smElements1
def smElementsF2 (t t':Bool) (n:Nat) (f g:Nat→Nat→Int):LF:=famA 0 [] (smElementsV t t' n f g ((0:Nat):Int)) (big n&&Nat.ble (firstF (smElementsP f g) n 0+1) n) .ret smElements2
theorem smElementsb:f_rimeplain_SameElements.body.map (bodiesOf 0)=some [.loop smElementsB]:=by kernel_rfl
theorem smElementsk:codeOK prog pE.env.isW smElementsB=true:=by kernel_rfl
theorem smElementsstep {t t':Bool} {n:Nat} {f g:Nat→Nat→Int} (hb:big n=true) {k:Nat} (hk:k<firstF (smElementsP f g) n 0) :
  ∃ s1 r,am pE.env 5 smElementsB (smElementsV t t' n f g (k:Int))=some (.normal,s1)∧StLeR r s1 (smElementsV t t' n f g ((k+1:Nat):Int))∧∀ i,i<0→r i=some i:=by
 have hb:n≤4611686018427387904:=Nat.le_of_ble_eq_true hb
 obtain ⟨_,h2,h3,_⟩:=zaG (smElementsP f g) n 0
 have hkn:k<n:=by omega
 have ew:wr .i64 ((k:Int)+1)=((k+1:Nat):Int):=by rw [za8 (by omega) (by omega)];rfl
 refine zal (smElementsr t t' n f g (k:Int) ((k+1:Nat):Int)) (and_t.2 ⟨?_,smElementse ew⟩)
 rw [smElementsn,show eqN 32 (f k) (g k)=true from h3 k (Nat.zero_le _) hk,zbi hkn]
 simp [ckL];omega
theorem zhi (t t':Bool) (n:Nat) (f g:Nat→Nat→Int):LRow prog f_rimeplain_SameElements 0 (smElementsF1 t t' n f g):=by
 refine LRow.famA (N:=5) (S:=fun k=>smElementsV t t' n f g (k:Int)) (L0.env []) mix n (za2 smElementsb) smElementsk (fun w0 own0=>zat (fun id=>rfl) smElementsB) (fun _ _=>Nat.zero_le _) (Nat.zero_le _) fun ha=>?_
 simp only [Bool.and_eq_true,beq_t] at ha
 refine ⟨fun k hk=>smElementsstep ha.1 (by omega),?_⟩
 obtain ⟨s1,r,q1,q2,q3⟩:=zal (n:=0) (smElementss t t' n f g (n:Int)) (and_t.2 ⟨by simp [ckL],rfl⟩)
 exact ⟨_,s1,r,q1,rfl,q2,q3⟩
theorem zhl (t t':Bool) (n:Nat) (f g:Nat→Nat→Int):LRow prog f_rimeplain_SameElements 0 (smElementsF2 t t' n f g):=by
 refine LRow.famA (N:=5) (S:=fun k=>smElementsV t t' n f g (k:Int)) (L0.env []) mix (firstF (smElementsP f g) n 0) (za2 smElementsb) smElementsk (fun w0 own0=>zat (fun id=>rfl) smElementsB) (fun _ _=>Nat.zero_le _) (Nat.zero_le _) fun ha=>?_
 simp only [Bool.and_eq_true,ble_t] at ha
 refine ⟨fun k hk=>smElementsstep ha.1 hk,?_⟩
 have h4:=(zaG (smElementsP f g) n 0).2.2.2 (by omega)
 obtain ⟨s1,r,q1,q2,q3⟩:=zal (n:=0) (smElementst t t' n f g ((firstF (smElementsP f g) n 0:Nat):Int)) (and_t.2 ⟨by
  rw [smElementsn,show eqN 32 (f (firstF (smElementsP f g) n 0)) (g (firstF (smElementsP f g) n 0))=false from h4,zbi (show firstF (smElementsP f g) n 0<n by omega)]
  simp [ckL];omega,rfl⟩)
 exact ⟨_,s1,r,q1,rfl,q2,q3⟩
def tSameElements:TF:=fun args=>match args with
 | [.sc (.vints _ .u8 32 n f),.sc (.vints _ .u8 32 m g)]=>some (big n,.sc (.bool (Nat.beq n m&&eqF n 32 f g)))
 | _=>none
theorem zgL:fnChk prog pE f_rimeplain_SameElements=true:=by kernel_rfl
theorem zhe (t t':Bool) (n:Nat) (f g:Nat→Nat→Int):fnChk prog (envL tt [] [] [(0,smElementsF1 t t' n f g)]) f_rimeplain_SameElements=true:=by kernel_rfl
theorem zgy (t t':Bool) (n:Nat) (f g:Nat→Nat→Int):fnChk prog (envL tt [] [] [(0,smElementsF2 t t' n f g)]) f_rimeplain_SameElements=true:=by kernel_rfl
theorem zgZ (t t':Bool) (n:Nat) (f g:Nat→Nat→Int):outP (apFunc (envL tt [] [] [(0,smElementsF1 t t' n f g)]) [(10,false)] 5 f_rimeplain_SameElements [.sc (.vints t .u8 32 n f),.sc (.vints t' .u8 32 n g)] []) =
  some (ckL [((n:Int) != (n:Int))==false,(big n&&Nat.beq (firstF (smElementsP f g) n 0) n)&&stR (rnm 0 []) (smElementsV t t' n f g 0) (smElementsV t t' n f g ((0:Nat):Int))],.sc (.bool true)):=by kernel_rfl
theorem zgM (t t':Bool) (n:Nat) (f g:Nat→Nat→Int):outP (apFunc (envL tt [] [] [(0,smElementsF2 t t' n f g)]) [(10,false)] 5 f_rimeplain_SameElements [.sc (.vints t .u8 32 n f),.sc (.vints t' .u8 32 n g)] []) =
  some (ckL [((n:Int) != (n:Int))==false,(big n&&Nat.ble (firstF (smElementsP f g) n 0+1) n)&&stR (rnm 0 []) (smElementsV t t' n f g 0) (smElementsV t t' n f g ((0:Nat):Int))],.sc (.bool false)):=by kernel_rfl
theorem zgx (t t':Bool) (n m:Nat) (f g:Nat→Nat→Int):outP (apFunc pE [(10,true)] 5 f_rimeplain_SameElements [.sc (.vints t .u8 32 n f),.sc (.vints t' .u8 32 m g)] [])=some (ckL [((n:Int) != (m:Int))==true],.sc (.bool false)):=by kernel_rfl
theorem zfE:TRow prog F_rimeplain_SameElements tSameElements:=by
 intro args r h
 unfold tSameElements at h
 split at h
 case h_2=>simp at h
 rename_i t n f t' m g
 simp only [Option.some.injEq,Prod.mk.injEq] at h
 obtain ⟨hb,rfl⟩:=h
 by_cases e:n=m
 ·subst e
  have hs:stR (rnm 0 []) (smElementsV t t' n f g 0) (smElementsV t t' n f g ((0:Nat):Int))=true:=smElementse rfl
  rw [smElementsf,zan]
  cases he:Nat.beq (firstF (smElementsP f g) n 0) n with
  | true =>
   have e:=zgZ t t' n f g
   rw [hb,he,hs,nn_t] at e
   exact zad L0 at_rimeplain_SameElements (LsOK.nil.cons (zhi t t' n f g)) (zhe t t' n f g) (N:=5) (gs:=[(10,false)]) e
  | false =>
   have hlt:Nat.ble (firstF (smElementsP f g) n 0+1) n=true:=Nat.ble_eq_true_of_le (by
    have:=(zaG (smElementsP f g) n 0).2.1
    have:=beq_f.1 he
    omega)
   have e:=zgM t t' n f g
   rw [hb,hlt,hs,nn_t] at e
   exact zad L0 at_rimeplain_SameElements (LsOK.nil.cons (zhl t t' n f g)) (zgy t t' n f g) (N:=5) (gs:=[(10,false)]) e
 ·have e2:=zgx t t' n m f g
  rw [nm_t e] at e2
  rw [show Nat.beq n m=false from beq_f.2 e]
  exact zab L0 at_rimeplain_SameElements zgL (N:=5) (gs:=[(10,true)]) e2
end Go.Proofs.YtplaklpfeabhiaaGreat
namespace Go.Proofs.YtplaklpfeabhiaaGreat
open Go.Proofs.Tryz
open Go Go.AM
theorem zx9 (t t':Bool) (n m:Nat) (f g:Nat→Nat→Int) (h:ckL [Nat.ble m 1073741824,(idsE g m != 0)==true]=true):Pure prog F_shamir_Split [AV.sc (SV.vints t IntKind.u8 32 n f),AV.sc (SV.vints t' IntKind.i64 1 m g)] (AV.tup [AV.sc SV.nils,AV.sc (SV.int IntKind.i64 (idsE g m))]) :=
 zad VT1 at_shamir_Split LsOK.nil (by kernel_rfl) (N:=5) (gs:=[(13,true)]) (Eq.trans (by kernel_rfl) (o1 h))
theorem zpA (t t':Bool) (n m:Nat) (f g:Nat→Nat→Int) (k1:Nat) (D1 D2:Nat→Nat→Int):stZ [] (rnm 0 []) { tm:=tmOf [(0,AV.sc (SV.vints t IntKind.u8 32 n f)),(7,AV.sc SV.nils),(15,AV.sc (SV.vints t' IntKind.i64 1 m g)),(16,AV.sc (SV.int IntKind.i64 (m:Int))),(17,AV.sc (SV.int IntKind.i64 0))] 32 0,hp:=[] } (spS t t' n m f g 0 0 (fun _ _=>0) fun _ _=>0)=true:=by simp [stZ,tmOf,tmZ,avZ,svZ,segZ,svR,capR,segR,rIs,rnm,zaj,eqF_1,zam,zaD,zan,hpZ,blkZ,dP_t,newEl,kdOfZ,ndR,isZ,spS] <;> decide
theorem zxl (t t':Bool) (n m:Nat) (f g:Nat→Nat→Int) (k1:Nat) (D1 D2:Nat→Nat→Int) (m1:Nat) (r1:sprun (t) (t') (n) (m) (f) (g) m1 (0) (0) (fun _ _=>0) (fun _ _=>0)=some (spO.e1 k1 D1 D2)) (h:ckL [Nat.ble m 1073741824,(idsE g m != 0)==false]=true) (h2:ckL [rowsAll [Sh.ints IntKind.i64 1,Sh.ints IntKind.u8 32] k1 fun j=>[Seg.ints IntKind.i64 1 (D1 j),Seg.ints IntKind.u8 32 (D2 j)]]=true):Pure prog F_shamir_Split [AV.sc (SV.vints t IntKind.u8 32 n f),AV.sc (SV.vints t' IntKind.i64 1 m g)] (AV.tup [AV.sc (SV.vrows true 33 k1 fun j=>[Seg.ints IntKind.i64 1 fun d=>svInt (cellAt [Seg.ints IntKind.i64 1 (D1 j),Seg.ints IntKind.u8 32 (D2 j)] (0+d)),Seg.ints IntKind.u8 32 fun d=>svInt (cellAt [Seg.ints IntKind.i64 1 (D1 j),Seg.ints IntKind.u8 32 (D2 j)] (1+d))]),AV.sc (SV.int IntKind.i64 0)]) :=
 zbE VT1 at_shamir_Split (LsOK.nil.cons (spL (t) (t') (n) (m) (f) (g) (l_:=[]) r1)) (by kernel_rfl) (N:=5) (gs:=[(13,false)]) k33 (Eq.trans (by kernel_rfl) (o2 (ckIns 2 (zpA t t' n m f g k1 D1 D2) h) h2))
theorem ztG (t t':Bool) (n m:Nat) (f g:Nat→Nat→Int) (h:ckL [Nat.ble m 1073741824,(idsE g m != 0)==true]=true):Pure prog F_rimeref07_Split [AV.sc (SV.vints t IntKind.u8 32 n f),AV.sc (SV.vints t' IntKind.i64 1 m g)] (AV.tup [AV.sc SV.nils,AV.sc (SV.int IntKind.i64 (idsE g m))]) :=
 zad VT1 at_rimeref07_Split LsOK.nil (by kernel_rfl) (N:=5) (gs:=[(12,true)]) (Eq.trans (by kernel_rfl) (o1 h))
theorem zmE (t t':Bool) (n m:Nat) (f g:Nat→Nat→Int) (k1:Nat) (D1 D2:Nat→Nat→Int):stZ [] (rnm 0 []) { tm:=tmOf [(0,AV.sc (SV.vints t IntKind.u8 32 n f)),(1,AV.sc (SV.vints t' IntKind.i64 1 m g)),(7,AV.sc SV.nils),(8,AV.sc (SV.int IntKind.i64 0))] 36 0,hp:=[] } (rspS t t' n m f g 0 0 (fun _ _=>0) fun _ _=>0)=true:=by simp [stZ,tmOf,tmZ,avZ,svZ,segZ,svR,capR,segR,rIs,rnm,zaj,eqF_1,zam,zaD,zan,hpZ,blkZ,dP_t,newEl,kdOfZ,ndR,isZ,rspS] <;> decide
theorem ztL (t t':Bool) (n m:Nat) (f g:Nat→Nat→Int) (k1:Nat) (D1 D2:Nat→Nat→Int) (m1:Nat) (r1:rsprun (t) (t') (n) (m) (f) (g) m1 (0) (0) (fun _ _=>0) (fun _ _=>0)=some (rspO.e1 k1 D1 D2)) (h:ckL [Nat.ble m 1073741824,(idsE g m != 0)==false]=true) (h2:ckL [rowsAll [Sh.ints IntKind.i64 1,Sh.ints IntKind.u8 32] k1 fun j=>[Seg.ints IntKind.i64 1 (D1 j),Seg.ints IntKind.u8 32 (D2 j)]]=true):Pure prog F_rimeref07_Split [AV.sc (SV.vints t IntKind.u8 32 n f),AV.sc (SV.vints t' IntKind.i64 1 m g)] (AV.tup [AV.sc (SV.vrows true 33 k1 fun j=>[Seg.ints IntKind.i64 1 fun d=>svInt (cellAt [Seg.ints IntKind.i64 1 (D1 j),Seg.ints IntKind.u8 32 (D2 j)] (0+d)),Seg.ints IntKind.u8 32 fun d=>svInt (cellAt [Seg.ints IntKind.i64 1 (D1 j),Seg.ints IntKind.u8 32 (D2 j)] (1+d))]),AV.sc (SV.int IntKind.i64 0)]) :=
 zbE VT1 at_rimeref07_Split (LsOK.nil.cons (rspL (t) (t') (n) (m) (f) (g) (l_:=[]) r1)) (by kernel_rfl) (N:=5) (gs:=[(12,false)]) k33 (Eq.trans (by kernel_rfl) (o2 (ckIns 2 (zmE t t' n m f g k1 D1 D2) h) h2))
theorem ztX (t t':Bool) (n m:Nat) (A B C D:Nat→Nat→Int) (h:ckL [((n:Int) != (m:Int))==true]=true):Pure prog F_rimeplain_SameShares [AV.sc (SV.vrows t 33 n (nbR 32 A B)),AV.sc (SV.vrows t' 33 m (nbR 32 C D))] (AV.sc (SV.bool false)) :=
 zad VT1 at_rimeplain_SameShares LsOK.nil (by kernel_rfl) (N:=5) (gs:=[(10,true)]) (Eq.trans (by kernel_rfl) (o1 h))
theorem zmX (t t':Bool) (n m:Nat) (A B C D:Nat→Nat→Int):stZ [] (rnm 0 []) { tm:=tmOf [(0,AV.sc (SV.vrows t 33 n fun j=>[Seg.ints IntKind.i64 1 (A j),Seg.ints IntKind.u8 32 (B j)])),(1,AV.sc (SV.vrows t' 33 m fun j=>[Seg.ints IntKind.i64 1 (C j),Seg.ints IntKind.u8 32 (D j)])),(5,AV.sc (SV.int IntKind.i64 0))] 26 0,hp:=[] } (sshS t t' n m A B C D 0)=true:=by simp [stZ,tmOf,tmZ,avZ,svZ,segZ,svR,capR,segR,rIs,rnm,zaj,eqF_1,zam,zaD,zan,hpZ,blkZ,dP_t,newEl,kdOfZ,ndR,isZ,sshS] <;> decide
theorem zvX (t t':Bool) (n m:Nat) (A B C D:Nat→Nat→Int) (m1:Nat) (r1:sshrun (t) (t') (n) (m) (A) (B) (C) (D) m1 (0)=some (sshO.e1)) (h:ckL [((n:Int) != (m:Int))==false]=true):Pure prog F_rimeplain_SameShares [AV.sc (SV.vrows t 33 n (nbR 32 A B)),AV.sc (SV.vrows t' 33 m (nbR 32 C D))] (AV.sc (SV.bool false)) :=
 zad VT1 at_rimeplain_SameShares (LsOK.nil.cons (sshL (t) (t') (n) (m) (A) (B) (C) (D) (l_:=[]) r1)) (by kernel_rfl) (N:=5) (gs:=[(10,false)]) (Eq.trans (by kernel_rfl) (o1 (ckIns 1 (zmX t t' n m A B C D) h)))
theorem zmN (t t':Bool) (n m:Nat) (A B C D:Nat→Nat→Int):stZ [] (rnm 0 []) { tm:=tmOf [(0,AV.sc (SV.vrows t 33 n fun j=>[Seg.ints IntKind.i64 1 (A j),Seg.ints IntKind.u8 32 (B j)])),(1,AV.sc (SV.vrows t' 33 m fun j=>[Seg.ints IntKind.i64 1 (C j),Seg.ints IntKind.u8 32 (D j)])),(5,AV.sc (SV.int IntKind.i64 0))] 26 0,hp:=[] } (sshS t t' n m A B C D 0)=true:=by simp [stZ,tmOf,tmZ,avZ,svZ,segZ,svR,capR,segR,rIs,rnm,zaj,eqF_1,zam,zaD,zan,hpZ,blkZ,dP_t,newEl,kdOfZ,ndR,isZ,sshS] <;> decide
theorem zuW (t t':Bool) (n m:Nat) (A B C D:Nat→Nat→Int) (m1:Nat) (r1:sshrun (t) (t') (n) (m) (A) (B) (C) (D) m1 (0)=some (sshO.e2)) (h:ckL [((n:Int) != (m:Int))==false]=true):Pure prog F_rimeplain_SameShares [AV.sc (SV.vrows t 33 n (nbR 32 A B)),AV.sc (SV.vrows t' 33 m (nbR 32 C D))] (AV.sc (SV.bool true)) :=
 zad VT1 at_rimeplain_SameShares (LsOK.nil.cons (sshL (t) (t') (n) (m) (A) (B) (C) (D) (l_:=[]) r1)) (by kernel_rfl) (N:=5) (gs:=[(10,false)]) (Eq.trans (by kernel_rfl) (o1 (ckIns 1 (zmN t t' n m A B C D) h)))
theorem rv_nb {m n:Nat} {A B G H:Nat→Nat→Int} {e:Int} (hA:RowE n 1 A G) (hB:RowE n m B H):rvR (.tup [.sc (.vrows true (m+1) n (nbR m A B)),.sc (.int .i64 e)]) (.tup [.sc (.vrows true (m+1) n (nbR m G H)),.sc (.int .i64 e)])=true:=by
 simp only [rvR,twR,svR,zan,zaj,Bool.and_true,Bool.true_and,beq_self_eq_true,decide_true,List.all_eq_true,List.mem_range,Bool.and_eq_true]
 intro j hj
 simp only [nbR,segR,zaj,zan,Bool.and_true,Bool.true_and,Bool.and_eq_true]
 exact ⟨zct fun d hd=>hA j hj d hd,zct fun d hd=>hB j hj d hd⟩
theorem zs0 {m:Nat} {G H:Nat→Nat→Int} {e:Int}:rvR (.tup [.sc .nils,.sc (.int .i64 e)]) (.tup [.sc (.vrows true (m+1) 0 (nbR m G H)),.sc (.int .i64 e)])=true:=by
 simp [rvR,twR,svR,zaj]
theorem zgH {n w:Nat} {A B C:Nat→Nat→Int} (h:RowE n w A B) (h2:RowE n w B C):RowE n w A C:=fun r hr d hd=>(h r hr d hd).trans (h2 r hr d hd)
theorem zgj {m n:Nat} {A B:Nat→Nat→Int}:RowE n 1 (shF (nbR m A B) 0) A:=fun r _ d hd=>nbA hd
theorem zgG {m n:Nat} {A B:Nat→Nat→Int}:RowE n m (shF (nbR m A B) 1) B:=fun r _ d hd=>nbB hd
theorem zyn {f:Nat→Nat→Int} {n:Nat} (h:idsE f n=0):0<n∧ffb (idB f) n 0=n:=by
 unfold idsE at h
 by_cases h0:n=0
 ·rw [decide_eq_true h0] at h;simp at h
 ·refine ⟨by omega,?_⟩
  rw [decide_eq_false h0] at h
  cases hb:Nat.beq (ffb (idB f) n 0) n with
  | true=>exact beq_t.1 hb
  | false =>
   rw [hb] at h
   cases hi:isId (f (ffb (idB f) n 0) 0) <;> rw [hi] at h <;> simp at h
theorem zoa {f:Nat→Nat→Int} {n:Nat} (h:idsE f n=0) (j:Nat) (hj:j<n):isId (f j 0)=true:=by
 have:=zdS (p:=idB f) (k:=n) (i:=0) (j:=j) (Nat.zero_le _) (by rw [(zyn h).2];exact hj)
 unfold idB at this
 simp only [Bool.and_eq_true] at this
 exact this.1
def spA (g:Nat→Nat→Int):Nat→Nat→Int:=fun j _=>g j 0
def spV (f g:Nat→Nat→Int) (n:Nat):Nat→Nat→Int:=fun j=>lf (byL 32 (hs (hF f) (g j 0) n 0))
def tSplit:TF:=fun args=>match args with
 | [.sc (.vints _ .u8 32 n f),.sc (.vints _ .i64 1 m g)]=>some (Nat.ble m 1073741824&&(Nat.ble n 1073741824&&rowsB f n),.tup [.sc (.vrows true 33 (bif idsE g m==0 then m else 0) (nbR 32 (spA g) (spV f g n))),.sc (.int .i64 (idsE g m))])
 | _=>none
theorem zzh {t t':Bool} {n m:Nat} {f g:Nat→Nat→Int} (hn:n≤1073741824) (hm:m≤1073741824) (hf:rowsB f n=true) (hi:∀ j,j<m→isId (g j 0)=true) :
  ∃ D E,sprun t t' n m f g (m+1) 0 0 (fun _ _=>0) (fun _ _=>0)=some (.e1 m D E)∧RowE m 1 D (spA g)∧RowE m 32 E (spV f g n):=by
 have:=scan (O:=spO) (run:=fun u i (s:Nat × (Nat→Nat→Int) × (Nat→Nat→Int))=>sprun t t' n m f g u i s.1 s.2.1 s.2.2) (n:=m) (p:=fun _=>true) (nx:=fun i s=>(s.1+1,shF (zdG t t' n m f g i s.1 s.2.1 s.2.2) 0,shF (zdG t t' n m f g i s.1 s.2.1 s.2.2) 1))
  (bad:=fun _ s=>.e1 s.1 s.2.1 s.2.2) (fin:=fun s=>.e1 s.1 s.2.1 s.2.2) (I:=fun i s=>s.1=i∧RowE i 1 s.2.1 (spA g)∧RowE i 32 s.2.2 (spV f g n))
  (fun u s _=>by rw [sprun];simp [ckL])
  (fun u i s hj hp hI=>by
   obtain ⟨k,D,E⟩:=s
   obtain ⟨rfl,h1,h2⟩:=hI
   dsimp only at h1 h2 hj ⊢
   have hid:=hi k hj
   refine ⟨?_,rfl,?_,?_⟩
   ·rw [sprun,show mvBk (.rows [.ints IntKind.i64 1,.ints IntKind.u8 32]) (.mix 33 (k+1) (zdG t t' n m f g k k D E))=true from zsv (m:=32) (by omega),Int.toNat_natCast]
    simp only [ckL,List.foldl,zaM hj,hid,decide_eq_true (show (k:Int)<(m:Int) by omega),Nat.ble_eq_true_of_le hn,hf,za0,zgB (show k+1≤1073741824 by omega) (show 40≤1024 by omega),ewr (show k<4611686018427387904 by omega)];rfl
   ·exact jnW_0 (m:=32) (by omega) h1 (by rw [Int.toNat_natCast];rfl)
   ·exact jnW_1 (m:=32) (by omega) h2 (fun d _=>by rw [Int.toNat_natCast,r_b32 (id_r hid)];rfl))
  (fun u i s hj hp hI=>by simp at hp)
  m 0 (m+1) (0,fun _ _=>0,fun _ _=>0) (by omega) (by omega) ⟨rfl,zge,zge⟩
 rcases this with ⟨h,z,h2,h3,h4,h5⟩ | ⟨h,z,h2,_⟩
 ·exact ⟨z.2.1,z.2.2,by rw [h3] at h2;exact h2,h4,h5⟩
 ·rw [zc7 fun _ _ _=>rfl] at h;omega
theorem zuN {t t':Bool} {n m:Nat} {f g:Nat→Nat→Int} (hn:n≤1073741824) (hm:m≤1073741824) (hf:rowsB f n=true) (hi:∀ j,j<m→isId (g j 0)=true) :
  ∃ D E,rsprun t t' n m f g (m+1) 0 0 (fun _ _=>0) (fun _ _=>0)=some (.e1 m D E)∧RowE m 1 D (spA g)∧RowE m 32 E (spV f g n):=by
 have:=scan (O:=rspO) (run:=fun u i (s:Nat × (Nat→Nat→Int) × (Nat→Nat→Int))=>rsprun t t' n m f g u i s.1 s.2.1 s.2.2) (n:=m) (p:=fun _=>true) (nx:=fun i s=>(s.1+1,shF (zcV t t' n m f g i s.1 s.2.1 s.2.2) 0,shF (zcV t t' n m f g i s.1 s.2.1 s.2.2) 1))
  (bad:=fun _ s=>.e1 s.1 s.2.1 s.2.2) (fin:=fun s=>.e1 s.1 s.2.1 s.2.2) (I:=fun i s=>s.1=i∧RowE i 1 s.2.1 (spA g)∧RowE i 32 s.2.2 (spV f g n))
  (fun u s _=>by rw [rsprun];simp [ckL])
  (fun u i s hj hp hI=>by
   obtain ⟨k,D,E⟩:=s
   obtain ⟨rfl,h1,h2⟩:=hI
   dsimp only at h1 h2 hj ⊢
   have hid:=hi k hj
   refine ⟨?_,rfl,?_,?_⟩
   ·rw [rsprun,show mvBk (.rows [.ints IntKind.i64 1,.ints IntKind.u8 32]) (.mix 33 (k+1) (zcV t t' n m f g k k D E))=true from zsv (m:=32) (by omega),Int.toNat_natCast]
    simp only [ckL,List.foldl,zaM hj,hid,decide_eq_true (show (k:Int)<(m:Int) by omega),Nat.ble_eq_true_of_le hn,hf,za0,zgB (show k+1≤1073741824 by omega) (show 40≤1024 by omega),ewr (show k<4611686018427387904 by omega)];rfl
   ·exact jnW_0 (m:=32) (by omega) h1 (by rw [Int.toNat_natCast];rfl)
   ·exact jnW_1 (m:=32) (by omega) h2 (fun d _=>by rw [Int.toNat_natCast,r_b32 (id_r hid)];rfl))
  (fun u i s hj hp hI=>by simp at hp)
  m 0 (m+1) (0,fun _ _=>0,fun _ _=>0) (by omega) (by omega) ⟨rfl,zge,zge⟩
 rcases this with ⟨h,z,h2,h3,h4,h5⟩ | ⟨h,z,h2,_⟩
 ·exact ⟨z.2.1,z.2.2,by rw [h3] at h2;exact h2,h4,h5⟩
 ·rw [zc7 fun _ _ _=>rfl] at h;omega
theorem ztE:TRow prog F_shamir_Split tSplit:=by
 intro args r h
 unfold tSplit at h
 split at h
 case h_2=>simp at h
 rename_i t n f t' m g
 simp only [Option.some.injEq,Prod.mk.injEq,Bool.and_eq_true,ble_t] at h
 obtain ⟨⟨hm,hn,hf⟩,rfl⟩:=h
 by_cases he:idsE g m=0
 ·obtain ⟨D,E,h1,h2,h3⟩:=zzh (t:=t) (t':=t') hn hm hf (zoa he)
  rw [he]
  exact zaZ (zxl t t' n m f g _ _ _ _ h1 (by rw [he];simp [ckL,Nat.ble_eq_true_of_le hm]) (ckL_t.2 fun c hc=>by rw [List.mem_singleton.1 hc];exact zeR 32 m D E)) (rv_nb (m:=32) (zgH zgj h2) (zgH zgG h3))
 ·have e0:(idsE g m==0)=false:=by simpa using he
  rw [e0]
  exact zaZ (zx9 t t' n m f g (by simp [ckL,Nat.ble_eq_true_of_le hm,he])) zs0
theorem zq1:TRow prog F_rimeref07_Split tSplit:=by
 intro args r h
 unfold tSplit at h
 split at h
 case h_2=>simp at h
 rename_i t n f t' m g
 simp only [Option.some.injEq,Prod.mk.injEq,Bool.and_eq_true,ble_t] at h
 obtain ⟨⟨hm,hn,hf⟩,rfl⟩:=h
 by_cases he:idsE g m=0
 ·obtain ⟨D,E,h1,h2,h3⟩:=zuN (t:=t) (t':=t') hn hm hf (zoa he)
  rw [he]
  exact zaZ (ztL t t' n m f g _ _ _ _ h1 (by rw [he];simp [ckL,Nat.ble_eq_true_of_le hm]) (ckL_t.2 fun c hc=>by rw [List.mem_singleton.1 hc];exact zeR 32 m D E)) (rv_nb (m:=32) (zgH zgj h2) (zgH zgG h3))
 ·have e0:(idsE g m==0)=false:=by simpa using he
  rw [e0]
  exact zaZ (ztG t t' n m f g (by simp [ckL,Nat.ble_eq_true_of_le hm,he])) zs0
def smN (A B C D:Nat→Nat→Int):Nat→Bool:=fun j=>eqN 1 (A j) (C j)&&eqN 32 (B j) (D j)
def tSmN:TF:=fun args=>match args with
 | [.sc (.vrows _ 33 n r),.sc (.vrows _ 33 m s)]=>some (Nat.ble n 1073741824&&(rowsAll (nbK 32) n r&&rowsAll (nbK 32) m s),.sc (.bool (Nat.beq n m&&Nat.beq (ffb (smN (shF r 0) (shF r 1) (shF s 0) (shF s 1)) n 0) n)))
 | _=>none
theorem ztu {t t':Bool} {n:Nat} {A B C D:Nat→Nat→Int} (hn:n≤1073741824):sshrun t t' n n A B C D (n+1) 0=some (bif Nat.beq (ffb (smN A B C D) n 0) n then .e2 else .e1):=by
 have:=scan (O:=sshO) (run:=fun m i (_:Unit)=>sshrun t t' n n A B C D m i) (n:=n) (p:=smN A B C D) (nx:=fun _ s=>s) (bad:=fun _ _=>.e1) (fin:=fun _=>.e2) (I:=fun _ _=>True)
  (fun m s _=>by rw [sshrun];simp [ckL])
  (fun m i s hi hp _=>by
   have hp:(eqN 1 (A i) (C i)&&eqN 32 (B i) (D i))=true:=hp
   rw [sshrun,ewr (show i<4611686018427387904 by omega),Int.toNat_natCast,Bool.and_true];simp only [ckL,List.foldl,zaM hi,hp,decide_eq_true (show (i:Int)<(n:Int) by omega)];exact ⟨rfl,trivial⟩)
  (fun m i s hi hp _=>by
   have hp:(eqN 1 (A i) (C i)&&eqN 32 (B i) (D i))=false:=hp
   rw [sshrun,Int.toNat_natCast,Bool.and_true];simp only [ckL,List.foldl,zaM hi,hp,decide_eq_true (show (i:Int)<(n:Int) by omega)];rfl)
  n 0 (n+1) () (by omega) (by omega) trivial
 rcases this with ⟨h,z,h2,_⟩ | ⟨h,z,h2,_⟩
 ·rw [beq_t.2 h];exact h2
 ·rw [nbf (by omega)];exact h2
theorem zhM:TRow prog F_rimeplain_SameShares tSmN:=by
 intro args r h
 unfold tSmN at h
 split at h
 case h_2=>simp at h
 rename_i t n r t' m s
 simp only [Option.some.injEq,Prod.mk.injEq,Bool.and_eq_true,ble_t] at h
 obtain ⟨⟨hn,h1,h2⟩,rfl⟩:=h
 refine zpk (l1:=[]) (l2:=[.sc (.vrows t' 33 m s)]) h1 (zpk (l1:=[.sc (.vrows t 33 n (nbR 32 (shF r 0) (shF r 1)))]) (l2:=[]) h2 ?_)
 by_cases e:n=m
 ·subst e
  have z:ckL [((n:Int) != (n:Int))==false]=true:=by simp [ckL]
  have L:=ztu (t:=t) (t':=t') (A:=shF r 0) (B:=shF r 1) (C:=shF s 0) (D:=shF s 1) hn
  rw [zan]
  cases hb:Nat.beq (ffb (smN (shF r 0) (shF r 1) (shF s 0) (shF s 1)) n 0) n with
  | true=>rw [hb] at L;exact zuW t t' n n _ _ _ _ _ L z
  | false=>rw [hb] at L;exact zvX t t' n n _ _ _ _ _ L z
 ·rw [nbf e]
  exact ztX t t' n m _ _ _ _ (by simp [ckL];omega)
end Go.Proofs.YtplaklpfeabhiaaGreat
namespace Go.Proofs.YtplaklpfeabhiaaGreat
open Go.Proofs.Tryz
open Go Go.AM
noncomputable def vt2:List (Nat × TF):=(F_shamir_Split,tSplit)::(F_rimeref07_Split,tSplit)::(F_rimeplain_SameShares,tSmN)::(F_rimeplain_SameElements,tSameElements)::vt1
theorem VT2:LibOK prog tt vt2 []:=(((VT1.addT zfE).addT zhM).addT zq1).addT ztE
end Go.Proofs.YtplaklpfeabhiaaGreat
namespace Go.Proofs.YtplaklpfeabhiaaGreat
open Go.Proofs.Tryz
open Go Go.AM
theorem zxz (t t':Bool) (n m:Nat) (f g:Nat→Nat→Int) (h:ckL [rowsB f n,(comE f n != 0)==true]=true):Pure prog F_vss_Deal [AV.sc (SV.vints t IntKind.u8 32 n f),AV.sc (SV.vints t' IntKind.i64 1 m g)] (AV.tup [AV.agg [Seg.one SV.nils,Seg.one SV.nils],AV.sc (SV.int IntKind.i64 (comE f n))]) :=
 zad VT2 at_vss_Deal LsOK.nil (by kernel_rfl) (N:=5) (gs:=[(15,true)]) (Eq.trans (by kernel_rfl) (o1 h))
theorem zyp (t t':Bool) (n m:Nat) (f g:Nat→Nat→Int) (h:ckL [rowsB f n,(comE f n != 0)==false,Nat.ble m 1073741824&&(Nat.ble n 1073741824&&rowsB f n),(idsE g m != 0)==true]=true):Pure prog F_vss_Deal [AV.sc (SV.vints t IntKind.u8 32 n f),AV.sc (SV.vints t' IntKind.i64 1 m g)] (AV.tup [AV.agg [Seg.one SV.nils,Seg.one SV.nils],AV.sc (SV.int IntKind.i64 (idsE g m))]) :=
 zad VT2 at_vss_Deal LsOK.nil (by kernel_rfl) (N:=5) (gs:=[(15,false),(25,true)]) (Eq.trans (by kernel_rfl) (o1 h))
theorem zwv (t t':Bool) (n m:Nat) (f g:Nat→Nat→Int) (h:ckL [rowsB f n,(comE f n != 0)==false,Nat.ble m 1073741824&&(Nat.ble n 1073741824&&rowsB f n),(idsE g m != 0)==false]=true) (h2:ckL [rowsAll [Sh.ints IntKind.i64 1,Sh.ints IntKind.u8 32] (bif idsE g m==0 then m else 0) fun j=>[Seg.ints IntKind.i64 1 (spA g j),Seg.ints IntKind.u8 32 (spV f g n j)]]=true):Pure prog F_vss_Deal [AV.sc (SV.vints t IntKind.u8 32 n f),AV.sc (SV.vints t' IntKind.i64 1 m g)] (AV.tup [AV.agg [Seg.one (SV.vints true IntKind.u8 32 (bif comE f n==0 then n else 0) (comR f)),Seg.one (SV.vrows true 33 (bif idsE g m==0 then m else 0) fun j=>[Seg.ints IntKind.i64 1 fun d=>svInt (cellAt [Seg.ints IntKind.i64 1 (spA g j),Seg.ints IntKind.u8 32 (spV f g n j)] (0+d)),Seg.ints IntKind.u8 32 fun d=>svInt (cellAt [Seg.ints IntKind.i64 1 (spA g j),Seg.ints IntKind.u8 32 (spV f g n j)] (1+d))])],AV.sc (SV.int IntKind.i64 0)]) :=
 zbE VT2 at_vss_Deal LsOK.nil (by kernel_rfl) (N:=5) (gs:=[(15,false),(25,false)]) k33 (Eq.trans (by kernel_rfl) (o2 h h2))
theorem zy9 (t t':Bool) (n m:Nat) (f g:Nat→Nat→Int) (h:ckL [rowsB f n,(comE f n != 0)==true]=true):Pure prog F_rimeref08_Deal [AV.sc (SV.vints t IntKind.u8 32 n f),AV.sc (SV.vints t' IntKind.i64 1 m g)] (AV.tup [AV.agg [Seg.one SV.nils,Seg.one SV.nils],AV.sc (SV.int IntKind.i64 (comE f n))]) :=
 zad VT2 at_rimeref08_Deal LsOK.nil (by kernel_rfl) (N:=5) (gs:=[(15,true)]) (Eq.trans (by kernel_rfl) (o1 h))
theorem zxK (t t':Bool) (n m:Nat) (f g:Nat→Nat→Int) (h:ckL [rowsB f n,(comE f n != 0)==false,Nat.ble m 1073741824&&(Nat.ble n 1073741824&&rowsB f n),(idsE g m != 0)==true]=true):Pure prog F_rimeref08_Deal [AV.sc (SV.vints t IntKind.u8 32 n f),AV.sc (SV.vints t' IntKind.i64 1 m g)] (AV.tup [AV.agg [Seg.one SV.nils,Seg.one SV.nils],AV.sc (SV.int IntKind.i64 (idsE g m))]) :=
 zad VT2 at_rimeref08_Deal LsOK.nil (by kernel_rfl) (N:=5) (gs:=[(15,false),(25,true)]) (Eq.trans (by kernel_rfl) (o1 h))
theorem zxQ (t t':Bool) (n m:Nat) (f g:Nat→Nat→Int) (h:ckL [rowsB f n,(comE f n != 0)==false,Nat.ble m 1073741824&&(Nat.ble n 1073741824&&rowsB f n),(idsE g m != 0)==false]=true) (h2:ckL [rowsAll [Sh.ints IntKind.i64 1,Sh.ints IntKind.u8 32] (bif idsE g m==0 then m else 0) fun j=>[Seg.ints IntKind.i64 1 (spA g j),Seg.ints IntKind.u8 32 (spV f g n j)]]=true):Pure prog F_rimeref08_Deal [AV.sc (SV.vints t IntKind.u8 32 n f),AV.sc (SV.vints t' IntKind.i64 1 m g)] (AV.tup [AV.agg [Seg.one (SV.vints true IntKind.u8 32 (bif comE f n==0 then n else 0) (comR f)),Seg.one (SV.vrows true 33 (bif idsE g m==0 then m else 0) fun j=>[Seg.ints IntKind.i64 1 fun d=>svInt (cellAt [Seg.ints IntKind.i64 1 (spA g j),Seg.ints IntKind.u8 32 (spV f g n j)] (0+d)),Seg.ints IntKind.u8 32 fun d=>svInt (cellAt [Seg.ints IntKind.i64 1 (spA g j),Seg.ints IntKind.u8 32 (spV f g n j)] (1+d))])],AV.sc (SV.int IntKind.i64 0)]) :=
 zbE VT2 at_rimeref08_Deal LsOK.nil (by kernel_rfl) (N:=5) (gs:=[(15,false),(25,false)]) k33 (Eq.trans (by kernel_rfl) (o2 h h2))
theorem zwt (t t' t2 t3:Bool) (n m k l:Nat) (f g A B C D:Nat→Nat→Int) (h:ckL [big n,(Nat.beq n k&&eqF n 32 f g)==true,Nat.ble m 1073741824&&((rowsAll [Sh.ints IntKind.i64 1,Sh.ints IntKind.u8 32] m fun j=>[Seg.ints IntKind.i64 1 (A j),Seg.ints IntKind.u8 32 (B j)])&&rowsAll [Sh.ints IntKind.i64 1,Sh.ints IntKind.u8 32] l fun j=>[Seg.ints IntKind.i64 1 (C j),Seg.ints IntKind.u8 32 (D j)])]=true):Pure prog F_rimeplain_SameDeal [AV.agg [Seg.one (SV.vints t IntKind.u8 32 n f),Seg.one (SV.vrows t2 33 m (nbR 32 A B))],AV.agg [Seg.one (SV.vints t' IntKind.u8 32 k g),Seg.one (SV.vrows t3 33 l (nbR 32 C D))]] (AV.sc (SV.bool (Nat.beq m l&&Nat.beq (ffb (smN (shF (fun j=>[Seg.ints IntKind.i64 1 (A j),Seg.ints IntKind.u8 32 (B j)]) 0) (shF (fun j=>[Seg.ints IntKind.i64 1 (A j),Seg.ints IntKind.u8 32 (B j)]) 1) (shF (fun j=>[Seg.ints IntKind.i64 1 (C j),Seg.ints IntKind.u8 32 (D j)]) 0) (shF (fun j=>[Seg.ints IntKind.i64 1 (C j),Seg.ints IntKind.u8 32 (D j)]) 1)) m 0) m))) :=
 zad VT2 at_rimeplain_SameDeal LsOK.nil (by kernel_rfl) (N:=5) (gs:=[(10,true)]) (Eq.trans (by kernel_rfl) (o1 h))
theorem zx2 (t t' t2 t3:Bool) (n m k l:Nat) (f g A B C D:Nat→Nat→Int) (h:ckL [big n,(Nat.beq n k&&eqF n 32 f g)==false]=true):Pure prog F_rimeplain_SameDeal [AV.agg [Seg.one (SV.vints t IntKind.u8 32 n f),Seg.one (SV.vrows t2 33 m (nbR 32 A B))],AV.agg [Seg.one (SV.vints t' IntKind.u8 32 k g),Seg.one (SV.vrows t3 33 l (nbR 32 C D))]] (AV.sc (SV.bool false)) :=
 zad VT2 at_rimeplain_SameDeal LsOK.nil (by kernel_rfl) (N:=5) (gs:=[(10,false)]) (Eq.trans (by kernel_rfl) (o1 h))
theorem zx0 {m n:Nat} {row:Nat→List Seg} (h:rowsAll (nbK m) n row=true) (j:Nat) (hj:j<n):segR (fun _=>none) 0 (row j) (nbR m (shF row 0) (shF row 1) j)=true:=by
 have h1:=zds.1 h j hj
 unfold nbK at h1
 have e0:shF row 0 j=fun d=>svInt (cellAt (row j) (0+d)):=rfl
 have e1:shF row 1 j=fun d=>svInt (cellAt (row j) (1+d)):=rfl
 unfold nbR
 rw [e0,e1]
 revert h1
 generalize row j=s
 intro h1
 match s,h1 with
 | [.ints _ _ _],h1=>simp [shB] at h1
 | .ints _ _ _::.ints _ _ _::_::_,h1=>simp [shB] at h1
 | .ints _ _ _::.one _::_,h1=>simp [shB] at h1
 | [.ints k a x,.ints k' b y],h1 =>
  simp only [shB,Bool.and_eq_true,beq_t,Bool.and_true] at h1
  obtain ⟨q1,rfl,q2,rfl⟩:=h1
  rw [← zaN q1,← zaN q2]
  simp only [segR,zaj,zan,Bool.and_true,Bool.true_and,Bool.and_eq_true]
  refine ⟨zct fun d hd=>?_,zct fun d hd=>?_⟩
  ·rw [Nat.zero_add,zac hd];rfl
  ·rw [zae (by omega) (by simp [lenS];omega),Nat.add_sub_cancel_left,zac hd];rfl
theorem sv_nb {t:Bool} {m n:Nat} {row:Nat→List Seg} (h:rowsAll (nbK m) n row=true):svR (fun _=>none) 0 (.vrows t (m+1) n row) (.vrows t (m+1) n (nbR m (shF row 0) (shF row 1)))=true:=by
 simp only [svR,zan,beq_self_eq_true,Bool.and_true,Bool.true_and,List.all_eq_true,List.mem_range]
 exact zx0 h
theorem sv_vi {t:Bool} {k:IntKind} {w n:Nat} {f:Nat→Nat→Int}:svR (fun _=>none) 0 (.vints t k w n f) (.vints t k w n f)=true:=by simp [svR,zaj,zan,zam]
def dlE (f g:Nat→Nat→Int) (n m:Nat):Int:=bif comE f n==0 then idsE g m else comE f n
noncomputable def tDeal:TF:=fun args=>match args with
 | [.sc (.vints _ .u8 32 n f),.sc (.vints _ .i64 1 m g)]=>some (Nat.ble m 1073741824&&(Nat.ble n 1073741824&&rowsB f n),.tup [.agg [.one (.vints true .u8 32 (bif dlE f g n m==0 then n else 0) (comR f)),.one (.vrows true 33 (bif dlE f g n m==0 then m else 0) (nbR 32 (spA g) (spV f g n)))],.sc (.int .i64 (dlE f g n m))])
 | _=>none
theorem zkY {G H K:Nat→Nat→Int} {e:Int}:rvR (.tup [.agg [.one .nils,.one .nils],.sc (.int .i64 e)]) (.tup [.agg [.one (.vints true .u8 32 0 G),.one (.vrows true 33 0 (nbR 32 H K))],.sc (.int .i64 e)])=true:=by
 simp [rvR,twR,svR,segR,zaj]
theorem rv_dl {n m:Nat} {G A B H K:Nat→Nat→Int} {e:Int} (hA:RowE m 1 A H) (hB:RowE m 32 B K):rvR (.tup [.agg [.one (.vints true .u8 32 n G),.one (.vrows true 33 m (nbR 32 A B))],.sc (.int .i64 e)]) (.tup [.agg [.one (.vints true .u8 32 n G),.one (.vrows true 33 m (nbR 32 H K))],.sc (.int .i64 e)])=true:=by
 simp only [rvR,twR,segR,sv_vi,Bool.and_true,Bool.true_and,Bool.and_eq_true]
 refine ⟨?_,by simp [svR,zaj]⟩
 simp only [svR,zan,beq_self_eq_true,Bool.and_true,Bool.true_and,List.all_eq_true,List.mem_range]
 intro j hj
 simp only [nbR,segR,zaj,zan,Bool.and_true,Bool.true_and,Bool.and_eq_true]
 exact ⟨zct fun d hd=>hA j hj d hd,zct fun d hd=>hB j hj d hd⟩
theorem neZ {x:Int} (h:x≠0):(x==0)=false:=by simpa using h
theorem zxi:TRow prog F_vss_Deal tDeal:=by
 intro args r h
 unfold tDeal at h
 split at h
 case h_2=>simp at h
 rename_i t n f t' m g
 simp only [Option.some.injEq,Prod.mk.injEq,Bool.and_eq_true,ble_t] at h
 obtain ⟨⟨hm,hn,hf⟩,rfl⟩:=h
 unfold dlE
 by_cases hc:comE f n=0
 ·by_cases he:idsE g m=0
  ·have e:=zaZ (zwv t t' n m f g (by simp [ckL,hc,he,hf,Nat.ble_eq_true_of_le hm,Nat.ble_eq_true_of_le hn]) (ckL_t.2 fun c hc=>by rw [List.mem_singleton.1 hc];exact zeR 32 _ _ _)) (rv_dl zgj zgG)
   rw [hc,he] at e ⊢
   exact e
  ·rw [hc];show Pure _ _ _ (.tup [.agg [.one (.vints _ _ _ (bif idsE g m==0 then n else 0) _),.one (.vrows _ _ (bif idsE g m==0 then m else 0) _)],_])
   rw [neZ he]
   exact zaZ (zyp t t' n m f g (by simp [ckL,hc,he,hf,Nat.ble_eq_true_of_le hm,Nat.ble_eq_true_of_le hn])) zkY
 ·rw [neZ hc];show Pure _ _ _ (.tup [.agg [.one (.vints _ _ _ (bif comE f n==0 then n else 0) _),.one (.vrows _ _ (bif comE f n==0 then m else 0) _)],_])
  rw [neZ hc]
  exact zaZ (zxz t t' n m f g (by simp [ckL,hc,hf])) zkY
theorem zuH:TRow prog F_rimeref08_Deal tDeal:=by
 intro args r h
 unfold tDeal at h
 split at h
 case h_2=>simp at h
 rename_i t n f t' m g
 simp only [Option.some.injEq,Prod.mk.injEq,Bool.and_eq_true,ble_t] at h
 obtain ⟨⟨hm,hn,hf⟩,rfl⟩:=h
 unfold dlE
 by_cases hc:comE f n=0
 ·by_cases he:idsE g m=0
  ·have e:=zaZ (zxQ t t' n m f g (by simp [ckL,hc,he,hf,Nat.ble_eq_true_of_le hm,Nat.ble_eq_true_of_le hn]) (ckL_t.2 fun c hc=>by rw [List.mem_singleton.1 hc];exact zeR 32 _ _ _)) (rv_dl zgj zgG)
   rw [hc,he] at e ⊢
   exact e
  ·rw [hc];show Pure _ _ _ (.tup [.agg [.one (.vints _ _ _ (bif idsE g m==0 then n else 0) _),.one (.vrows _ _ (bif idsE g m==0 then m else 0) _)],_])
   rw [neZ he]
   exact zaZ (zxK t t' n m f g (by simp [ckL,hc,he,hf,Nat.ble_eq_true_of_le hm,Nat.ble_eq_true_of_le hn])) zkY
 ·rw [neZ hc];show Pure _ _ _ (.tup [.agg [.one (.vints _ _ _ (bif comE f n==0 then n else 0) _),.one (.vrows _ _ (bif comE f n==0 then m else 0) _)],_])
  rw [neZ hc]
  exact zaZ (zy9 t t' n m f g (by simp [ckL,hc,hf])) zkY
theorem eqN_2 {n:Nat} {f f' g g':Nat→Int} (h:∀ d,d<n→f d=f' d) (h2:∀ d,d<n→g d=g' d):eqN n f g=eqN n f' g':=by rw [zdA h,zes,zdA h2,zes]
theorem zs9 (A B C D:Nat→Nat→Int):smN (shF (nbR 32 A B) 0) (shF (nbR 32 A B) 1) (shF (nbR 32 C D) 0) (shF (nbR 32 C D) 1)=smN A B C D:=by
 funext j
 unfold smN
 rw [eqN_2 (fun d hd=>nbA hd) (fun d hd=>nbA hd),eqN_2 (fun d hd=>nbB hd) (fun d hd=>nbB hd)]
def tSmDeal:TF:=fun args=>match args with
 | [.agg [.one (.vints _ .u8 32 n f),.one (.vrows _ 33 m r)],.agg [.one (.vints _ .u8 32 k g),.one (.vrows _ 33 l s)]]=>some ((Nat.ble n 1073741824&&Nat.ble m 1073741824)&&(rowsAll (nbK 32) m r&&rowsAll (nbK 32) l s),.sc (.bool (bif Nat.beq n k&&eqF n 32 f g then Nat.beq m l&&Nat.beq (ffb (smN (shF r 0) (shF r 1) (shF s 0) (shF s 1)) m 0) m else false)))
 | _=>none
theorem zse:TRow prog F_rimeplain_SameDeal tSmDeal:=by
 intro args r h
 unfold tSmDeal at h
 split at h
 case h_2=>simp at h
 rename_i t n f t2 m r t' k g t3 l s
 simp only [Option.some.injEq,Prod.mk.injEq,Bool.and_eq_true,ble_t] at h
 obtain ⟨⟨⟨hn,hm⟩,h1,h2⟩,rfl⟩:=h
 refine zo7 (args':=[.agg [.one (.vints t .u8 32 n f),.one (.vrows t2 33 m (nbR 32 (shF r 0) (shF r 1)))],.agg [.one (.vints t' .u8 32 k g),.one (.vrows t3 33 l (nbR 32 (shF s 0) (shF s 1)))]]) ?_ (by
  simp only [tmR,avR,segR,sv_vi,Bool.and_true,Bool.true_and,Bool.and_eq_true]
  exact ⟨sv_nb (m:=32) h1,sv_nb (m:=32) h2⟩)
 have hb:big n=true:=Nat.ble_eq_true_of_le (by omega)
 cases he:Nat.beq n k&&eqF n 32 f g with
 | true =>
  have e:=zwt t t' t2 t3 n m k l f g (shF r 0) (shF r 1) (shF s 0) (shF s 1) (by
   rw [hb,he,Nat.ble_eq_true_of_le hm,show rowsAll [Sh.ints IntKind.i64 1,Sh.ints IntKind.u8 32] m (fun j=>[Seg.ints IntKind.i64 1 (shF r 0 j),Seg.ints IntKind.u8 32 (shF r 1 j)])=true from zeR 32 m _ _,show rowsAll [Sh.ints IntKind.i64 1,Sh.ints IntKind.u8 32] l (fun j=>[Seg.ints IntKind.i64 1 (shF s 0 j),Seg.ints IntKind.u8 32 (shF s 1 j)])=true from zeR 32 l _ _];rfl)
  have q:=zs9 (shF r 0) (shF r 1) (shF s 0) (shF s 1)
  unfold nbR at q
  rw [q] at e
  exact e
 | false=>exact zx2 t t' t2 t3 n m k l f g _ _ _ _ (by rw [hb,he];rfl)
end Go.Proofs.YtplaklpfeabhiaaGreat
namespace Go.Proofs.YtplaklpfeabhiaaGreat
open Go.Proofs.Tryz
open Go Go.AM
noncomputable def vt3:List (Nat × TF):=(F_vss_Deal,tDeal)::(F_rimeref08_Deal,tDeal)::(F_rimeplain_SameDeal,tSmDeal)::vt2
theorem VT3:LibOK prog tt vt3 []:=((VT2.addT zse).addT zuH).addT zxi
end Go.Proofs.YtplaklpfeabhiaaGreat
namespace Go.Proofs.YtplaklpfeabhiaaGreat
open Go.Proofs.Tryz
open Go Go.AM
theorem zrt {s:Int} (h0:0≤s) (h1:s<R256) (p:EP):kMul s (encP p)=encP (nI s p):=by
 unfold kMul
 rw [za5]
 show (bif opOk (encP p) then formS (mulS (openS (encP p)) s) else 0)=_
 rw [zij]
 exact zeW (zkx (zcJ p).2 h0 h1)
def HP (Q:Nat→EP) (x:Int):Nat→Nat→EP
 | 0,_=>EP.zero
 | m+1,j=>(nI x (HP Q x m (j+1))).add (Q j)
theorem zsN {w:Nat→Int} {Q:Nat→EP} {n:Nat} {x:Int} (h0:0≤x) (h1:x<R256) (hw:∀ j,j<n→w j=encP (Q j)):∀ m j,j+m≤n→hp w x m j=encP (HP Q x m j)
 | 0,j,_=>zgl.symm
 | m+1,j,h=>by
  unfold hp HP
  rw [zsN h0 h1 hw m (j+1) (by omega),zrt h0 h1,hw j (by omega),(zrL _ _).2]
end Go.Proofs.YtplaklpfeabhiaaGreat
namespace Go.Proofs.YtplaklpfeabhiaaGreat
open Go.Proofs.Tryz
open Go Go.AM
noncomputable def vt4:List (Nat × TF):=vt3
theorem VT4:LibOK prog tt vt4 []:=(VT3)
end Go.Proofs.YtplaklpfeabhiaaGreat
namespace Go.Proofs.YtplaklpfeabhiaaGreat
open Go.Proofs.Tryz
open Go Go.AM
theorem fi_p1 (t:Bool) (n:Nat) (f:Nat→Nat→Int) (a s:Nat→Int) (h:ckL [(!isId (a 0))==true]=true):Pure prog F_vss_fits [AV.sc (SV.vints t IntKind.u8 32 n f),AV.agg [Seg.ints IntKind.i64 1 a,Seg.ints IntKind.u8 32 s]] (AV.sc (SV.int IntKind.i64 4)) :=
 zad VT4 at_vss_fits LsOK.nil (by kernel_rfl) (N:=5) (gs:=[(5,true)]) (Eq.trans (by kernel_rfl) (o1 h))
theorem fi_p2 (t:Bool) (n:Nat) (f:Nat→Nat→Int) (a s:Nat→Int) (h:ckL [(!isId (a 0))==false,areB s 32 0,(!decide (hval s 32 0<ordL))==true]=true):Pure prog F_vss_fits [AV.sc (SV.vints t IntKind.u8 32 n f),AV.agg [Seg.ints IntKind.i64 1 a,Seg.ints IntKind.u8 32 s]] (AV.sc (SV.int IntKind.i64 21)) :=
 zad VT4 at_vss_fits LsOK.nil (by kernel_rfl) (N:=5) (gs:=[(5,false),(10,true)]) (Eq.trans (by kernel_rfl) (o1 h))
theorem fi_p3 (t:Bool) (n:Nat) (f:Nat→Nat→Int) (a s:Nat→Int) (h:ckL [(!isId (a 0))==false,areB s 32 0,(!decide (hval s 32 0<ordL))==false,areB s 32 0,isId (a 0)&&(Nat.ble n 1073741824&&rowsB f n),(!(eqN 32 (lf (byL 32 (kBase (hval s 32 0)))) (lf (byL 32 (hp (hF f) (a 0) n 0)))&&true))==true]=true):Pure prog F_vss_fits [AV.sc (SV.vints t IntKind.u8 32 n f),AV.agg [Seg.ints IntKind.i64 1 a,Seg.ints IntKind.u8 32 s]] (AV.sc (SV.int IntKind.i64 81)) :=
 zad VT4 at_vss_fits LsOK.nil (by kernel_rfl) (N:=5) (gs:=[(5,false),(10,false),(15,true)]) (Eq.trans (by kernel_rfl) (o1 h))
theorem fi_p4 (t:Bool) (n:Nat) (f:Nat→Nat→Int) (a s:Nat→Int) (h:ckL [(!isId (a 0))==false,areB s 32 0,(!decide (hval s 32 0<ordL))==false,areB s 32 0,isId (a 0)&&(Nat.ble n 1073741824&&rowsB f n),(!(eqN 32 (lf (byL 32 (kBase (hval s 32 0)))) (lf (byL 32 (hp (hF f) (a 0) n 0)))&&true))==false]=true):Pure prog F_vss_fits [AV.sc (SV.vints t IntKind.u8 32 n f),AV.agg [Seg.ints IntKind.i64 1 a,Seg.ints IntKind.u8 32 s]] (AV.sc (SV.int IntKind.i64 0)) :=
 zad VT4 at_vss_fits LsOK.nil (by kernel_rfl) (N:=5) (gs:=[(5,false),(10,false),(15,false)]) (Eq.trans (by kernel_rfl) (o1 h))
theorem zyl (t:Bool) (n:Nat) (f:Nat→Nat→Int) (h:ckL [rowsB f n,(ccE f n != 0)==true]=true):Pure prog F_vss_Group [AV.sc (SV.vints t IntKind.u8 32 n f)] (AV.tup [AV.agg [Seg.ints IntKind.u8 32 (lf (tabL (fun j=>0) 32 0))],AV.sc (SV.int IntKind.i64 (ccE f n))]) :=
 zad VT4 at_vss_Group LsOK.nil (by kernel_rfl) (N:=5) (gs:=[(8,true)]) (Eq.trans (by kernel_rfl) (o1 h))
theorem zwQ (t:Bool) (n:Nat) (f:Nat→Nat→Int) (h:ckL [rowsB f n,(ccE f n != 0)==false,inR 0 n]=true):Pure prog F_vss_Group [AV.sc (SV.vints t IntKind.u8 32 n f)] (AV.tup [AV.agg [Seg.ints IntKind.u8 32 (lf (tabL (f 0) 32 0))],AV.sc (SV.int IntKind.i64 0)]) :=
 zad VT4 at_vss_Group LsOK.nil (by kernel_rfl) (N:=5) (gs:=[(8,false)]) (Eq.trans (by kernel_rfl) (o1 h))
noncomputable def ccOK (f:Nat→Nat→Int) (n:Nat):Bool:=Nat.beq (ffb (grB f) n 0) n
theorem ccE_0 {f:Nat→Nat→Int} {n:Nat} (h:ccE f n=0):ccOK f n=true∧0<n∧n≤255:=by
 unfold ccE n255 at h
 by_cases h0:n=0
 ·rw [decide_eq_true h0] at h;simp at h
 ·by_cases h1:n > 255
  ·rw [decide_eq_true h1,Bool.or_true] at h;simp at h
  ·rw [decide_eq_false h0,decide_eq_false h1] at h
   refine ⟨?_,by omega,by omega⟩
   unfold ccOK
   cases hb:Nat.beq (ffb (grB f) n 0) n with
   | true=>rfl
   | false=>rw [hb] at h;simp at h
noncomputable def fitE (w:Nat→Int) (n:Nat) (i v:Int):Int:=bif isId i then bif decide (v<ordL) then bif decide (kBase v=hp w i n 0) then 0 else 81 else 21 else 4
noncomputable def tFits:TF:=fun args=>match args with
 | [.sc (.vints _ .u8 32 n f),.agg [.ints .i64 1 a,.ints .u8 32 s]]=>some (Nat.ble n 1073741824&&(rowsB f n&&areB s 32 0),.sc (.int .i64 (fitE (hF f) n (a 0) (hval s 32 0))))
 | _=>none
theorem zmG {v:Int} {w:Nat→Int} {i:Int} {n:Nat}:(eqN 32 (lf (byL 32 (kBase v))) (lf (byL 32 (hp w i n 0)))&&true)=decide (kBase v=hp w i n 0):=by rw [Bool.and_true,zj7 (zjo _) (zqc _ _ _ _)]
theorem zxy:TRow prog F_vss_fits tFits:=by
 intro args r h
 unfold tFits at h
 split at h
 case h_2=>simp at h
 rename_i t n f a s
 simp only [Option.some.injEq,Prod.mk.injEq,Bool.and_eq_true,ble_t] at h
 obtain ⟨⟨hn,hf,hs⟩,rfl⟩:=h
 unfold fitE
 cases hi:isId (a 0) with
 | false=>exact fi_p1 t n f a s (by rw [hi];rfl)
 | true =>
  cases hv:decide (hval s 32 0<ordL) with
  | false=>exact fi_p2 t n f a s (by rw [hi,hs,hv];rfl)
  | true =>
   cases he:decide (kBase (hval s 32 0)=hp (hF f) (a 0) n 0) with
   | false=>exact fi_p3 t n f a s (by rw [hi,hs,hv,hf,Nat.ble_eq_true_of_le hn,zmG,he];rfl)
   | true=>exact fi_p4 t n f a s (by rw [hi,hs,hv,hf,Nat.ble_eq_true_of_le hn,zmG,he];rfl)
where lf_rep:∀ {k d:Nat},lf (List.replicate k 0) d=0
 | 0,d=>by cases d <;> rfl
 | k+1,0=>rfl
 | k+1,d+1=>lf_rep (k:=k) (d:=d)
noncomputable def tVGroup:TF:=fun args=>match args with
 | [.sc (.vints _ .u8 32 n f)]=>some (rowsB f n,.tup [b32 (bif ccE f n==0 then hF f 0 else 0),.sc (.int .i64 (ccE f n))])
 | _=>none
theorem z_b32:AV.agg [Seg.ints IntKind.u8 32 (lf (tabL (fun _=>0) 32 0))]=b32 0:=by
 have h:areB (fun _:Nat=>(0:Int)) 32 0=true:=by decide
 rw [ze6 h,show hval (fun _:Nat=>(0:Int)) 32 0=0 by decide]
theorem zs5 {f:Nat→Nat→Int} {n:Nat} (h:ccE f n≠0):(ccE f n==0)=false:=by simpa using h
theorem zqd:TRow prog F_vss_Group tVGroup:=by
 intro args r h
 unfold tVGroup at h
 split at h
 case h_2=>simp at h
 rename_i t n f
 simp only [Option.some.injEq,Prod.mk.injEq] at h
 obtain ⟨hf,rfl⟩:=h
 by_cases hc:ccE f n=0
 ·have h0:=ccE_0 hc
  have e:=zwQ t n f (by rw [hc,hf,show inR 0 n=true from zaM h0.2.1];rfl)
  rw [ze6 (rowsB_t.1 hf 0 h0.2.1)] at e
  rw [hc];exact e
 ·rw [zs5 hc]
  have e:=zyl t n f (by simp [ckL,hc,hf])
  rw [z_b32] at e
  exact e
end Go.Proofs.YtplaklpfeabhiaaGreat
namespace Go.Proofs.YtplaklpfeabhiaaGreat
open Go.Proofs.Tryz
open Go Go.AM
noncomputable def vt5:List (Nat × TF):=(F_vss_fits,tFits)::(F_vss_Group,tVGroup)::vt4
theorem VT5:LibOK prog tt vt5 []:=(((((VT4))).addT zqd)).addT zxy
end Go.Proofs.YtplaklpfeabhiaaGreat
namespace Go.Proofs.YtplaklpfeabhiaaGreat
open Go.Proofs.Tryz
open Go Go.AM
theorem zwx (t:Bool) (n:Nat) (f:Nat→Nat→Int) (a s:Nat→Int) (h:ckL [rowsB f n,(ccE f n != 0)==true]=true):Pure prog F_vss_Check [AV.sc (SV.vints t IntKind.u8 32 n f),AV.agg [Seg.ints IntKind.i64 1 a,Seg.ints IntKind.u8 32 s]] (AV.sc (SV.int IntKind.i64 (ccE f n))) :=
 zad VT5 at_vss_Check LsOK.nil (by kernel_rfl) (N:=5) (gs:=[(9,true)]) (Eq.trans (by kernel_rfl) (o1 h))
theorem zxe (t:Bool) (n:Nat) (f:Nat→Nat→Int) (a s:Nat→Int) (h:ckL [rowsB f n,(ccE f n != 0)==false,Nat.ble n 1073741824&&(rowsB f n&&areB s 32 0)]=true):Pure prog F_vss_Check [AV.sc (SV.vints t IntKind.u8 32 n f),AV.agg [Seg.ints IntKind.i64 1 a,Seg.ints IntKind.u8 32 s]] (AV.sc (SV.int IntKind.i64 (fitE (hF f) n (a 0) (hval s 32 0)))) :=
 zad VT5 at_vss_Check LsOK.nil (by kernel_rfl) (N:=5) (gs:=[(9,false)]) (Eq.trans (by kernel_rfl) (o1 h))
noncomputable def chE (f:Nat→Nat→Int) (n:Nat) (i v:Int):Int:=bif ccE f n==0 then fitE (hF f) n i v else ccE f n
noncomputable def tVCheck:TF:=fun args=>match args with
 | [.sc (.vints _ .u8 32 n f),.agg [.ints .i64 1 a,.ints .u8 32 s]]=>some (rowsB f n&&areB s 32 0,.sc (.int .i64 (chE f n (a 0) (hval s 32 0))))
 | _=>none
theorem zqS:TRow prog F_vss_Check tVCheck:=by
 intro args r h
 unfold tVCheck at h
 split at h
 case h_2=>simp at h
 rename_i t n f a s
 simp only [Option.some.injEq,Prod.mk.injEq,Bool.and_eq_true] at h
 obtain ⟨⟨hf,hs⟩,rfl⟩:=h
 unfold chE
 by_cases hc:ccE f n=0
 ·have h0:=ccE_0 hc
  rw [hc]
  exact zxe t n f a s (by rw [hc,hf,hs,show Nat.ble n 1073741824=true from Nat.ble_eq_true_of_le (by omega)];rfl)
 ·rw [zs5 hc]
  exact zwx t n f a s (by simp [ckL,hc,hf])
noncomputable def vt6:List (Nat × TF):=(F_vss_Check,tVCheck)::vt5
theorem VT6:LibOK prog tt vt6 []:=(VT5).addT zqS
end Go.Proofs.YtplaklpfeabhiaaGreat
namespace Go.Proofs.YtplaklpfeabhiaaGreat
open Go.Proofs.Tryz
open Go Go.AM
theorem zwX:fnChk prog (envP tt [] []) f_rimelaw08_num=true:=by kernel_rfl
noncomputable def vt7:List (Nat × TF):=(F_rimelaw08_num,sT (envP tt [] []) [] 5 f_rimelaw08_num)::vt6
theorem VT7:LibOK prog tt vt7 []:=((VT6)).addT (zo6 L0 at_rimelaw08_num [] 5 zwX)
end Go.Proofs.YtplaklpfeabhiaaGreat
namespace Go.Proofs.YtplaklpfeabhiaaGreat
open Go.Proofs.Tryz
open Go Go.AM
theorem zsK {c:Nat→Int} (hc:∀ j,0≤c j) {x:Int} (hx:0≤x):∀ m j,HP (fun j=>nI (c j) bP) x m j=nI (hs c x m j) bP
 | 0,_=>rfl
 | m+1,j=>by
  unfold HP hs
  rw [zsK hc hx m (j+1),zxU b_nL (Int.add_nonneg (Int.mul_nonneg (zgS c x m (j+1)).1 hx) (hc j)),zs8 (Int.mul_nonneg (zgS c x m (j+1)).1 hx) (hc j),Int.mul_comm,zyk hx (zgS c x m (j+1)).1]
def wkF:Nat→Nat→Int:=fun j d=>svInt (cellAt (List.getD [[Seg.ints IntKind.u8 (32:Nat) fun d=>bif Nat.ble (0:Nat) d&&Nat.ble (d+(1:Nat)) (1:Nat) then (5:Int) else (0:Int)],[Seg.ints IntKind.u8 (32:Nat) fun d=>bif Nat.ble (0:Nat) d&&Nat.ble (d+(1:Nat)) (1:Nat) then (7:Int) else (0:Int)]] j []) d)
theorem wk_p1  (h:ckL [rowsB (comR wkF) 2,(ccE (comR wkF) 2==(0:Int))==true,(eqN (32:Nat) (lf (byL (32:Nat) (bif ccE (comR wkF) 2==(0:Int) then hF (comR wkF) (0:Nat) else (0:Int)))) (comR wkF (0:Nat))&&true)==true,rowsB (comR wkF) 2&&true,(chE (comR wkF) 2 (2:Int) (19:Int)==(0:Int))==true,rowsB (comR wkF) 2&&true]=true):Pure prog F_rimelaw08_works [] (AV.sc (SV.bool (chE (comR wkF) 2 (2:Int) (20:Int)==(81:Int)))) :=
 zad VT7 at_rimelaw08_works LsOK.nil (by kernel_rfl) (N:=5) (gs:=[(55,true),(63,true),(74,true)]) (Eq.trans (by kernel_rfl) (o1 h))
theorem wk_0:hF wkF 0 % ordL=5:=by decide
theorem wk_1:hF wkF 1 % ordL=7:=by decide
theorem znC (f:Nat→Nat→Int) (j:Nat):hF (comR f) j=kExp (hF f j % ordL):=r_b32 (zls _)
theorem zql (f:Nat→Nat→Int) (n:Nat):rowsB (comR f) n=true:=rowsB_t.2 fun j _=>za0 _
def wkQ:Nat→Int:=fun j=>if j=0 then 5 else 7
theorem wk_hF (j:Nat) (hj:j<2):hF (comR wkF) j=encP (nI (wkQ j) bP):=by
 rw [znC]
 match j,hj with
 | 0,_=>rw [wk_0,zn7 (by decide) (by decide)];rfl
 | 1,_=>rw [wk_1,zn7 (by decide) (by decide)];rfl
theorem wk_cc:ccE (comR wkF) 2=0:=by
 have g:∀ j,0≤j→j<0+2→grB (comR wkF) j=true:=fun j _ hj=>by
  unfold grB
  rw [wk_hF j (by omega),zve (nI_ne b_ne b_nL (by unfold wkQ;split <;> decide) (by unfold wkQ;split <;> decide)) (nL_nI b_nL _)];rfl
 unfold ccE
 rw [zc7 g];rfl
theorem wk_at:hp (hF (comR wkF)) 2 2 0=encP (nI 19 bP):=by
 rw [zsN (Q:=fun j=>nI (wkQ j) bP) (n:=2) (by decide) (by decide) wk_hF 2 0 (by omega),zsK (fun j=>by unfold wkQ;split <;> decide) (by decide)]
 rfl
theorem wk_19:fitE (hF (comR wkF)) 2 2 19=0:=by
 unfold fitE
 rw [wk_at,zj5 (by decide) (by decide),decide_eq_true rfl];rfl
theorem wk_20:fitE (hF (comR wkF)) 2 2 20=81:=by
 have ne:¬ encP (nI 20 bP)=encP (nI 19 bP):=fun h=>by
  have h:=znw h
  rw [show (20:Int)=1+19 from rfl,zs8 (by decide) (by decide)] at h
  have h2:(nI 1 bP).add (nI 19 bP)=EP.zero.add (nI 19 bP):=by rw [h,EP.zero_add]
  exact nI_ne b_ne b_nL (show (0:Int)<1 by decide) (by decide) (EP.cancel h2)
 unfold fitE
 rw [wk_at,zj5 (by decide) (by decide),decide_eq_false ne];rfl
theorem zq0:TRow prog F_rimelaw08_works (k0T (.sc (.bool true))):=by
 refine TRow.k0T ?_
 have e:=wk_p1
 have h1:chE (comR wkF) 2 2 19=0:=by unfold chE;rw [wk_cc];exact wk_19
 have h2:chE (comR wkF) 2 2 20=81:=by unfold chE;rw [wk_cc];exact wk_20
 rw [h1,h2,wk_cc,zql] at e
 refine e ?_
 have:eqN 32 (lf (byL 32 (bif (0:Int)==0 then hF (comR wkF) 0 else 0))) (comR wkF 0)=true:=by
  show eqN 32 (lf (byL 32 (hF (comR wkF) 0))) (comR wkF 0)=true
  rw [znC];exact zaD _ _
 rw [this];rfl
end Go.Proofs.YtplaklpfeabhiaaGreat
namespace Go.Proofs.YtplaklpfeabhiaaGreat
open Go.Proofs.Tryz
open Go Go.AM
noncomputable def smScalarsB:Code:=match f_rimeplain_SameScalars.body with | some c=>(match bodiesOf 0 c with | [.loop b]=>b | _=>.skip) | none=>.skip
def smScalarsV (t t':Bool) (n:Nat) (f g:Nat→Nat→Int) (v:Int):St:=⟨tmOf [(0,.sc (.vints t .u8 32 n f)),(1,.sc (.vints t' .u8 32 n g)),(5,.sc (.int .i64 v))] 26 0,[]⟩
def smScalars1:St:=⟨tmOf [] 26 0,[]⟩
def smScalars2:St:=⟨tmOf [(4,.sc (.bool false))] 26 0,[]⟩
def smScalarsN (f g:Nat→Nat→Int) (v:Int):Bool:=!(eqN 32 (ld0 (f v.toNat)) (ld0 (g v.toNat))&&true)
theorem smScalarsr (t t':Bool) (n:Nat) (f g:Nat→Nat→Int) (v v':Int):roundR pE [(14,true),(25,false)] 5 0 [] smScalarsB (smScalarsV t t' n f g v) .normal (smScalarsV t t' n f g v') =
  some (ckL [decide (v<(n:Int))==true,inR v n,inR v n,smScalarsN f g v==false]&&stR (rnm 0 []) (smScalarsV t t' n f g (wr .i64 (v+1))) (smScalarsV t t' n f g v')):=by kernel_rfl
theorem smScalarss (t t':Bool) (n:Nat) (f g:Nat→Nat→Int) (v:Int):roundR pE [(14,false)] 5 0 [] smScalarsB (smScalarsV t t' n f g v) (.exit 0) smScalars1=some (ckL [decide (v<(n:Int))==false]&&true):=by kernel_rfl
theorem smScalarst (t t':Bool) (n:Nat) (f g:Nat→Nat→Int) (v:Int):roundR pE [(14,true),(25,true)] 5 0 [] smScalarsB (smScalarsV t t' n f g v) .ret smScalars2 =
  some (ckL [decide (v<(n:Int))==true,inR v n,inR v n,smScalarsN f g v==true]&&true):=by kernel_rfl
theorem smScalarse {t t':Bool} {n:Nat} {f g:Nat→Nat→Int} {v v':Int} (h:v=v'):stR (rnm 0 []) (smScalarsV t t' n f g v) (smScalarsV t t' n f g v')=true:=by
 subst h
 simp [stR,smScalarsV,tmOf,tmR,avR,svR,rnm,zaj,zam,hpR,ndR]
theorem smScalarsn (f g:Nat→Nat→Int) (k:Nat):smScalarsN f g (k:Int)=!eqN 32 (f k) (g k):=by
 unfold smScalarsN
 rw [Int.toNat_natCast]
 rw [za1,za1,Bool.and_true]
def smScalarsP (f g:Nat→Nat→Int) (j:Nat):Bool:=eqN 32 (f j) (g j)
theorem smScalarsf (f g:Nat→Nat→Int) (n:Nat):eqF n 32 f g=Nat.beq (firstF (smScalarsP f g) n 0) n:=by
 obtain ⟨h1,h2,h3,h4⟩:=zaG (smScalarsP f g) n 0
 rw [Bool.eq_iff_iff]
 constructor
 ·intro h
  refine beq_t.2 ?_
  rcases Nat.lt_or_ge (firstF (smScalarsP f g) n 0) n with q | q
  ·have:=h4 (by omega)
   rw [show smScalarsP f g (firstF (smScalarsP f g) n 0)=true from zct fun d hd=>eqF_t h _ q d hd] at this
   cases this
  ·omega
 ·intro h
  have h:=beq_t.1 h
  exact zaK fun r hr d hd=>AM.eqN_t (h3 r (Nat.zero_le _) (by omega)) d hd
def smScalarsF1 (t t':Bool) (n:Nat) (f g:Nat→Nat→Int):LF:=famA 0 [] (smScalarsV t t' n f g ((0:Nat):Int)) (big n&&Nat.beq (firstF (smScalarsP f g) n 0) n) .normal smScalars1
def smScalarsF2 (t t':Bool) (n:Nat) (f g:Nat→Nat→Int):LF:=famA 0 [] (smScalarsV t t' n f g ((0:Nat):Int)) (big n&&Nat.ble (firstF (smScalarsP f g) n 0+1) n) .ret smScalars2
theorem smScalarsb:f_rimeplain_SameScalars.body.map (bodiesOf 0)=some [.loop smScalarsB]:=by kernel_rfl
theorem smScalarsk:codeOK prog pE.env.isW smScalarsB=true:=by kernel_rfl
theorem smScalarsstep {t t':Bool} {n:Nat} {f g:Nat→Nat→Int} (hb:big n=true) {k:Nat} (hk:k<firstF (smScalarsP f g) n 0) :
  ∃ s1 r,am pE.env 5 smScalarsB (smScalarsV t t' n f g (k:Int))=some (.normal,s1)∧StLeR r s1 (smScalarsV t t' n f g ((k+1:Nat):Int))∧∀ i,i<0→r i=some i:=by
 have hb:n≤4611686018427387904:=Nat.le_of_ble_eq_true hb
 obtain ⟨_,h2,h3,_⟩:=zaG (smScalarsP f g) n 0
 have hkn:k<n:=by omega
 have ew:wr .i64 ((k:Int)+1)=((k+1:Nat):Int):=by rw [za8 (by omega) (by omega)];rfl
 refine zal (smScalarsr t t' n f g (k:Int) ((k+1:Nat):Int)) (and_t.2 ⟨?_,smScalarse ew⟩)
 rw [smScalarsn,show eqN 32 (f k) (g k)=true from h3 k (Nat.zero_le _) hk,zbi hkn]
 simp [ckL];omega
theorem zim (t t':Bool) (n:Nat) (f g:Nat→Nat→Int):LRow prog f_rimeplain_SameScalars 0 (smScalarsF1 t t' n f g):=by
 refine LRow.famA (N:=5) (S:=fun k=>smScalarsV t t' n f g (k:Int)) (L0.env []) mix n (za2 smScalarsb) smScalarsk (fun w0 own0=>zat (fun id=>rfl) smScalarsB) (fun _ _=>Nat.zero_le _) (Nat.zero_le _) fun ha=>?_
 simp only [Bool.and_eq_true,beq_t] at ha
 refine ⟨fun k hk=>smScalarsstep ha.1 (by omega),?_⟩
 obtain ⟨s1,r,q1,q2,q3⟩:=zal (n:=0) (smScalarss t t' n f g (n:Int)) (and_t.2 ⟨by simp [ckL],rfl⟩)
 exact ⟨_,s1,r,q1,rfl,q2,q3⟩
theorem zia (t t':Bool) (n:Nat) (f g:Nat→Nat→Int):LRow prog f_rimeplain_SameScalars 0 (smScalarsF2 t t' n f g):=by
 refine LRow.famA (N:=5) (S:=fun k=>smScalarsV t t' n f g (k:Int)) (L0.env []) mix (firstF (smScalarsP f g) n 0) (za2 smScalarsb) smScalarsk (fun w0 own0=>zat (fun id=>rfl) smScalarsB) (fun _ _=>Nat.zero_le _) (Nat.zero_le _) fun ha=>?_
 simp only [Bool.and_eq_true,ble_t] at ha
 refine ⟨fun k hk=>smScalarsstep ha.1 hk,?_⟩
 have h4:=(zaG (smScalarsP f g) n 0).2.2.2 (by omega)
 obtain ⟨s1,r,q1,q2,q3⟩:=zal (n:=0) (smScalarst t t' n f g ((firstF (smScalarsP f g) n 0:Nat):Int)) (and_t.2 ⟨by
  rw [smScalarsn,show eqN 32 (f (firstF (smScalarsP f g) n 0)) (g (firstF (smScalarsP f g) n 0))=false from h4,zbi (show firstF (smScalarsP f g) n 0<n by omega)]
  simp [ckL];omega,rfl⟩)
 exact ⟨_,s1,r,q1,rfl,q2,q3⟩
def tSameScalars:TF:=fun args=>match args with
 | [.sc (.vints _ .u8 32 n f),.sc (.vints _ .u8 32 m g)]=>some (big n,.sc (.bool (Nat.beq n m&&eqF n 32 f g)))
 | _=>none
theorem zh3:fnChk prog pE f_rimeplain_SameScalars=true:=by kernel_rfl
theorem zif (t t':Bool) (n:Nat) (f g:Nat→Nat→Int):fnChk prog (envL tt [] [] [(0,smScalarsF1 t t' n f g)]) f_rimeplain_SameScalars=true:=by kernel_rfl
theorem zic (t t':Bool) (n:Nat) (f g:Nat→Nat→Int):fnChk prog (envL tt [] [] [(0,smScalarsF2 t t' n f g)]) f_rimeplain_SameScalars=true:=by kernel_rfl
theorem zh0 (t t':Bool) (n:Nat) (f g:Nat→Nat→Int):outP (apFunc (envL tt [] [] [(0,smScalarsF1 t t' n f g)]) [(10,false)] 5 f_rimeplain_SameScalars [.sc (.vints t .u8 32 n f),.sc (.vints t' .u8 32 n g)] []) =
  some (ckL [((n:Int) != (n:Int))==false,(big n&&Nat.beq (firstF (smScalarsP f g) n 0) n)&&stR (rnm 0 []) (smScalarsV t t' n f g 0) (smScalarsV t t' n f g ((0:Nat):Int))],.sc (.bool true)):=by kernel_rfl
theorem zix (t t':Bool) (n:Nat) (f g:Nat→Nat→Int):outP (apFunc (envL tt [] [] [(0,smScalarsF2 t t' n f g)]) [(10,false)] 5 f_rimeplain_SameScalars [.sc (.vints t .u8 32 n f),.sc (.vints t' .u8 32 n g)] []) =
  some (ckL [((n:Int) != (n:Int))==false,(big n&&Nat.ble (firstF (smScalarsP f g) n 0+1) n)&&stR (rnm 0 []) (smScalarsV t t' n f g 0) (smScalarsV t t' n f g ((0:Nat):Int))],.sc (.bool false)):=by kernel_rfl
theorem zid (t t':Bool) (n m:Nat) (f g:Nat→Nat→Int):outP (apFunc pE [(10,true)] 5 f_rimeplain_SameScalars [.sc (.vints t .u8 32 n f),.sc (.vints t' .u8 32 m g)] [])=some (ckL [((n:Int) != (m:Int))==true],.sc (.bool false)):=by kernel_rfl
theorem zgQ:TRow prog F_rimeplain_SameScalars tSameScalars:=by
 intro args r h
 unfold tSameScalars at h
 split at h
 case h_2=>simp at h
 rename_i t n f t' m g
 simp only [Option.some.injEq,Prod.mk.injEq] at h
 obtain ⟨hb,rfl⟩:=h
 by_cases e:n=m
 ·subst e
  have hs:stR (rnm 0 []) (smScalarsV t t' n f g 0) (smScalarsV t t' n f g ((0:Nat):Int))=true:=smScalarse rfl
  rw [smScalarsf,zan]
  cases he:Nat.beq (firstF (smScalarsP f g) n 0) n with
  | true =>
   have e:=zh0 t t' n f g
   rw [hb,he,hs,nn_t] at e
   exact zad L0 at_rimeplain_SameScalars (LsOK.nil.cons (zim t t' n f g)) (zif t t' n f g) (N:=5) (gs:=[(10,false)]) e
  | false =>
   have hlt:Nat.ble (firstF (smScalarsP f g) n 0+1) n=true:=Nat.ble_eq_true_of_le (by
    have:=(zaG (smScalarsP f g) n 0).2.1
    have:=beq_f.1 he
    omega)
   have e:=zix t t' n f g
   rw [hb,hlt,hs,nn_t] at e
   exact zad L0 at_rimeplain_SameScalars (LsOK.nil.cons (zia t t' n f g)) (zic t t' n f g) (N:=5) (gs:=[(10,false)]) e
 ·have e2:=zid t t' n m f g
  rw [nm_t e] at e2
  rw [show Nat.beq n m=false from beq_f.2 e]
  exact zab L0 at_rimeplain_SameScalars zh3 (N:=5) (gs:=[(10,true)]) e2
end Go.Proofs.YtplaklpfeabhiaaGreat
namespace Go.Proofs.YtplaklpfeabhiaaGreat
open Go.Proofs.Tryz
open Go Go.AM
noncomputable def smIntsB:Code:=match f_rimeplain_SameInts.body with | some c=>(match bodiesOf 0 c with | [.loop b]=>b | _=>.skip) | none=>.skip
def smIntsV (t t':Bool) (n:Nat) (f g:Nat→Nat→Int) (v:Int):St:=⟨tmOf [(0,.sc (.vints t .i64 1 n f)),(1,.sc (.vints t' .i64 1 n g)),(5,.sc (.int .i64 v))] 26 0,[]⟩
def smInts1:St:=⟨tmOf [] 26 0,[]⟩
def smInts2:St:=⟨tmOf [(4,.sc (.bool false))] 26 0,[]⟩
def smIntsN (f g:Nat→Nat→Int) (v:Int):Bool:=f v.toNat 0 != g v.toNat 0
theorem smIntsr (t t':Bool) (n:Nat) (f g:Nat→Nat→Int) (v v':Int):roundR pE [(14,true),(25,false)] 5 0 [] smIntsB (smIntsV t t' n f g v) .normal (smIntsV t t' n f g v') =
  some (ckL [decide (v<(n:Int))==true,inR v n,inR v n,smIntsN f g v==false]&&stR (rnm 0 []) (smIntsV t t' n f g (wr .i64 (v+1))) (smIntsV t t' n f g v')):=by kernel_rfl
theorem smIntss (t t':Bool) (n:Nat) (f g:Nat→Nat→Int) (v:Int):roundR pE [(14,false)] 5 0 [] smIntsB (smIntsV t t' n f g v) (.exit 0) smInts1=some (ckL [decide (v<(n:Int))==false]&&true):=by kernel_rfl
theorem smIntst (t t':Bool) (n:Nat) (f g:Nat→Nat→Int) (v:Int):roundR pE [(14,true),(25,true)] 5 0 [] smIntsB (smIntsV t t' n f g v) .ret smInts2 =
  some (ckL [decide (v<(n:Int))==true,inR v n,inR v n,smIntsN f g v==true]&&true):=by kernel_rfl
theorem smIntse {t t':Bool} {n:Nat} {f g:Nat→Nat→Int} {v v':Int} (h:v=v'):stR (rnm 0 []) (smIntsV t t' n f g v) (smIntsV t t' n f g v')=true:=by
 subst h
 simp [stR,smIntsV,tmOf,tmR,avR,svR,rnm,zaj,zam,hpR,ndR]
theorem smIntsn (f g:Nat→Nat→Int) (k:Nat):smIntsN f g (k:Int)=!eqN 1 (f k) (g k):=by
 unfold smIntsN
 rw [Int.toNat_natCast]
 simp [eqN,bne]
def smIntsP (f g:Nat→Nat→Int) (j:Nat):Bool:=eqN 1 (f j) (g j)
theorem smIntsf (f g:Nat→Nat→Int) (n:Nat):eqF n 1 f g=Nat.beq (firstF (smIntsP f g) n 0) n:=by
 obtain ⟨h1,h2,h3,h4⟩:=zaG (smIntsP f g) n 0
 rw [Bool.eq_iff_iff]
 constructor
 ·intro h
  refine beq_t.2 ?_
  rcases Nat.lt_or_ge (firstF (smIntsP f g) n 0) n with q | q
  ·have:=h4 (by omega)
   rw [show smIntsP f g (firstF (smIntsP f g) n 0)=true from zct fun d hd=>eqF_t h _ q d hd] at this
   cases this
  ·omega
 ·intro h
  have h:=beq_t.1 h
  exact zaK fun r hr d hd=>AM.eqN_t (h3 r (Nat.zero_le _) (by omega)) d hd
def smIntsF1 (t t':Bool) (n:Nat) (f g:Nat→Nat→Int):LF:=famA 0 [] (smIntsV t t' n f g ((0:Nat):Int)) (big n&&Nat.beq (firstF (smIntsP f g) n 0) n) .normal smInts1
def smIntsF2 (t t':Bool) (n:Nat) (f g:Nat→Nat→Int):LF:=famA 0 [] (smIntsV t t' n f g ((0:Nat):Int)) (big n&&Nat.ble (firstF (smIntsP f g) n 0+1) n) .ret smInts2
theorem smIntsb:f_rimeplain_SameInts.body.map (bodiesOf 0)=some [.loop smIntsB]:=by kernel_rfl
theorem smIntsk:codeOK prog pE.env.isW smIntsB=true:=by kernel_rfl
theorem smIntsstep {t t':Bool} {n:Nat} {f g:Nat→Nat→Int} (hb:big n=true) {k:Nat} (hk:k<firstF (smIntsP f g) n 0) :
  ∃ s1 r,am pE.env 5 smIntsB (smIntsV t t' n f g (k:Int))=some (.normal,s1)∧StLeR r s1 (smIntsV t t' n f g ((k+1:Nat):Int))∧∀ i,i<0→r i=some i:=by
 have hb:n≤4611686018427387904:=Nat.le_of_ble_eq_true hb
 obtain ⟨_,h2,h3,_⟩:=zaG (smIntsP f g) n 0
 have hkn:k<n:=by omega
 have ew:wr .i64 ((k:Int)+1)=((k+1:Nat):Int):=by rw [za8 (by omega) (by omega)];rfl
 refine zal (smIntsr t t' n f g (k:Int) ((k+1:Nat):Int)) (and_t.2 ⟨?_,smIntse ew⟩)
 rw [smIntsn,show eqN 1 (f k) (g k)=true from h3 k (Nat.zero_le _) hk,zbi hkn]
 simp [ckL];omega
theorem zol (t t':Bool) (n:Nat) (f g:Nat→Nat→Int):LRow prog f_rimeplain_SameInts 0 (smIntsF1 t t' n f g):=by
 refine LRow.famA (N:=5) (S:=fun k=>smIntsV t t' n f g (k:Int)) (L0.env []) mix n (za2 smIntsb) smIntsk (fun w0 own0=>zat (fun id=>rfl) smIntsB) (fun _ _=>Nat.zero_le _) (Nat.zero_le _) fun ha=>?_
 simp only [Bool.and_eq_true,beq_t] at ha
 refine ⟨fun k hk=>smIntsstep ha.1 (by omega),?_⟩
 obtain ⟨s1,r,q1,q2,q3⟩:=zal (n:=0) (smIntss t t' n f g (n:Int)) (and_t.2 ⟨by simp [ckL],rfl⟩)
 exact ⟨_,s1,r,q1,rfl,q2,q3⟩
theorem zoG (t t':Bool) (n:Nat) (f g:Nat→Nat→Int):LRow prog f_rimeplain_SameInts 0 (smIntsF2 t t' n f g):=by
 refine LRow.famA (N:=5) (S:=fun k=>smIntsV t t' n f g (k:Int)) (L0.env []) mix (firstF (smIntsP f g) n 0) (za2 smIntsb) smIntsk (fun w0 own0=>zat (fun id=>rfl) smIntsB) (fun _ _=>Nat.zero_le _) (Nat.zero_le _) fun ha=>?_
 simp only [Bool.and_eq_true,ble_t] at ha
 refine ⟨fun k hk=>smIntsstep ha.1 hk,?_⟩
 have h4:=(zaG (smIntsP f g) n 0).2.2.2 (by omega)
 obtain ⟨s1,r,q1,q2,q3⟩:=zal (n:=0) (smIntst t t' n f g ((firstF (smIntsP f g) n 0:Nat):Int)) (and_t.2 ⟨by
  rw [smIntsn,show eqN 1 (f (firstF (smIntsP f g) n 0)) (g (firstF (smIntsP f g) n 0))=false from h4,zbi (show firstF (smIntsP f g) n 0<n by omega)]
  simp [ckL];omega,rfl⟩)
 exact ⟨_,s1,r,q1,rfl,q2,q3⟩
def tSameInts:TF:=fun args=>match args with
 | [.sc (.vints _ .i64 1 n f),.sc (.vints _ .i64 1 m g)]=>some (big n,.sc (.bool (Nat.beq n m&&eqF n 1 f g)))
 | _=>none
theorem zok:fnChk prog pE f_rimeplain_SameInts=true:=by kernel_rfl
theorem zo4 (t t':Bool) (n:Nat) (f g:Nat→Nat→Int):fnChk prog (envL tt [] [] [(0,smIntsF1 t t' n f g)]) f_rimeplain_SameInts=true:=by kernel_rfl
theorem znh (t t':Bool) (n:Nat) (f g:Nat→Nat→Int):fnChk prog (envL tt [] [] [(0,smIntsF2 t t' n f g)]) f_rimeplain_SameInts=true:=by kernel_rfl
theorem zmH (t t':Bool) (n:Nat) (f g:Nat→Nat→Int):outP (apFunc (envL tt [] [] [(0,smIntsF1 t t' n f g)]) [(10,false)] 5 f_rimeplain_SameInts [.sc (.vints t .i64 1 n f),.sc (.vints t' .i64 1 n g)] []) =
  some (ckL [((n:Int) != (n:Int))==false,(big n&&Nat.beq (firstF (smIntsP f g) n 0) n)&&stR (rnm 0 []) (smIntsV t t' n f g 0) (smIntsV t t' n f g ((0:Nat):Int))],.sc (.bool true)):=by kernel_rfl
theorem zoV (t t':Bool) (n:Nat) (f g:Nat→Nat→Int):outP (apFunc (envL tt [] [] [(0,smIntsF2 t t' n f g)]) [(10,false)] 5 f_rimeplain_SameInts [.sc (.vints t .i64 1 n f),.sc (.vints t' .i64 1 n g)] []) =
  some (ckL [((n:Int) != (n:Int))==false,(big n&&Nat.ble (firstF (smIntsP f g) n 0+1) n)&&stR (rnm 0 []) (smIntsV t t' n f g 0) (smIntsV t t' n f g ((0:Nat):Int))],.sc (.bool false)):=by kernel_rfl
theorem zmx (t t':Bool) (n m:Nat) (f g:Nat→Nat→Int):outP (apFunc pE [(10,true)] 5 f_rimeplain_SameInts [.sc (.vints t .i64 1 n f),.sc (.vints t' .i64 1 m g)] [])=some (ckL [((n:Int) != (m:Int))==true],.sc (.bool false)):=by kernel_rfl
theorem zlq:TRow prog F_rimeplain_SameInts tSameInts:=by
 intro args r h
 unfold tSameInts at h
 split at h
 case h_2=>simp at h
 rename_i t n f t' m g
 simp only [Option.some.injEq,Prod.mk.injEq] at h
 obtain ⟨hb,rfl⟩:=h
 by_cases e:n=m
 ·subst e
  have hs:stR (rnm 0 []) (smIntsV t t' n f g 0) (smIntsV t t' n f g ((0:Nat):Int))=true:=smIntse rfl
  rw [smIntsf,zan]
  cases he:Nat.beq (firstF (smIntsP f g) n 0) n with
  | true =>
   have e:=zmH t t' n f g
   rw [hb,he,hs,nn_t] at e
   exact zad L0 at_rimeplain_SameInts (LsOK.nil.cons (zol t t' n f g)) (zo4 t t' n f g) (N:=5) (gs:=[(10,false)]) e
  | false =>
   have hlt:Nat.ble (firstF (smIntsP f g) n 0+1) n=true:=Nat.ble_eq_true_of_le (by
    have:=(zaG (smIntsP f g) n 0).2.1
    have:=beq_f.1 he
    omega)
   have e:=zoV t t' n f g
   rw [hb,hlt,hs,nn_t] at e
   exact zad L0 at_rimeplain_SameInts (LsOK.nil.cons (zoG t t' n f g)) (znh t t' n f g) (N:=5) (gs:=[(10,false)]) e
 ·have e2:=zmx t t' n m f g
  rw [nm_t e] at e2
  rw [show Nat.beq n m=false from beq_f.2 e]
  exact zab L0 at_rimeplain_SameInts zok (N:=5) (gs:=[(10,true)]) e2
end Go.Proofs.YtplaklpfeabhiaaGreat
