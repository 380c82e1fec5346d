/-
  Texts of the claim: Fq Fq2 Pol Ar8 Grp Grp2 PrL Scan.
-/
import Derived.Test.YtplaklpfeabhiaaGreatAc
import Derived.Test.YtplaklpfeabhiaaGreatAd
import Derived.Test.YtplaklpfeabhiaaGreatAe
namespace Go.AM
open Go
def PN:Nat:=57896044618658097711785492504343953926634992332820282019728792003956564819949
instance instPN:NeZero PN:=⟨by decide⟩
abbrev FF:=Fin PN
theorem pP_PN:pP=(PN:Int):=by decide
def fq (x:Int):FF:=⟨(x % pP).toNat,by
 have h1:=Int.emod_nonneg x (show pP≠0 by decide)
 have h2:=Int.emod_lt_of_pos x zd9
 rw [pP_PN] at *
 omega⟩
theorem zce (x:Int):((fq x).val:Int)=x % pP:=by
 have h1:=Int.emod_nonneg x (show pP≠0 by decide)
 show (((x % pP).toNat:Nat):Int)=_
 omega
theorem zhK {a b:FF} (h:(a.val:Int)=(b.val:Int)):a=b:=Fin.ext (by omega)
theorem fq_eq {x y:Int} (h:x % pP=y % pP):fq x=fq y:=zhK (by rw [zce,zce,h])
theorem zaU (x y:Int):fq (mM x y)=fq x*fq y:=by
 refine zhK ?_
 rw [zce,Fin.val_mul,Int.natCast_emod,Int.natCast_mul,zce,zce,← pP_PN]
 unfold mM
 rw [md_md,zcl,zdi]
theorem zcu (x y:Int):fq (mA x y)=fq x+fq y:=by
 refine zhK ?_
 rw [zce,Fin.val_add,Int.natCast_emod,Int.natCast_add,zce,zce,← pP_PN]
 unfold mA
 rw [md_md,zjS,zr4]
theorem zbR (x y:Int):fq (mS x y)=fq x - fq y:=by
 have e:fq (mA (mS x y) y)=fq x:=fq_eq (by unfold mA mS;rw [zjS,md_md,show x - y+y=x by omega])
 rw [zcu] at e
 rw [← e]
 grind
theorem zhB {x y:Int} (hx:0≤x∧x<pP) (hy:0≤y∧y<pP) (h:fq x=fq y):x=y:=by
 have:=congrArg (fun a:FF=>(a.val:Int)) h
 simp only [zce] at this
 rwa [md_id hx,md_id hy] at this
theorem fq_0:fq 0=0:=by decide
theorem fq_1:fq 1=1:=by decide
theorem ziV {x:Int} (hx:0≤x∧x<pP):fq x=0 ↔ x=0:=⟨fun h=>zhB hx (by decide) (h.trans fq_0.symm),fun h=>by rw [h];exact fq_0⟩
def fpow (a:FF) (n:Nat):FF:=⟨a.val ^ n % PN,Nat.mod_lt _ (by decide)⟩
theorem zrD (a:FF) (n:Nat):(fpow a n).val=a.val ^ n % PN:=rfl
theorem zun:(1:FF).val=1:=by decide
theorem zeE (a:FF) (m n:Nat):fpow a (m+n)=fpow a m*fpow a n:=Fin.ext (by
 rw [Fin.val_mul]
 show a.val ^ (m+n) % PN=(a.val ^ m % PN)*(a.val ^ n % PN) % PN
 rw [Nat.pow_add,Nat.mul_mod])
theorem zkZ (a:FF):fpow a 1=a:=Fin.ext (by
 show a.val ^ 1 % PN=a.val
 rw [Nat.pow_one,Nat.mod_eq_of_lt a.isLt])
theorem zna (a:FF) (n:Nat):fpow (a*a) n=fpow a (2*n):=Fin.ext (by
 show (a*a).val ^ n % PN=a.val ^ (2*n) % PN
 rw [Fin.val_mul,← Nat.pow_mod,Nat.pow_mul,Nat.pow_two])
theorem zsu {x:Int} (n:Nat):fq (powM x n)=fpow (fq x) n:=by
 refine zhK ?_
 rw [zce]
 show _=(((fq x).val ^ n % PN:Nat):Int)
 rw [Int.natCast_emod,Int.natCast_pow,zce,← pP_PN]
 unfold powM
 rw [md_md]
 induction n with
 | zero=>rw [Int.pow_zero,Int.pow_zero]
 | succ n ih=>rw [Int.pow_succ,Int.pow_succ,← zcl,ih,zcl,zdi]
theorem zwj {a:FF} (h:a≠0):a.val % PN≠0:=fun e=>h (Fin.ext (by
 rw [Nat.mod_eq_of_lt a.isLt] at e
 exact e))
def pm1:Nat:=57896044618658097711785492504343953926634992332820282019728792003956564819948
def pm2:Nat:=57896044618658097711785492504343953926634992332820282019728792003956564819947
theorem zy4 {n a e:Nat} (h:Full n a) (he:e=n - 1):∀ x,x % n≠0→x ^ e % n=1:=by subst he;exact h.2.2
theorem fermat:∀ x:Nat,x % PN≠0→x ^ pm1 % PN=1:=zy4 (n:=PN) (e:=pm1) zw5 (by decide)
theorem zg5 {a:FF} (h:a≠0):fpow a pm1=1:=Fin.ext (fermat a.val (zwj h))
theorem pm2_1:1+pm2=pm1:=by decide
theorem zjI {a:FF} (h:a≠0):a*fpow a pm2=1:=by
 have e:=zg5 h
 rw [← pm2_1,zeE,zkZ] at e
 exact e
theorem zf7 {a:FF} (h:a≠0):∃ b,a*b=1:=⟨_,zjI h⟩
theorem f01:(1:FF)≠0:=by decide
theorem za3 {a b:FF} (h:a*b=0):a=0 ∨ b=0:=by
 by_cases ha:a=0
 ·exact .inl ha
 ·obtain ⟨c,hc⟩:=zf7 ha
  right
  grind
theorem zeg {a b:FF} (ha:a≠0) (hb:b≠0):a*b≠0:=fun h=>by
 rcases za3 h with e | e
 ·exact ha e
 ·exact hb e
def dF:FF:=fq eD
def iI:Int:=19681161376707505956807079304988542015446066515923890162744021073123829784752
def iF:FF:=fq iI
theorem iF_sq:iF*iF+1=0:=by decide +kernel
def pmh:Nat:=28948022309329048855892746252171976963317496166410141009864396001978282409974
theorem pmh_2:2*pmh=pm1:=by decide
theorem zy6:fpow dF pmh≠1:=fun h=>by
 have h:=congrArg Fin.val h
 rw [zrD,zun] at h
 have e:=zjZ PN 256 dF.val pmh (by decide +kernel)
 rw [h] at e
 exact absurd e (by decide +kernel)
theorem dF_ne:dF≠0:=by decide +kernel
theorem zsq (s:FF):s*s≠dF:=fun h=>by
 have hs:s≠0:=fun e=>dF_ne (by rw [← h,e];decide)
 have e:=zna s pmh
 rw [h,pmh_2,zg5 hs] at e
 exact zy6 e
theorem dF_1:dF+1≠0:=by decide +kernel
theorem zxA:(2:FF)≠0:=by decide +kernel
theorem zno {A M W d v w:FF} (h:A*A=d*(M*M)*(W*W)) (hv:M*v=1) (hw:W*w=1):(A*v*w)*(A*v*w)=d:=by
 have e1:(A*v*w)*(A*v*w)=(A*A)*((v*w)*(v*w)):=by grind
 have e2:d*(M*M)*(W*W)*((v*w)*(v*w))=d*((M*v)*(M*v))*((W*w)*(W*w)):=by grind
 rw [e1,h,e2,hv,hw]
 grind
theorem zjV {i d x y W:FF} (hi:i*i+1=0):(-1)*d*(i*x)*(i*x)*(y*y)*(W*W)=d*((x*y)*(x*y))*(W*W):=by grind
theorem complete {x1 y1 x2 y2 e:FF} (c1:y1*y1 - x1*x1=1+dF*(x1*x1)*(y1*y1)) (c2:y2*y2 - x2*x2=1+dF*(x2*x2)*(y2*y2)) (he:e*e=1) (h:dF*x1*x2*y1*y2=e):False:=by
 have e0:e≠0:=fun q=>f01 (by rw [← he,q];decide)
 have nz:x1*y1≠0:=fun q=>e0 (by rw [← h];grind)
 have nz2:x2*y2≠0:=fun q=>e0 (by rw [← h];grind)
 obtain ⟨v,hv⟩:=zf7 nz
 have hi:=iF_sq
 have nd:=zsq
 generalize dF=d at *
 generalize iF=i at *
 have k1:(i*x1+e*y1)*(i*x1+e*y1)=(-1)*d*(i*x1)*(i*x1)*(y1*y1)*((i*x2+y2)*(i*x2+y2)):=by grind
 have k2:(i*x1 - e*y1)*(i*x1 - e*y1)=(-1)*d*(i*x1)*(i*x1)*(y1*y1)*((i*x2 - y2)*(i*x2 - y2)):=by grind
 by_cases s1:i*x2+y2=0
 ·by_cases s2:i*x2 - y2=0
  ·have:(2:FF)*y2=0:=by grind
   rcases za3 this with q | q
   ·exact zxA q
   ·exact nz2 (by rw [q];grind)
  ·obtain ⟨w,hw⟩:=zf7 s2
   exact nd ((i*x1 - e*y1)*v*w) (zno (k2.trans (zjV hi)) hv hw)
 ·obtain ⟨w,hw⟩:=zf7 s1
  exact nd ((i*x1+e*y1)*v*w) (zno (k1.trans (zjV hi)) hv hw)
end Go.AM
namespace Go.AM
open Go
structure OnF (X Y Z T:FF):Prop where
 c:Y*Y - X*X=Z*Z+dF*(T*T)
 t:X*Y=Z*T
 z:Z≠0
theorem OnF.aff {X Y Z T:FF} (h:OnF X Y Z T):∃ z,Z*z=1∧(Y*z)*(Y*z) - (X*z)*(X*z)=1+dF*((X*z)*(X*z))*((Y*z)*(Y*z))∧T*z=(X*z)*(Y*z):=by
 obtain ⟨c,t,hz⟩:=h
 obtain ⟨z,h⟩:=zf7 hz
 have e:T*z=(X*z)*(Y*z):=by
  have:X*Y*(z*z)=Z*T*(z*z):=by rw [t]
  grind
 refine ⟨z,h,?_,e⟩
 generalize dF=d at *
 have e1:(Y*z)*(Y*z) - (X*z)*(X*z)=(Y*Y - X*X)*(z*z):=by grind
 have e2:(Z*Z+d*(T*T))*(z*z)=(Z*z)*(Z*z)+d*((T*z)*(T*z)):=by grind
 rw [e1,c,e2,h,e]
 grind
theorem sum_z {X1 Y1 Z1 T1 X2 Y2 Z2 T2:FF} (h1:OnF X1 Y1 Z1 T1) (h2:OnF X2 Y2 Z2 T2) {e:FF} (he:e*e=1):Z1*Z2 - e*(dF*T1*T2)≠0:=fun h=>by
 obtain ⟨z1,a1,b1,d1⟩:=h1.aff
 obtain ⟨z2,a2,b2,d2⟩:=h2.aff
 refine complete b1 b2 he ?_
 have k:(Z1*Z2 - e*(dF*T1*T2))*(z1*z2)=(Z1*z1)*(Z2*z2) - e*(dF*(T1*z1)*(T2*z2)):=by grind
 rw [h,a1,a2,d1,d2] at k
 clear b1 b2 h d1 d2 a1 a2 h1 h2
 generalize X1*z1=x1 at *
 generalize X2*z2=x2 at *
 generalize Y1*z1=y1 at *
 generalize Y2*z2=y2 at *
 generalize dF=d at *
 have:e*(e*(d*x1*x2*y1*y2))=e:=by grind
 grind
theorem znS {X1 Y1 Z1 T1 X2 Y2 Z2 T2:FF} (h1:OnF X1 Y1 Z1 T1) (h2:OnF X2 Y2 Z2 T2) {E F G H:FF} (hE:E=X1*Y2+X2*Y1) (hF:F=Z1*Z2 - dF*T1*T2) (hG:G=Z1*Z2+dF*T1*T2) (hH:H=Y1*Y2+X1*X2) :
  OnF (E*F) (G*H) (F*G) (E*H):=by
 refine ⟨?_,by grind,zeg ?_ ?_⟩
 ·obtain ⟨c1,t1,_⟩:=h1
  obtain ⟨c2,t2,_⟩:=h2
  subst hE hF hG hH
  generalize dF=d at *
  have a1:(Y1*Y2+X1*X2)*(Y1*Y2+X1*X2) - (X1*Y2+X2*Y1)*(X1*Y2+X2*Y1)=(Y1*Y1 - X1*X1)*(Y2*Y2 - X2*X2):=by grind
  have a2:(X1*Y2+X2*Y1)*(X1*Y2+X2*Y1)=(Y1*Y1+X1*X1)*0+X1*X1*(Y2*Y2)+X2*X2*(Y1*Y1)+2*((X1*Y1)*(X2*Y2)):=by grind
  have a3:(Y1*Y2+X1*X2)*(Y1*Y2+X1*X2)=Y1*Y1*(Y2*Y2)+X1*X1*(X2*X2)+2*((X1*Y1)*(X2*Y2)):=by grind
  grind
 ·have:=sum_z h1 h2 (e:=1) (by grind)
  rw [hF]
  intro q
  exact this (by rw [← q];grind)
 ·have:=sum_z h1 h2 (e:=-1) (by grind)
  rw [hG]
  intro q
  exact this (by rw [← q];grind)
abbrev inP (x:Int):Prop:=0≤x∧x<pP
structure On4 (q:Q4):Prop where
 r1:inP q.1
 r2:inP q.2.1
 r3:inP q.2.2.1
 r4:inP q.2.2.2
 on:OnF (fq q.1) (fq q.2.1) (fq q.2.2.1) (fq q.2.2.2)
theorem mM_in (x y:Int):inP (mM x y):=⟨Int.emod_nonneg _ (by decide),Int.emod_lt_of_pos _ zd9⟩
theorem id_on:On4 idS4:=⟨by decide,by decide,by decide,by decide,by decide,by decide,by decide⟩
theorem zxC {p q:Q4} (hp:On4 p) (hq:On4 q):On4 (addS p q):=by
 refine ⟨mM_in _ _,mM_in _ _,mM_in _ _,mM_in _ _,?_⟩
 unfold addS
 simp only [zaU]
 refine znS hp.on hq.on ?_ ?_ ?_ ?_
 ·simp only [zbR,zcu,zaU];grind
 ·simp only [zbR,zaU];rfl
 ·simp only [zcu,zaU];rfl
 ·simp only [zcu,zaU]
theorem zwR {a:FF} (h:a≠0):(-1)*a≠0:=zeg (by decide) h
theorem zx5 {X Y Z T:FF} (h:OnF X Y Z T):OnF ((-1)*X) ((-1)*Y) ((-1)*Z) ((-1)*T):=by
 obtain ⟨c,t,z⟩:=h
 refine ⟨?_,?_,zwR z⟩
 ·generalize dF=d at *;grind
 ·grind
theorem dbl_f {X Y Z T d:FF} (c:Y*Y - X*X=Z*Z+d*(T*T)):(Z*Z+Z*Z)+(X*X - Y*Y)=Z*Z - d*T*T∧X*X - Y*Y=(-1)*(Z*Z+d*T*T):=by constructor <;> grind
theorem zlg {X Y Z T:FF} (h:OnF X Y Z T):((X*X+Y*Y) - (X+Y)*(X+Y))*((Z*Z+Z*Z)+(X*X - Y*Y))=(-1)*((X*Y+X*Y)*(Z*Z - dF*T*T))∧(X*X - Y*Y)*(X*X+Y*Y)=(-1)*((Z*Z+dF*T*T)*(Y*Y+X*X)) ∧
  ((Z*Z+Z*Z)+(X*X - Y*Y))*(X*X - Y*Y)=(-1)*((Z*Z - dF*T*T)*(Z*Z+dF*T*T))∧((X*X+Y*Y) - (X+Y)*(X+Y))*(X*X+Y*Y)=(-1)*((X*Y+X*Y)*(Y*Y+X*X)):=by
 obtain ⟨c,t,z⟩:=h
 obtain ⟨e1,e2⟩:=dbl_f c
 rw [e1,e2]
 clear e1 e2 c t z
 generalize dF=d
 refine ⟨?_,?_,?_,?_⟩ <;> grind
theorem zwu {p:Q4} (hp:On4 p):On4 (dblS p):=by
 refine ⟨mM_in _ _,mM_in _ _,mM_in _ _,mM_in _ _,?_⟩
 unfold dblS
 simp only [zaU,zbR,zcu]
 obtain ⟨e1,e2,e3,e4⟩:=zlg hp.on
 rw [e1,e2,e3,e4]
 exact zx5 (znS hp.on hp.on rfl rfl rfl rfl)
theorem zza {x:FF} (h:1*1 - x*x=1+dF*(x*x)*(1*1)):x=0:=by
 have e:(x*x)*(dF+1)=0:=by
  generalize dF=d at *
  grind
 rcases za3 e with q | q
 ·rcases za3 q with q | q <;> exact q
 ·exact absurd q dF_1
theorem zss {x z:Int} (hz:z=powM x 57896044618658097711785492504343953926634992332820282019728792003956564819947) (h:fq x≠0):fq x*fq z=1:=by
 rw [hz,zsu]
 exact zjI h
theorem zp1 {q:Q4} (h:On4 q) {w:Int} (hw:w=powM q.2.2.1 57896044618658097711785492504343953926634992332820282019728792003956564819947):(q.1=0∧q.2.1=q.2.2.1) ↔ mM q.2.1 w+mM q.1 w % 2*57896044618658097711785492504343953926634992332820282019728792003956564819968=1:=by
 obtain ⟨X,Y,Z,T⟩:=q
 obtain ⟨r1,r2,r3,r4,on⟩:=h
 dsimp only at *
 have hz:=zss hw on.z
 clear hw
 have hy:=mM_in Y w
 have hx:=mM_in X w
 have ey:=zaU Y w
 have ex:=zaU X w
 have px:(57896044618658097711785492504343953926634992332820282019728792003956564819949:Int)=pP:=rfl
 generalize hvx:mM X w=vx at *
 generalize hvy:mM Y w=vy at *
 generalize fq w=z at *
 unfold inP at hx hy
 rw [← px] at hx hy
 constructor
 ·rintro ⟨h1,h2⟩
  have e1:vx=0:=(ziV hx).1 (by rw [ex,h1,fq_0];grind)
  have e2:vy=1:=zhB hy (by decide) (by rw [ey,h2,hz,fq_1])
  rw [e1,e2];rfl
 ·intro h
  have e2:vy=1:=by omega
  have hy1:fq Y*z=1:=by rw [← ey,e2,fq_1]
  have eYZ:fq Y=fq Z:=by
   have:fq Y*z*fq Z=fq Y*(fq Z*z):=by grind
   rw [hy1,hz] at this
   grind
  obtain ⟨z',k1,k2,k3⟩:=on.aff
  have ezz:z'=z:=by
   have:fq Z*z*z'=fq Z*z'*z:=by grind
   rw [hz,k1] at this
   grind
  rw [ezz,hy1] at k2
  have hx0:=zza k2
  have:fq X=0:=by
   rcases za3 hx0 with q | q
   ·exact q
   ·rw [q] at hz
    exact absurd (by rw [← hz];grind:(1:FF)=0) f01
  exact ⟨(ziV r1).1 this,zhB r2 r3 eYZ⟩
end Go.AM
namespace Go.AM
def hs (c:Nat→Int) (x:Int):Nat→Nat→Int
 | 0,_=>0
 | m+1,j=>(hs c x m (j+1)*x+c j) % ordL
theorem zgS (c:Nat→Int) (x:Int):∀ m j,0≤hs c x m j∧hs c x m j<ordL
 | 0,_=>by show (0:Int)≤0∧(0:Int)<ordL;decide
 | m+1,j=>⟨(zaA _).1,(zaA _).2.1⟩
end Go.AM
namespace Go.AM
open Go
def sh (n:Int):Nat→Int
 | 0=>n
 | k+1=>sh n k / 4294967296
theorem zkk (n:Int):∀ k,sh (n / 4294967296) k=sh n (k+1)
 | 0=>rfl
 | k+1=>by
  show sh (n / 4294967296) k / 4294967296=sh n (k+1) / 4294967296
  rw [zkk n k]
theorem zcD (n:Int):∀ k,dig n k=sh n k % 4294967296:=fun k=>by
 induction k generalizing n with
 | zero=>rfl
 | succ k ih =>
  show dig (n / 4294967296) k=_
  rw [ih,zkk]
theorem zmF (n:Int) (i:Nat):∀ k,sh (sh n i) k=sh n (i+k)
 | 0=>rfl
 | k+1=>by
  show sh (sh n i) k / 4294967296=sh n (i+k) / 4294967296
  rw [zmF n i k]
theorem zcT {n:Int} (h0:0≤n):∀ {k m:Nat},n<4294967296 ^ (k+m)→0≤sh n k∧sh n k<4294967296 ^ m
 | 0,m,h=>by
  rw [Nat.zero_add] at h
  exact ⟨h0,h⟩
 | k+1,m,h=>by
  have e:=zcT h0 (k:=k) (m:=m+1) (by rw [show k+(m+1)=k+1+m by omega];exact h)
  show 0≤sh n k / 4294967296∧sh n k / 4294967296<_
  rw [Int.pow_succ] at e
  have:(0:Int)<4294967296 ^ m:=Int.pow_pos (by omega)
  omega
theorem zgu {n:Int} (h0:0≤n) {k r:Nat} (h:n<4294967296 ^ k) (hr:k≤r):dig n r=0:=by
 have e:=zcT h0 (k:=r) (m:=0) (by
  rw [Nat.add_zero]
  exact Int.lt_of_lt_of_le h (by have h3:=Nat.pow_le_pow_right (n:=4294967296) (by omega) hr;have h4:((4294967296 ^ k:Nat):Int)≤((4294967296 ^ r:Nat):Int):=Int.ofNat_le.2 h3;rw [Int.natCast_pow,Int.natCast_pow] at h4;exact h4))
 rw [zcD]
 rw [Int.pow_zero] at e
 omega
theorem zv1 (p m:Int):∀ (i r:Nat),r<i→dig (p+4294967296 ^ i*m) r=dig p r:=fun i=>by
 induction i generalizing p with
 | zero=>intro r h;omega
 | succ i ih =>
  intro r h
  have e:(p+4294967296 ^ (i+1)*m) / 4294967296=p / 4294967296+4294967296 ^ i*m:=by
   rw [Int.pow_succ,show p+4294967296 ^ i*4294967296*m=p+4294967296*(4294967296 ^ i*m) by rw [Int.mul_comm (4294967296 ^ i) 4294967296,Int.mul_assoc]]
   generalize (4294967296:Int) ^ i*m=q
   omega
  cases r with
  | zero =>
   show (p+4294967296 ^ (i+1)*m) % 4294967296=p % 4294967296
   rw [Int.pow_succ,show p+4294967296 ^ i*4294967296*m=p+4294967296*(4294967296 ^ i*m) by rw [Int.mul_comm (4294967296 ^ i) 4294967296,Int.mul_assoc]]
   generalize (4294967296:Int) ^ i*m=q
   omega
  | succ r =>
   show dig ((p+4294967296 ^ (i+1)*m) / 4294967296) r=dig (p / 4294967296) r
   rw [e]
   exact ih (p / 4294967296) r (by omega)
theorem zum (p m:Int):∀ i:Nat,sh (p+4294967296 ^ i*m) i=sh p i+m:=fun i=>by
 induction i generalizing p with
 | zero=>show p+4294967296 ^ 0*m=p+m;rw [Int.pow_zero,Int.one_mul]
 | succ i ih =>
  have e:(p+4294967296 ^ (i+1)*m) / 4294967296=p / 4294967296+4294967296 ^ i*m:=by
   rw [Int.pow_succ,show p+4294967296 ^ i*4294967296*m=p+4294967296*(4294967296 ^ i*m) by rw [Int.mul_comm (4294967296 ^ i) 4294967296,Int.mul_assoc]]
   generalize (4294967296:Int) ^ i*m=q
   omega
  rw [← zkk,e,ih,zkk]
def caS (f g:Nat→Int) (x:Int):Nat→Int
 | 0=>0+f 0+x*g 0
 | k+1=>caS f g x k / 4294967296+f (k+1)+x*g (k+1)
def caC (f g:Nat→Int) (x:Int):Nat→Int
 | 0=>0
 | k+1=>caS f g x k / 4294967296
theorem zfl (f g:Nat→Int) (x:Int):∀ k,caS f g x k=caC f g x k+f k+x*g k
 | 0=>rfl
 | _+1=>rfl
theorem zee {f g:Nat→Int} {x F G:Int} (hx:W32 x) (hf:∀ j,f j=dig F j) (hg:∀ j,g j=dig G j) :
  ∀ k,caC f g x k+sh F k+x*sh G k=sh (F+x*G) k∧0≤caC f g x k∧caC f g x k<4294967296
 | 0=>by
  refine ⟨?_,by show (0:Int)≤0;omega,by show (0:Int)<_;omega⟩
  show 0+F+x*G=F+x*G
  omega
 | k+1=>by
  obtain ⟨e,c0,c1⟩:=zee hx hf hg k
  have ef:f k=sh F k % 4294967296:=by rw [hf,zcD]
  have eg:g k=sh G k % 4294967296:=by rw [hg,zcD]
  have es:=zfl f g x k
  have e1:x*sh G k=4294967296*(x*(sh G k / 4294967296))+x*(sh G k % 4294967296):=by
   have h:sh G k=4294967296*(sh G k / 4294967296)+sh G k % 4294967296:=by omega
   have h2:x*sh G k=x*(4294967296*(sh G k / 4294967296)+sh G k % 4294967296):=by rw [← h]
   rw [h2,Int.mul_add,← Int.mul_assoc,Int.mul_comm x 4294967296,Int.mul_assoc]
  have hd:0≤x*(sh G k % 4294967296)∧x*(sh G k % 4294967296)≤4294967295*4294967295:=by
   unfold W32 at hx
   refine ⟨Int.mul_nonneg hx.1 (by omega),Int.mul_le_mul (by omega) (by omega) (by omega) (by omega)⟩
  rw [ef,eg] at es
  show caS f g x k / 4294967296+sh F k / 4294967296+x*(sh G k / 4294967296)=sh (F+x*G) k / 4294967296∧0≤caS f g x k / 4294967296∧caS f g x k / 4294967296<4294967296
  rw [es,← e,e1]
  generalize x*(sh G k % 4294967296)=p at *
  generalize x*(sh G k / 4294967296)=q at *
  generalize caC f g x k=c at *
  omega
theorem znW {f g:Nat→Int} {x F G:Int} (hx:W32 x) (hf:∀ j,f j=dig F j) (hg:∀ j,g j=dig G j) (k:Nat) :
  caS f g x k % 4294967296=dig (F+x*G) k∧0≤caS f g x k∧caS f g x k<18446744073709551616:=by
 obtain ⟨e,c0,c1⟩:=zee hx hf hg k
 have ef:f k=sh F k % 4294967296:=by rw [hf,zcD]
 have eg:g k=sh G k % 4294967296:=by rw [hg,zcD]
 have es:=zfl f g x k
 have e1:x*sh G k=4294967296*(x*(sh G k / 4294967296))+x*(sh G k % 4294967296):=by
  have h:sh G k=4294967296*(sh G k / 4294967296)+sh G k % 4294967296:=by omega
  have h2:x*sh G k=x*(4294967296*(sh G k / 4294967296)+sh G k % 4294967296):=by rw [← h]
  rw [h2,Int.mul_add,← Int.mul_assoc,Int.mul_comm x 4294967296,Int.mul_assoc]
 have hd:0≤x*(sh G k % 4294967296)∧x*(sh G k % 4294967296)≤4294967295*4294967295:=by
  unfold W32 at hx
  refine ⟨Int.mul_nonneg hx.1 (by omega),Int.mul_le_mul (by omega) (by omega) (by omega) (by omega)⟩
 rw [ef,eg] at es
 rw [zcD,es,← e,e1]
 generalize x*(sh G k % 4294967296)=p at *
 generalize x*(sh G k / 4294967296)=q at *
 generalize caC f g x k=c at *
 omega
theorem zk5 {P:Int} (n:Nat):∀ k,k≤n→dval (fun r _=>dig P r) n k=sh P (n - k) % 4294967296 ^ k
 | 0,_=>by
  show 0=_
  rw [Int.pow_zero,Int.emod_one]
 | k+1,h=>by
  show dval (fun r _=>dig P r) n k*4294967296+dig P (n - 1 - k)=_
  rw [zk5 n k (by omega),zcD,show n - (k+1)=n - 1 - k by omega,show n - k=n - 1 - k+1 by omega]
  show sh P (n - 1 - k) / 4294967296 % 4294967296 ^ k*4294967296+sh P (n - 1 - k) % 4294967296=_
  generalize sh P (n - 1 - k)=N
  have hp:(0:Int)<4294967296 ^ k:=Int.pow_pos (by omega)
  rw [Int.pow_succ]
  generalize (4294967296:Int) ^ k=B at *
  rw [Int.mul_comm B 4294967296,Int.emod_def N (4294967296*B),← Int.ediv_ediv_of_nonneg (by omega),Int.emod_def (N / 4294967296) B]
  have:N=4294967296*(N / 4294967296)+N % 4294967296:=by omega
  generalize N / 4294967296=q at *
  generalize hm:B*(q / B)=m
  rw [Int.mul_assoc,hm]
  omega
theorem zen {P:Int} {n:Nat} (h0:0≤P) (h1:P<4294967296 ^ n):dval (fun r _=>dig P r) n n=P:=by
 rw [zk5 n n (Nat.le_refl _),Nat.sub_self]
 exact Int.emod_eq_of_lt h0 h1
theorem zdQ {f g:Nat→Nat→Int} {n:Nat} (h:∀ r,r<n→f r 0=g r 0):∀ k,k≤n→dval f n k=dval g n k
 | 0,_=>rfl
 | k+1,hk=>by
  show dval f n k*4294967296+f (n - 1 - k) 0=dval g n k*4294967296+g (n - 1 - k) 0
  rw [zdQ h k (by omega),h (n - 1 - k) (by omega)]
theorem zeY (n:Int):∀ j,j<8→limbs8 n j=dig n j
 | 0,_ | 1,_ | 2,_ | 3,_ | 4,_ | 5,_ | 6,_ | 7,_=>rfl
 | _+8,h=>by omega
end Go.AM
namespace Go.AM
open Go
theorem zp8 (x1 y1 x2 y2 x3 y3 d:FF):((x1*y2+x2*y1)*(1 - (d*x1*x2*y1*y2))*y3+x3*(y1*y2+x1*x2)*(1+(d*x1*x2*y1*y2)))*(1 - (d*x3*x2*y3*y2)*(d*x3*x2*y3*y2)+d*x1*y1*(x3*y2+x2*y3)*(y3*y2+x3*x2)) - ((x3*y2+x2*y3)*(1 - (d*x3*x2*y3*y2))*y1+x1*(y3*y2+x3*x2)*(1+(d*x3*x2*y3*y2)))*(1 - (d*x1*x2*y1*y2)*(d*x1*x2*y1*y2)+d*x3*y3*(x1*y2+x2*y1)*(y1*y2+x1*x2))=(y1*x2*y2*y2*y2*y2*x3*x3*y3*d+y1*x2*x2*y2*y2*y2*x3*d+y1*x2*x2*y2*y2*y2*x3*x3*x3*d+y1*x2*x2*x2*y2*y2*y3*d - y1*x2*x2*x2*y2*y2*y3*y3*y3*d - y1*x2*x2*x2*y2*y2*y2*y2*x3*x3*y3*d*d - y1*x2*x2*x2*x2*y2*x3*y3*y3*d - y1*x2*x2*x2*x2*y2*y2*y2*x3*y3*y3*d*d - x1*x2*y2*y2*y2*y2*x3*y3*y3*d+x1*x2*x2*y2*y2*y2*y3*d - x1*x2*x2*y2*y2*y2*y3*y3*y3*d+x1*x2*x2*x2*y2*y2*x3*d+x1*x2*x2*x2*y2*y2*x3*x3*x3*d+x1*x2*x2*x2*y2*y2*y2*y2*x3*y3*y3*d*d+x1*x2*x2*x2*x2*y2*x3*x3*y3*d+x1*x2*x2*x2*x2*y2*y2*y2*x3*x3*y3*d*d)*(d*x1*x1*y1*y1 - (y1*y1 - x1*x1 - 1))+(0 - y1*y2*x3+y1*y2*x3*y3*y3 - y1*y2*x3*x3*x3 - y1*y2*x3*x3*x3*y3*y3*d - y1*x2*y3+y1*x2*y3*y3*y3 - y1*x2*x3*x3*y3 - y1*x2*x3*x3*y3*y3*y3*d+y1*x2*y2*y2*x3*x3*y3*d+y1*x2*x2*y2*x3*y3*y3*d+y1*y1*y1*y2*x3 - y1*y1*y1*y2*x3*y3*y3+y1*y1*y1*y2*x3*x3*x3+y1*y1*y1*y2*x3*x3*x3*y3*y3*d+y1*y1*y1*x2*y3 - y1*y1*y1*x2*y3*y3*y3+y1*y1*y1*x2*x3*x3*y3+y1*y1*y1*x2*x3*x3*y3*y3*y3*d - y1*y1*y1*x2*y2*y2*x3*x3*y3*d - y1*y1*y1*x2*x2*y2*x3*y3*y3*d - x1*y2*y3+x1*y2*y3*y3*y3 - x1*y2*x3*x3*y3 - x1*y2*x3*x3*y3*y3*y3*d - x1*x2*x3+x1*x2*x3*y3*y3 - x1*x2*x3*x3*x3 - x1*x2*x3*x3*x3*y3*y3*d - x1*x2*y2*y2*x3*y3*y3*d - x1*x2*x2*y2*x3*x3*y3*d+x1*y1*y1*x2*y2*y2*x3*y3*y3*d - x1*y1*y1*x2*y2*y2*x3*x3*x3*y3*y3*d*d+x1*y1*y1*x2*x2*y2*x3*x3*y3*d+x1*y1*y1*x2*x2*y2*x3*x3*y3*y3*y3*d*d+x1*x1*y1*x2*y2*y2*x3*x3*y3*d+x1*x1*y1*x2*y2*y2*x3*x3*y3*y3*y3*d*d+x1*x1*y1*x2*x2*y2*x3*y3*y3*d - x1*x1*y1*x2*x2*y2*x3*x3*x3*y3*y3*d*d - x1*x1*x1*y2*y3+x1*x1*x1*y2*y3*y3*y3 - x1*x1*x1*y2*x3*x3*y3 - x1*x1*x1*y2*x3*x3*y3*y3*y3*d - x1*x1*x1*x2*x3+x1*x1*x1*x2*x3*y3*y3 - x1*x1*x1*x2*x3*x3*x3 - x1*x1*x1*x2*x3*x3*x3*y3*y3*d - x1*x1*x1*x2*y2*y2*x3*y3*y3*d - x1*x1*x1*x2*x2*y2*x3*x3*y3*d)*(d*x2*x2*y2*y2 - (y2*y2 - x2*x2 - 1))+(y1*y2*x3 - y1*y2*y2*y2*x3+y1*x2*y3 - y1*x2*y2*y2*y3+y1*x2*x2*y2*x3+y1*x2*x2*x2*y3 - y1*y1*y1*y2*x3+y1*y1*y1*y2*y2*y2*x3 - y1*y1*y1*x2*y3+y1*y1*y1*x2*y2*y2*y3 - y1*y1*y1*x2*x2*y2*x3 - y1*y1*y1*x2*x2*x2*y3+x1*y2*y3 - x1*y2*y2*y2*y3+x1*x2*x3 - x1*x2*y2*y2*x3+x1*x2*x2*y2*y3+x1*x2*x2*x2*x3+x1*y1*y1*x2*y2*y2*x3*d - x1*y1*y1*x2*x2*y2*y3*d+x1*y1*y1*x2*x2*y2*y2*y2*y3*d+x1*y1*y1*x2*x2*x2*y2*y2*x3*d - x1*x1*y1*x2*y2*y2*y3*d+x1*x1*y1*x2*x2*y2*x3*d - x1*x1*y1*x2*x2*y2*y2*y2*x3*d - x1*x1*y1*x2*x2*x2*y2*y2*y3*d+x1*x1*x1*y2*y3 - x1*x1*x1*y2*y2*y2*y3+x1*x1*x1*x2*x3 - x1*x1*x1*x2*y2*y2*x3+x1*x1*x1*x2*x2*y2*y3+x1*x1*x1*x2*x2*x2*x3)*(d*x3*x3*y3*y3 - (y3*y3 - x3*x3 - 1)):=by grind
theorem zvr {x1 y1 x2 y2 x3 y3 d:FF} (c1:y1*y1 - x1*x1=1+d*(x1*x1)*(y1*y1)) (c2:y2*y2 - x2*x2=1+d*(x2*x2)*(y2*y2)) (c3:y3*y3 - x3*x3=1+d*(x3*x3)*(y3*y3)) :
  ((x1*y2+x2*y1)*(1 - (d*x1*x2*y1*y2))*y3+x3*(y1*y2+x1*x2)*(1+(d*x1*x2*y1*y2)))*(1 - (d*x3*x2*y3*y2)*(d*x3*x2*y3*y2)+d*x1*y1*(x3*y2+x2*y3)*(y3*y2+x3*x2))=((x3*y2+x2*y3)*(1 - (d*x3*x2*y3*y2))*y1+x1*(y3*y2+x3*x2)*(1+(d*x3*x2*y3*y2)))*(1 - (d*x1*x2*y1*y2)*(d*x1*x2*y1*y2)+d*x3*y3*(x1*y2+x2*y1)*(y1*y2+x1*x2)):=by
 have h:=zp8 x1 y1 x2 y2 x3 y3 d
 have z1:(d*x1*x1*y1*y1 - (y1*y1 - x1*x1 - 1))=0:=by grind
 have z2:(d*x2*x2*y2*y2 - (y2*y2 - x2*x2 - 1))=0:=by grind
 have z3:(d*x3*x3*y3*y3 - (y3*y3 - x3*x3 - 1))=0:=by grind
 rw [z1,z2,z3] at h
 grind
theorem zqn (x1 y1 x2 y2 x3 y3 d:FF):((y1*y2+x1*x2)*(1+(d*x1*x2*y1*y2))*y3+(x1*y2+x2*y1)*(1 - (d*x1*x2*y1*y2))*x3)*(1 - (d*x3*x2*y3*y2)*(d*x3*x2*y3*y2) - d*x1*y1*(x3*y2+x2*y3)*(y3*y2+x3*x2)) - ((y3*y2+x3*x2)*(1+(d*x3*x2*y3*y2))*y1+(x3*y2+x2*y3)*(1 - (d*x3*x2*y3*y2))*x1)*(1 - (d*x1*x2*y1*y2)*(d*x1*x2*y1*y2) - d*x3*y3*(x1*y2+x2*y1)*(y1*y2+x1*x2))=(0 - y1*x2*y2*y2*y2*y2*x3*y3*y3*d+y1*x2*x2*y2*y2*y2*y3*d - y1*x2*x2*y2*y2*y2*y3*y3*y3*d+y1*x2*x2*x2*y2*y2*x3*d+y1*x2*x2*x2*y2*y2*x3*x3*x3*d+y1*x2*x2*x2*y2*y2*y2*y2*x3*y3*y3*d*d+y1*x2*x2*x2*x2*y2*x3*x3*y3*d+y1*x2*x2*x2*x2*y2*y2*y2*x3*x3*y3*d*d+x1*x2*y2*y2*y2*y2*x3*x3*y3*d+x1*x2*x2*y2*y2*y2*x3*d+x1*x2*x2*y2*y2*y2*x3*x3*x3*d+x1*x2*x2*x2*y2*y2*y3*d - x1*x2*x2*x2*y2*y2*y3*y3*y3*d - x1*x2*x2*x2*y2*y2*y2*y2*x3*x3*y3*d*d - x1*x2*x2*x2*x2*y2*x3*y3*y3*d - x1*x2*x2*x2*x2*y2*y2*y2*x3*y3*y3*d*d)*(d*x1*x1*y1*y1 - (y1*y1 - x1*x1 - 1))+(0 - y1*y2*y3+y1*y2*y3*y3*y3 - y1*y2*x3*x3*y3 - y1*y2*x3*x3*y3*y3*y3*d - y1*x2*x3+y1*x2*x3*y3*y3 - y1*x2*x3*x3*x3 - y1*x2*x3*x3*x3*y3*y3*d - y1*x2*y2*y2*x3*y3*y3*d - y1*x2*x2*y2*x3*x3*y3*d+y1*y1*y1*y2*y3 - y1*y1*y1*y2*y3*y3*y3+y1*y1*y1*y2*x3*x3*y3+y1*y1*y1*y2*x3*x3*y3*y3*y3*d+y1*y1*y1*x2*x3 - y1*y1*y1*x2*x3*y3*y3+y1*y1*y1*x2*x3*x3*x3+y1*y1*y1*x2*x3*x3*x3*y3*y3*d+y1*y1*y1*x2*y2*y2*x3*y3*y3*d+y1*y1*y1*x2*x2*y2*x3*x3*y3*d - x1*y2*x3+x1*y2*x3*y3*y3 - x1*y2*x3*x3*x3 - x1*y2*x3*x3*x3*y3*y3*d - x1*x2*y3+x1*x2*y3*y3*y3 - x1*x2*x3*x3*y3 - x1*x2*x3*x3*y3*y3*y3*d+x1*x2*y2*y2*x3*x3*y3*d+x1*x2*x2*y2*x3*y3*y3*d - x1*y1*y1*x2*y2*y2*x3*x3*y3*d - x1*y1*y1*x2*y2*y2*x3*x3*y3*y3*y3*d*d - x1*y1*y1*x2*x2*y2*x3*y3*y3*d+x1*y1*y1*x2*x2*y2*x3*x3*x3*y3*y3*d*d - x1*x1*y1*x2*y2*y2*x3*y3*y3*d+x1*x1*y1*x2*y2*y2*x3*x3*x3*y3*y3*d*d - x1*x1*y1*x2*x2*y2*x3*x3*y3*d - x1*x1*y1*x2*x2*y2*x3*x3*y3*y3*y3*d*d - x1*x1*x1*y2*x3+x1*x1*x1*y2*x3*y3*y3 - x1*x1*x1*y2*x3*x3*x3 - x1*x1*x1*y2*x3*x3*x3*y3*y3*d - x1*x1*x1*x2*y3+x1*x1*x1*x2*y3*y3*y3 - x1*x1*x1*x2*x3*x3*y3 - x1*x1*x1*x2*x3*x3*y3*y3*y3*d+x1*x1*x1*x2*y2*y2*x3*x3*y3*d+x1*x1*x1*x2*x2*y2*x3*y3*y3*d)*(d*x2*x2*y2*y2 - (y2*y2 - x2*x2 - 1))+(y1*y2*y3 - y1*y2*y2*y2*y3+y1*x2*x3 - y1*x2*y2*y2*x3+y1*x2*x2*y2*y3+y1*x2*x2*x2*x3 - y1*y1*y1*y2*y3+y1*y1*y1*y2*y2*y2*y3 - y1*y1*y1*x2*x3+y1*y1*y1*x2*y2*y2*x3 - y1*y1*y1*x2*x2*y2*y3 - y1*y1*y1*x2*x2*x2*x3+x1*y2*x3 - x1*y2*y2*y2*x3+x1*x2*y3 - x1*x2*y2*y2*y3+x1*x2*x2*y2*x3+x1*x2*x2*x2*y3+x1*y1*y1*x2*y2*y2*y3*d - x1*y1*y1*x2*x2*y2*x3*d+x1*y1*y1*x2*x2*y2*y2*y2*x3*d+x1*y1*y1*x2*x2*x2*y2*y2*y3*d - x1*x1*y1*x2*y2*y2*x3*d+x1*x1*y1*x2*x2*y2*y3*d - x1*x1*y1*x2*x2*y2*y2*y2*y3*d - x1*x1*y1*x2*x2*x2*y2*y2*x3*d+x1*x1*x1*y2*x3 - x1*x1*x1*y2*y2*y2*x3+x1*x1*x1*x2*y3 - x1*x1*x1*x2*y2*y2*y3+x1*x1*x1*x2*x2*y2*x3+x1*x1*x1*x2*x2*x2*y3)*(d*x3*x3*y3*y3 - (y3*y3 - x3*x3 - 1)):=by grind
theorem ztV {x1 y1 x2 y2 x3 y3 d:FF} (c1:y1*y1 - x1*x1=1+d*(x1*x1)*(y1*y1)) (c2:y2*y2 - x2*x2=1+d*(x2*x2)*(y2*y2)) (c3:y3*y3 - x3*x3=1+d*(x3*x3)*(y3*y3)) :
  ((y1*y2+x1*x2)*(1+(d*x1*x2*y1*y2))*y3+(x1*y2+x2*y1)*(1 - (d*x1*x2*y1*y2))*x3)*(1 - (d*x3*x2*y3*y2)*(d*x3*x2*y3*y2) - d*x1*y1*(x3*y2+x2*y3)*(y3*y2+x3*x2))=((y3*y2+x3*x2)*(1+(d*x3*x2*y3*y2))*y1+(x3*y2+x2*y3)*(1 - (d*x3*x2*y3*y2))*x1)*(1 - (d*x1*x2*y1*y2)*(d*x1*x2*y1*y2) - d*x3*y3*(x1*y2+x2*y1)*(y1*y2+x1*x2)):=by
 have h:=zqn x1 y1 x2 y2 x3 y3 d
 have z1:(d*x1*x1*y1*y1 - (y1*y1 - x1*x1 - 1))=0:=by grind
 have z2:(d*x2*x2*y2*y2 - (y2*y2 - x2*x2 - 1))=0:=by grind
 have z3:(d*x3*x3*y3*y3 - (y3*y3 - x3*x3 - 1))=0:=by grind
 rw [z1,z2,z3] at h
 grind
end Go.AM
namespace Go.AM
open Go
structure EP where
 x:FF
 y:FF
 c:y*y - x*x=1+dF*(x*x)*(y*y)
theorem EP.ext' {p q:EP} (h1:p.x=q.x) (h2:p.y=q.y):p=q:=by cases p;cases q;cases h1;cases h2;rfl
def fi (a:FF):FF:=fpow a pm2
theorem zcv {a:FF} (h:a≠0):a*fi a=1:=zjI h
theorem zoI {a b:FF} (h:a*b=1):b=fi a:=by
 have ha:a≠0:=fun e=>f01 (by rw [← h,e];grind)
 have:=zcv ha
 have e:b*(a*fi a)=(a*b)*fi a:=by grind
 rw [this,h] at e
 grind
theorem zsX:fi 1=1:=(zoI (by grind)).symm
theorem zpb {a b a' b':FF} (hb:b≠0) (hb':b'≠0) (h:a*b'=a'*b):a*fi b=a'*fi b':=by
 have h1:=zcv hb
 have h2:=zcv hb'
 generalize fi b=u at *
 generalize fi b'=u' at *
 have e1:a*u=a*u*(b'*u'):=by rw [h2];grind
 have e2:a*u*(b'*u')=(a*b')*(u*u'):=by grind
 have e3:(a'*b)*(u*u')=a'*u'*(b*u):=by grind
 rw [e1,e2,h,e3,h1]
 grind
theorem den_p (p q:EP):1+dF*p.x*q.x*p.y*q.y≠0:=fun h=>complete p.c q.c (e:=-1) (by grind) (by
 generalize dF*p.x*q.x*p.y*q.y=e at *
 grind)
theorem den_m (p q:EP):1 - dF*p.x*q.x*p.y*q.y≠0:=fun h=>complete p.c q.c (e:=1) (by grind) (by
 generalize dF*p.x*q.x*p.y*q.y=e at *
 grind)
theorem OnF.of (p:EP):OnF p.x p.y 1 (p.x*p.y):=⟨by
 have:=p.c
 generalize p.x=x at *
 generalize p.y=y at *
 generalize dF=d at *
 grind,by grind,f01⟩
theorem zuv {N M F G f g d:FF} (c:(G*M)*(G*M) - (N*F)*(N*F)=(F*G)*(F*G)+d*((N*M)*(N*M))) (hf:F*f=1) (hg:G*g=1) :
  (M*f)*(M*f) - (N*g)*(N*g)=1+d*((N*g)*(N*g))*((M*f)*(M*f)):=by
 have e1:((G*M)*(G*M) - (N*F)*(N*F))*((f*g)*(f*g))=((G*g)*(G*g))*((M*f)*(M*f)) - ((F*f)*(F*f))*((N*g)*(N*g)):=by grind
 have e2:((F*G)*(F*G)+d*((N*M)*(N*M)))*((f*g)*(f*g))=((F*f)*(F*f))*((G*g)*(G*g))+d*((N*g)*(N*g))*((M*f)*(M*f)):=by grind
 rw [c,e2,hf,hg] at e1
 grind
def EP.add (p q:EP):EP:=⟨(p.x*q.y+q.x*p.y)*fi (1+dF*p.x*q.x*p.y*q.y),(p.y*q.y+p.x*q.x)*fi (1 - dF*p.x*q.x*p.y*q.y),by
 have on:=znS (OnF.of p) (OnF.of q) (E:=p.x*q.y+q.x*p.y) (F:=1 - dF*p.x*q.x*p.y*q.y) (G:=1+dF*p.x*q.x*p.y*q.y) (H:=p.y*q.y+p.x*q.x) rfl (by generalize dF=d;grind) (by generalize dF=d;grind) rfl
 exact zuv on.c (zcv (den_m p q)) (zcv (den_p p q))⟩
def EP.zero:EP:=⟨0,1,by grind⟩
def EP.neg (p:EP):EP:=⟨0 - p.x,p.y,by have:=p.c;generalize dF=d at *;grind⟩
theorem EP.add_comm (p q:EP):p.add q=q.add p:=by
 refine EP.ext' ?_ ?_
 ·show (p.x*q.y+q.x*p.y)*fi (1+dF*p.x*q.x*p.y*q.y)=(q.x*p.y+p.x*q.y)*fi (1+dF*q.x*p.x*q.y*p.y)
  rw [show dF*q.x*p.x*q.y*p.y=dF*p.x*q.x*p.y*q.y by generalize dF=d;grind]
  grind
 ·show (p.y*q.y+p.x*q.x)*fi (1 - dF*p.x*q.x*p.y*q.y)=(q.y*p.y+q.x*p.x)*fi (1 - dF*q.x*p.x*q.y*p.y)
  rw [show dF*q.x*p.x*q.y*p.y=dF*p.x*q.x*p.y*q.y by generalize dF=d;grind]
  grind
theorem EP.add_zero (p:EP):p.add EP.zero=p:=by
 have e:dF*p.x*0*p.y*1=0:=by grind
 refine EP.ext' ?_ ?_
 ·show (p.x*1+0*p.y)*fi (1+dF*p.x*0*p.y*1)=p.x
  rw [e,show (1:FF)+0=1 by decide,zsX]
  generalize p.x=x
  generalize p.y=y
  grind
 ·show (p.y*1+p.x*0)*fi (1 - dF*p.x*0*p.y*1)=p.y
  rw [e,show (1:FF) - 0=1 by decide,zsX]
  generalize p.x=x
  generalize p.y=y
  grind
theorem EP.zero_add (p:EP):EP.zero.add p=p:=by rw [EP.add_comm,EP.add_zero]
theorem EP.add_neg (p:EP):p.add p.neg=EP.zero:=by
 have hd:=den_m p p.neg
 refine EP.ext' ?_ ?_
 ·show (p.x*p.y+(0 - p.x)*p.y)*fi (1+dF*p.x*(0 - p.x)*p.y*p.y)=0
  rw [show p.x*p.y+(0 - p.x)*p.y=0 by grind]
  grind
 ·show (p.y*p.y+p.x*(0 - p.x))*fi (1 - dF*p.x*(0 - p.x)*p.y*p.y)=1
  have hd:1 - dF*p.x*(0 - p.x)*p.y*p.y≠0:=hd
  have hc:=p.c
  have e:p.y*p.y+p.x*(0 - p.x)=1 - dF*p.x*(0 - p.x)*p.y*p.y:=by
   generalize dF=d at *
   grind
  rw [e]
  exact zcv hd
theorem tri_i {N M e f g d x3 y3:FF} (hG:(1+e)*g=1) (hF:(1 - e)*f=1) :
  (N*g*y3+x3*(M*f))*(1 - e*e)=N*(1 - e)*y3+x3*M*(1+e)∧(M*f*y3+N*g*x3)*(1 - e*e)=M*(1+e)*y3+N*(1 - e)*x3 ∧
  (1+d*(N*g)*x3*(M*f)*y3)*(1 - e*e)=1 - e*e+d*x3*y3*N*M∧(1 - d*(N*g)*x3*(M*f)*y3)*(1 - e*e)=1 - e*e - d*x3*y3*N*M:=by
 have k:(1 - e*e)=(1+e)*(1 - e):=by grind
 rw [k]
 generalize 1+e=G at *
 generalize 1 - e=F at *
 refine ⟨?_,?_,?_,?_⟩
 ·have:(N*g*y3+x3*(M*f))*(G*F)=N*F*y3*(G*g)+x3*M*G*(F*f):=by grind
  rw [this,hG,hF];grind
 ·have:(M*f*y3+N*g*x3)*(G*F)=M*G*y3*(F*f)+N*F*x3*(G*g):=by grind
  rw [this,hG,hF];grind
 ·have:(1+d*(N*g)*x3*(M*f)*y3)*(G*F)=G*F+d*x3*y3*N*M*((G*g)*(F*f)):=by grind
  rw [this,hG,hF];grind
 ·have:(1 - d*(N*g)*x3*(M*f)*y3)*(G*F)=G*F - d*x3*y3*N*M*((G*g)*(F*f)):=by grind
  rw [this,hG,hF];grind
theorem frac {n m D A B:FF} (hm:m≠0) (hD:D≠0) (h1:n*D=A) (h2:m*D=B):B≠0∧n*fi m=A*fi B:=by
 have hB:B≠0:=by rw [← h2];exact zeg hm hD
 exact ⟨hB,zpb hm hB (by rw [← h1,← h2];grind)⟩
theorem tri (p q r:EP):∃ b g,b≠0∧g≠0 ∧
  b=1 - (dF*p.x*q.x*p.y*q.y)*(dF*p.x*q.x*p.y*q.y)+dF*r.x*r.y*(p.x*q.y+q.x*p.y)*(p.y*q.y+p.x*q.x) ∧
  g=1 - (dF*p.x*q.x*p.y*q.y)*(dF*p.x*q.x*p.y*q.y) - dF*r.x*r.y*(p.x*q.y+q.x*p.y)*(p.y*q.y+p.x*q.x) ∧
  ((p.add q).add r).x=((p.x*q.y+q.x*p.y)*(1 - dF*p.x*q.x*p.y*q.y)*r.y+r.x*(p.y*q.y+p.x*q.x)*(1+dF*p.x*q.x*p.y*q.y))*fi b ∧
  ((p.add q).add r).y=((p.y*q.y+p.x*q.x)*(1+dF*p.x*q.x*p.y*q.y)*r.y+(p.x*q.y+q.x*p.y)*(1 - dF*p.x*q.x*p.y*q.y)*r.x)*fi g:=by
 have hD:1 - (dF*p.x*q.x*p.y*q.y)*(dF*p.x*q.x*p.y*q.y)≠0:=by
  have k:1 - (dF*p.x*q.x*p.y*q.y)*(dF*p.x*q.x*p.y*q.y)=(1+dF*p.x*q.x*p.y*q.y)*(1 - dF*p.x*q.x*p.y*q.y):=by
   generalize dF*p.x*q.x*p.y*q.y=e
   grind
  rw [k]
  exact zeg (den_p p q) (den_m p q)
 obtain ⟨t1,t2,t3,t4⟩:=tri_i (N:=p.x*q.y+q.x*p.y) (M:=p.y*q.y+p.x*q.x) (d:=dF) (x3:=r.x) (y3:=r.y) (zcv (den_p p q)) (zcv (den_m p q))
 obtain ⟨b1,b2⟩:=frac (den_p (p.add q) r) hD t1 t3
 obtain ⟨g1,g2⟩:=frac (den_m (p.add q) r) hD t2 t4
 exact ⟨_,_,b1,g1,rfl,rfl,b2,g2⟩
theorem EP.add_assoc (p q r:EP):(p.add q).add r=p.add (q.add r):=by
 rw [EP.add_comm p (q.add r),EP.add_comm q r]
 obtain ⟨b,g,hb,hg,eb,eg,lx,ly⟩:=tri p q r
 obtain ⟨b',g',hb',hg',eb',eg',lx',ly'⟩:=tri r q p
 refine EP.ext' ?_ ?_
 ·rw [lx,lx']
  refine zpb hb hb' ?_
  have:=zvr p.c q.c r.c
  rw [eb,eb']
  exact this
 ·rw [ly,ly']
  refine zpb hg hg' ?_
  have:=ztV p.c q.c r.c
  rw [eg,eg']
  exact this
def EP.nsm:Nat→EP→EP
 | 0,_=>EP.zero
 | n+1,p=>(EP.nsm n p).add p
theorem EP.nsm_succ (n:Nat) (p:EP):EP.nsm (n+1) p=(EP.nsm n p).add p:=rfl
theorem EP.nsm_add (p:EP) (m:Nat):∀ n,EP.nsm (m+n) p=(EP.nsm m p).add (EP.nsm n p)
 | 0=>(EP.add_zero _).symm
 | n+1=>by rw [← Nat.add_assoc,EP.nsm_succ,EP.nsm_succ,EP.nsm_add p m n,EP.add_assoc]
theorem EP.nsm_zero:∀ n,EP.nsm n EP.zero=EP.zero
 | 0=>rfl
 | n+1=>by rw [EP.nsm_succ,EP.add_zero,EP.nsm_zero n]
theorem EP.nsm_one (p:EP):EP.nsm 1 p=p:=EP.zero_add p
theorem EP.nsm_mul (p:EP) (m:Nat):∀ n,EP.nsm (m*n) p=EP.nsm n (EP.nsm m p)
 | 0=>rfl
 | n+1=>by rw [Nat.mul_succ,EP.nsm_add,EP.nsm_mul p m n,EP.nsm_succ]
theorem EP.cancel {p q r:EP} (h:p.add r=q.add r):p=q:=by
 have e:=congrArg (fun t=>EP.add t r.neg) h
 simp only [EP.add_assoc,EP.add_neg,EP.add_zero] at e
 exact e
theorem EP.nsm_mod {p:EP} {L:Nat} (h:EP.nsm L p=EP.zero) (n:Nat):EP.nsm (n % L) p=EP.nsm n p:=by
 have e:EP.nsm n p=EP.nsm (L*(n / L)+n % L) p:=by rw [Nat.div_add_mod]
 rw [e,EP.nsm_add,EP.nsm_mul,h,EP.nsm_zero,EP.zero_add]
structure Is (q:Q4) (p:EP):Prop where
 on:On4 q
 x:fq q.1=p.x*fq q.2.2.1
 y:fq q.2.1=p.y*fq q.2.2.1
theorem Is.t {q:Q4} {p:EP} (h:Is q p):fq q.2.2.2=p.x*p.y*fq q.2.2.1:=by
 have ht:=h.on.on.t
 have hz:=zcv h.on.on.z
 have h1:=h.x
 have h2:=h.y
 generalize fq q.2.2.1=Z at *
 generalize fi Z=z at *
 generalize fq q.2.2.2=T at *
 generalize fq q.1=X at *
 generalize fq q.2.1=Y at *
 subst h1 h2
 have e:T=(Z*T)*z:=by
  have:(Z*T)*z=T*(Z*z):=by grind
  rw [this,hz];grind
 rw [e,← ht]
 have:p.x*Z*(p.y*Z)*z=p.x*p.y*Z*(Z*z):=by grind
 rw [this,hz];grind
theorem Is.ex {q:Q4} (h:On4 q):∃ p,Is q p:=by
 obtain ⟨z,h1,h2,h3⟩:=h.on.aff
 refine ⟨⟨fq q.1*z,fq q.2.1*z,h2⟩,h,?_,?_⟩
 ·show fq q.1=fq q.1*z*fq q.2.2.1
  have:fq q.1*z*fq q.2.2.1=fq q.1*(fq q.2.2.1*z):=by grind
  rw [this,h1];grind
 ·show fq q.2.1=fq q.2.1*z*fq q.2.2.1
  have:fq q.2.1*z*fq q.2.2.1=fq q.2.1*(fq q.2.2.1*z):=by grind
  rw [this,h1];grind
theorem zf9 {a b c:FF} (hc:c≠0) (h:a*c=b*c):a=b:=by
 have e:=zcv hc
 have e1:a*(c*fi c)=(a*c)*fi c:=by grind
 have e2:(b*c)*fi c=b*(c*fi c):=by grind
 rw [h,e2,e] at e1
 grind
theorem Is.unique {q:Q4} {p p':EP} (h:Is q p) (h':Is q p'):p=p' :=
 EP.ext' (zf9 h.on.on.z (by rw [← h.x,← h'.x])) (zf9 h.on.on.z (by rw [← h.y,← h'.y]))
theorem is_id:Is idS4 EP.zero:=⟨id_on,by decide,by decide⟩
theorem zq2 {x1 y1 Z1 x2 y2 Z2 d G F g f:FF} (hG:G=1+d*x1*x2*y1*y2) (hF:F=1 - d*x1*x2*y1*y2) (hg:G*g=1) (hf:F*f=1) :
  ((x1*Z1)*(y2*Z2)+(x2*Z2)*(y1*Z1))*(Z1*Z2 - d*(x1*y1*Z1)*(x2*y2*Z2))=(x1*y2+x2*y1)*g*((Z1*Z2 - d*(x1*y1*Z1)*(x2*y2*Z2))*(Z1*Z2+d*(x1*y1*Z1)*(x2*y2*Z2))) ∧
  (Z1*Z2+d*(x1*y1*Z1)*(x2*y2*Z2))*((y1*Z1)*(y2*Z2)+(x1*Z1)*(x2*Z2))=(y1*y2+x1*x2)*f*((Z1*Z2 - d*(x1*y1*Z1)*(x2*y2*Z2))*(Z1*Z2+d*(x1*y1*Z1)*(x2*y2*Z2))):=by
 have e1:Z1*Z2 - d*(x1*y1*Z1)*(x2*y2*Z2)=Z1*Z2*F:=by rw [hF];grind
 have e2:Z1*Z2+d*(x1*y1*Z1)*(x2*y2*Z2)=Z1*Z2*G:=by rw [hG];grind
 rw [e1,e2]
 clear e1 e2 hG hF
 refine ⟨?_,?_⟩
 ·have:(x1*y2+x2*y1)*g*(Z1*Z2*F*(Z1*Z2*G))=(x1*y2+x2*y1)*(Z1*Z2*F*(Z1*Z2))*(G*g):=by grind
  rw [this,hg];grind
 ·have:(y1*y2+x1*x2)*f*(Z1*Z2*F*(Z1*Z2*G))=(y1*y2+x1*x2)*(Z1*Z2*G*(Z1*Z2))*(F*f):=by grind
  rw [this,hf];grind
theorem zlb {q q':Q4} {p p':EP} (h:Is q p) (h':Is q' p'):Is (addS q q') (p.add p'):=by
 obtain ⟨i1,i2⟩:=zq2 (x1:=p.x) (y1:=p.y) (Z1:=fq q.2.2.1) (x2:=p'.x) (y2:=p'.y) (Z2:=fq q'.2.2.1) (d:=dF) rfl rfl (zcv (den_p p p')) (zcv (den_m p p'))
 have hx:=h.x
 have hy:=h.y
 have ht:=h.t
 have hx':=h'.x
 have hy':=h'.y
 have ht':=h'.t
 have ax:(p.add p').x=(p.x*p'.y+p'.x*p.y)*fi (1+dF*p.x*p'.x*p.y*p'.y):=rfl
 have ay:(p.add p').y=(p.y*p'.y+p.x*p'.x)*fi (1 - dF*p.x*p'.x*p.y*p'.y):=rfl
 rw [← ax] at i1
 rw [← ay] at i2
 rw [← hx,← hy,← ht,← hx',← hy',← ht'] at i1 i2
 refine ⟨zxC h.on h'.on,?_,?_⟩
 ·unfold addS
  simp only [zaU,zbR,zcu]
  rw [show fq eD=dF from rfl,show (fq q.1+fq q.2.1)*(fq q'.1+fq q'.2.1) - fq q.1*fq q'.1 - fq q.2.1*fq q'.2.1=fq q.1*fq q'.2.1+fq q'.1*fq q.2.1 by grind]
  exact i1
 ·unfold addS
  simp only [zaU,zbR,zcu]
  rw [show fq eD=dF from rfl]
  exact i2
theorem zs2 {X Y Z x y:FF} (h1:X=x*Z) (h2:Y=y*Z):(-1)*X=x*((-1)*Z)∧(-1)*Y=y*((-1)*Z):=by subst h1 h2;constructor <;> grind
theorem zku {q:Q4} {p:EP} (h:Is q p):Is (dblS q) (p.add p):=by
 have ha:=zlb h h
 have hx:=ha.x
 have hy:=ha.y
 unfold addS at hx hy
 simp only [zaU,zbR,zcu] at hx hy
 rw [show fq eD=dF from rfl] at hx hy
 obtain ⟨e1,e2,e3,e4⟩:=zlg h.on.on
 refine ⟨zwu h.on,?_,?_⟩
 ·unfold dblS
  simp only [zaU,zbR,zcu]
  rw [e1,e3]
  refine (zs2 (Y:=0) (y:=0) ?_ (by grind)).1
  rw [← hx]
  clear hx hy e1 e2 e3 e4 ha
  generalize dF=d
  grind
 ·unfold dblS
  simp only [zaU,zbR,zcu]
  rw [e2,e3]
  refine (zs2 (X:=0) (x:=0) (by grind) ?_).2
  rw [← hy]
end Go.AM
namespace Go.AM
theorem zta:IsPr 2551:=(zao (a:=6) (L:=[2,3,5,5,17]) (zaa pr_2 (zaa pr_3 (zaa pr_5 (zaa pr_5 (zaa pr_17 (zar)))))) (by decide +kernel)).1
theorem zl0:IsPr 1224481:=(zao (a:=13) (L:=[2,2,2,2,2,3,5,2551]) (zaa pr_2 (zaa pr_2 (zaa pr_2 (zaa pr_2 (zaa pr_2 (zaa pr_3 (zaa pr_5 (zaa zta (zar))))))))) (by decide +kernel)).1
theorem pr_73:IsPr 73:=zaw (by decide +kernel)
theorem zu7:IsPr 3797:=(zao (a:=2) (L:=[2,2,13,73]) (zaa pr_2 (zaa pr_2 (zaa pr_13 (zaa pr_73 (zar))))) (by decide +kernel)).1
theorem znr:IsPr 531581:=(zao (a:=2) (L:=[2,2,5,7,3797]) (zaa pr_2 (zaa pr_2 (zaa pr_5 (zaa pr_7 (zaa zu7 (zar)))))) (by decide +kernel)).1
theorem zc9:IsPr 1257559732178653:=(zao (a:=2) (L:=[2,2,3,7,23,531581,1224481]) (zaa pr_2 (zaa pr_2 (zaa pr_3 (zaa pr_7 (zaa pr_23 (zaa znr (zaa zl0 (zar)))))))) (by decide +kernel)).1
theorem zcx:IsPr 4434155615661930479:=(zao (a:=17) (L:=[2,41,43,1257559732178653]) (zaa pr_2 (zaa pr_41 (zaa pr_43 (zaa zc9 (zar))))) (by decide +kernel)).1
theorem zvU:IsPr 2851:=(zao (a:=2) (L:=[2,3,5,5,19]) (zaa pr_2 (zaa pr_3 (zaa pr_5 (zaa pr_5 (zaa pr_19 (zar)))))) (by decide +kernel)).1
theorem zuq:IsPr 1361:=(zao (a:=3) (L:=[2,2,2,2,5,17]) (zaa pr_2 (zaa pr_2 (zaa pr_2 (zaa pr_2 (zaa pr_5 (zaa pr_17 (zar))))))) (by decide +kernel)).1
theorem zbx:IsPr 172054593956031949258510691:=(zao (a:=2) (L:=[2,5,1361,2851,4434155615661930479]) (zaa pr_2 (zaa pr_5 (zaa zuq (zaa zvU (zaa zcx (zar)))))) (by decide +kernel)).1
theorem zyz:IsPr 113:=zaw (by decide +kernel)
theorem ztq:IsPr 2939:=(zao (a:=2) (L:=[2,13,113]) (zaa pr_2 (zaa pr_13 (zaa zyz (zar)))) (by decide +kernel)).1
theorem zvH:IsPr 5879:=(zao (a:=11) (L:=[2,2939]) (zaa pr_2 (zaa ztq (zar))) (by decide +kernel)).1
theorem zxJ:IsPr 307:=zaw (by decide +kernel)
theorem ziK:IsPr 292386187:=(zao (a:=2) (L:=[2,3,3,3,3,307,5879]) (zaa pr_2 (zaa pr_3 (zaa pr_3 (zaa pr_3 (zaa pr_3 (zaa zxJ (zaa zvH (zar)))))))) (by decide +kernel)).1
theorem zfi:IsPr 213441916511:=(zao (a:=13) (L:=[2,5,73,292386187]) (zaa pr_2 (zaa pr_5 (zaa pr_73 (zaa ziK (zar))))) (by decide +kernel)).1
theorem zy8:IsPr 269:=zaw (by decide +kernel)
theorem zaX:IsPr 19757330305831588566944191468367130476339:=(zao (a:=2) (L:=[2,269,213441916511,172054593956031949258510691]) (zaa pr_2 (zaa zy8 (zaa zfi (zaa zbx (zar))))) (by decide +kernel)).1
theorem zaV:IsPr 276602624281642239937218680557139826668747:=(zao (a:=2) (L:=[2,7,19757330305831588566944191468367130476339]) (zaa pr_2 (zaa pr_7 (zaa zaX (zar)))) (by decide +kernel)).1
theorem zpG:IsPr 17231:=(zao (a:=13) (L:=[2,5,1723]) (zaa pr_2 (zaa pr_5 (zaa znJ (zar)))) (by decide +kernel)).1
theorem znq:IsPr 137849:=(zao (a:=3) (L:=[2,2,2,17231]) (zaa pr_2 (zaa pr_2 (zaa pr_2 (zaa zpG (zar))))) (by decide +kernel)).1
theorem pr_67:IsPr 67:=zaw (by decide +kernel)
theorem pr_11:IsPr 11:=zaw (by decide +kernel)
theorem zr8:IsPr 22111:=(zao (a:=6) (L:=[2,3,5,11,67]) (zaa pr_2 (zaa pr_3 (zaa pr_5 (zaa pr_11 (zaa pr_67 (zar)))))) (by decide +kernel)).1
theorem zm3:IsPr 132667:=(zao (a:=5) (L:=[2,3,22111]) (zaa pr_2 (zaa pr_3 (zaa zr8 (zar)))) (by decide +kernel)).1
theorem pr_79:IsPr 79:=zaw (by decide +kernel)
theorem zrd:IsPr 41081:=(zao (a:=3) (L:=[2,2,2,5,13,79]) (zaa pr_2 (zaa pr_2 (zaa pr_2 (zaa pr_5 (zaa pr_13 (zaa pr_79 (zar))))))) (by decide +kernel)).1
theorem zqC:IsPr 82163:=(zao (a:=2) (L:=[2,41081]) (zaa pr_2 (zaa zrd (zar))) (by decide +kernel)).1
theorem zqW:IsPr 30703:=(zao (a:=3) (L:=[2,3,7,17,43]) (zaa pr_2 (zaa pr_3 (zaa pr_7 (zaa pr_17 (zaa pr_43 (zar)))))) (by decide +kernel)).1
theorem zb5:IsPr 3044861653679985063343:=(zao (a:=5) (L:=[2,3,11,30703,82163,132667,137849]) (zaa pr_2 (zaa pr_3 (zaa pr_11 (zaa zqW (zaa zqC (zaa zm3 (zaa znq (zar)))))))) (by decide +kernel)).1
theorem zqK:IsPr 34123:=(zao (a:=2) (L:=[2,3,11,11,47]) (zaa pr_2 (zaa pr_3 (zaa pr_11 (zaa pr_11 (zaa pr_47 (zar)))))) (by decide +kernel)).1
theorem zoL:IsPr 409477:=(zao (a:=2) (L:=[2,2,3,34123]) (zaa pr_2 (zaa pr_2 (zaa pr_3 (zaa zqK (zar))))) (by decide +kernel)).1
theorem zjC:IsPr 14741173:=(zao (a:=2) (L:=[2,2,3,3,409477]) (zaa pr_2 (zaa pr_2 (zaa pr_3 (zaa pr_3 (zaa zoL (zar)))))) (by decide +kernel)).1
theorem zjL:IsPr 58964693:=(zao (a:=2) (L:=[2,2,14741173]) (zaa pr_2 (zaa pr_2 (zaa zjC (zar)))) (by decide +kernel)).1
theorem zbf:IsPr 198211423230930754013084525763697:=(zao (a:=5) (L:=[2,2,2,2,3,23,58964693,3044861653679985063343]) (zaa pr_2 (zaa pr_2 (zaa pr_2 (zaa pr_2 (zaa pr_3 (zaa pr_23 (zaa zjL (zaa zb5 (zar))))))))) (by decide +kernel)).1
theorem zyF:Full 7237005577332262213973186563042994240857116359379907606001950938285454250989 2:=zao (L:=[2,2,3,11,198211423230930754013084525763697,276602624281642239937218680557139826668747]) (zaa pr_2 (zaa pr_2 (zaa pr_3 (zaa pr_11 (zaa zbf (zaa zaV (zar))))))) (by decide +kernel)
end Go.AM
namespace Go.AM
def ffb (p:Nat→Bool):Nat→Nat→Nat
 | 0,i=>i
 | k+1,i=>bif p i then ffb p k (i+1) else i
theorem zso (p:Nat→Bool):∀ k i,i≤ffb p k i∧ffb p k i≤i+k
 | 0,i=>by simp [ffb]
 | k+1,i=>by
  unfold ffb
  cases p i with
  | true=>have:=zso p k (i+1);simp;omega
  | false=>simp
theorem zc7 {p:Nat→Bool}:∀ {k i:Nat},(∀ j,i≤j→j<i+k→p j=true)→ffb p k i=i+k
 | 0,i,_=>rfl
 | k+1,i,h=>by
  unfold ffb
  rw [h i (Nat.le_refl _) (by omega)]
  show ffb p k (i+1)=_
  rw [zc7 fun j h1 h2=>h j (by omega) (by omega)];omega
theorem zdS {p:Nat→Bool}:∀ {k i j:Nat},i≤j→j<ffb p k i→p j=true
 | 0,i,j,h,h2=>by simp only [ffb] at h2;omega
 | k+1,i,j,h,h2=>by
  unfold ffb at h2
  cases hp:p i with
  | true =>
   rw [hp] at h2
   by_cases e:i=j
   ·rw [← e];exact hp
   ·exact zdS (k:=k) (i:=i+1) (by omega) h2
  | false=>rw [hp] at h2;simp at h2;omega
theorem zsC {p:Nat→Bool}:∀ {k i:Nat},ffb p k i<i+k→p (ffb p k i)=false
 | 0,i,h=>by simp [ffb] at h
 | k+1,i,h=>by
  unfold ffb at h ⊢
  cases hp:p i with
  | true=>rw [hp] at h;exact zsC (k:=k) (i:=i+1) (by simp only [cond_true] at h;omega)
  | false=>exact hp
theorem zfq {p q:Nat→Bool}:∀ {k i:Nat},(∀ j,i≤j→j<i+k→p j=q j)→ffb p k i=ffb q k i
 | 0,_,_=>rfl
 | k+1,i,h=>by
  unfold ffb
  rw [h i (Nat.le_refl _) (by omega),zfq (k:=k) (i:=i+1) fun j h1 h2=>h j (by omega) (by omega)]
theorem scan {O σ:Type} {run:Nat→Nat→σ→Option O} {n:Nat} {p:Nat→Bool} {nx:Nat→σ→σ} {bad:Nat→σ→O} {fin:σ→O} {I:Nat→σ→Prop}
  (h0:∀ m s,I n s→run (m+1) n s=some (fin s))
  (h1:∀ m i s,i<n→p i=true→I i s→run (m+1) i s=run m (i+1) (nx i s)∧I (i+1) (nx i s))
  (h2:∀ m i s,i<n→p i=false→I i s→run (m+1) i s=some (bad i s)) :
  ∀ k i m s,i+k=n→k<m→I i s→(ffb p k i=n∧∃ z,run m i s=some (fin z)∧I n z) ∨ (ffb p k i<n∧∃ z,run m i s=some (bad (ffb p k i) z)∧I (ffb p k i) z)
 | 0,i,m,s,hk,hm,hI=>by
  obtain ⟨m,rfl⟩:∃ k,m=k+1:=⟨m - 1,by omega⟩
  obtain rfl:i=n:=by omega
  exact .inl ⟨rfl,s,h0 m s hI,hI⟩
 | k+1,i,m,s,hk,hm,hI=>by
  obtain ⟨m,rfl⟩:∃ k,m=k+1:=⟨m - 1,by omega⟩
  unfold ffb
  cases hp:p i with
  | true =>
   obtain ⟨e,hI'⟩:=h1 m i s (by omega) hp hI
   rw [e]
   exact scan h0 h1 h2 k (i+1) m _ (by omega) (by omega) hI'
  | false=>exact .inr ⟨by show i<n;omega,s,h2 m i s (by omega) hp hI,hI⟩
def RowE (n w:Nat) (D G:Nat→Nat→Int):Prop:=∀ r,r<n→∀ d,d<w→D r d=G r d
theorem ewr {k:Nat} (h:k<4611686018427387904):wr .i64 ((k:Int)+1)=((k+1:Nat):Int):=by
 rw [zbn (by omega) (by omega)];omega
end Go.AM
