/-
  Texts of the claim: Fq2 Grp Grp2 Am53.
-/
import Derived.Test.YtfpkegodflloiaaGreatAd
import Derived.Test.YtfpkegodflloiaaGreatAe
namespace Go.AM
open Go
structure OnF (X Y Z T:FF):Prop where
 c:Y * Y - X * X=Z * Z+dF * (T * T)
 t:X * Y=Z * T
 z:Z ≠ 0
theorem OnF.aff {X Y Z T:FF} (h:OnF X Y Z T):∃ z,Z * z=1 ∧ (Y * z) * (Y * z) - (X * z) * (X * z)=1+dF * ((X * z) * (X * z)) * ((Y * z) * (Y * z)) ∧ T * z=(X * z) * (Y * z):=by
 obtain ⟨c,t,hz⟩:=h
 obtain ⟨z,h⟩:=inv_ex hz
 have e:T * z=(X * z) * (Y * z):=by
  have:X * Y * (z * z)=Z * T * (z * z):=by rw [t]
  grind
 refine ⟨z,h,?_,e⟩
 generalize dF=d at *
 have e1:(Y * z) * (Y * z) - (X * z) * (X * z)=(Y * Y - X * X) * (z * z):=by grind
 have e2:(Z * Z+d * (T * T)) * (z * z)=(Z * z) * (Z * z)+d * ((T * z) * (T * z)):=by grind
 rw [e1,c,e2,h,e]
 grind
theorem sum_z {X1 Y1 Z1 T1 X2 Y2 Z2 T2:FF} (h1:OnF X1 Y1 Z1 T1) (h2:OnF X2 Y2 Z2 T2) {e:FF} (he:e * e=1):Z1 * Z2 - e * (dF * T1 * T2) ≠ 0:=fun h=>by
 obtain ⟨z1,a1,b1,d1⟩:=h1.aff
 obtain ⟨z2,a2,b2,d2⟩:=h2.aff
 refine complete b1 b2 he ?_
 have k:(Z1 * Z2 - e * (dF * T1 * T2)) * (z1 * z2)=(Z1 * z1) * (Z2 * z2) - e * (dF * (T1 * z1) * (T2 * z2)):=by grind
 rw [h,a1,a2,d1,d2] at k
 clear b1 b2 h d1 d2 a1 a2 h1 h2
 generalize X1 * z1=x1 at *
 generalize X2 * z2=x2 at *
 generalize Y1 * z1=y1 at *
 generalize Y2 * z2=y2 at *
 generalize dF=d at *
 have:e * (e * (d * x1 * x2 * y1 * y2))=e:=by grind
 grind
theorem sum_on {X1 Y1 Z1 T1 X2 Y2 Z2 T2:FF} (h1:OnF X1 Y1 Z1 T1) (h2:OnF X2 Y2 Z2 T2) {E F G H:FF} (hE:E=X1 * Y2+X2 * Y1) (hF:F=Z1 * Z2 - dF * T1 * T2) (hG:G=Z1 * Z2+dF * T1 * T2) (hH:H=Y1 * Y2+X1 * X2) :
  OnF (E * F) (G * H) (F * G) (E * H):=by
 refine ⟨?_,by grind,mul_ne ?_ ?_⟩
 ·obtain ⟨c1,t1,_⟩:=h1
  obtain ⟨c2,t2,_⟩:=h2
  subst hE hF hG hH
  generalize dF=d at *
  have a1:(Y1 * Y2+X1 * X2) * (Y1 * Y2+X1 * X2) - (X1 * Y2+X2 * Y1) * (X1 * Y2+X2 * Y1)=(Y1 * Y1 - X1 * X1) * (Y2 * Y2 - X2 * X2):=by grind
  have a2:(X1 * Y2+X2 * Y1) * (X1 * Y2+X2 * Y1)=(Y1 * Y1+X1 * X1) * 0+X1 * X1 * (Y2 * Y2)+X2 * X2 * (Y1 * Y1)+2 * ((X1 * Y1) * (X2 * Y2)):=by grind
  have a3:(Y1 * Y2+X1 * X2) * (Y1 * Y2+X1 * X2)=Y1 * Y1 * (Y2 * Y2)+X1 * X1 * (X2 * X2)+2 * ((X1 * Y1) * (X2 * Y2)):=by grind
  grind
 ·have:=sum_z h1 h2 (e:=1) (by grind)
  rw [hF]
  intro q
  exact this (by rw [← q]; grind)
 ·have:=sum_z h1 h2 (e:=-1) (by grind)
  rw [hG]
  intro q
  exact this (by rw [← q]; grind)
abbrev inP (x:Int):Prop:=0 ≤ x ∧ x < pP
structure On4 (q:Q4):Prop where
 r1:inP q.1
 r2:inP q.2.1
 r3:inP q.2.2.1
 r4:inP q.2.2.2
 on:OnF (fq q.1) (fq q.2.1) (fq q.2.2.1) (fq q.2.2.2)
theorem mM_in (x y:Int):inP (mM x y):=⟨Int.emod_nonneg _ (by decide),Int.emod_lt_of_pos _ pP_pos⟩
theorem id_on:On4 idS4:=⟨by decide,by decide,by decide,by decide,by decide,by decide,by decide⟩
theorem add_on {p q:Q4} (hp:On4 p) (hq:On4 q):On4 (addS p q):=by
 refine ⟨mM_in _ _,mM_in _ _,mM_in _ _,mM_in _ _,?_⟩
 unfold addS
 simp only [fq_mul]
 refine sum_on hp.on hq.on ?_ ?_ ?_ ?_
 ·simp only [fq_sub,fq_add,fq_mul]; grind
 ·simp only [fq_sub,fq_mul]; rfl
 ·simp only [fq_add,fq_mul]; rfl
 ·simp only [fq_add,fq_mul]
theorem neg_ne {a:FF} (h:a ≠ 0):(-1) * a ≠ 0:=mul_ne (by decide) h
theorem neg_on {X Y Z T:FF} (h:OnF X Y Z T):OnF ((-1) * X) ((-1) * Y) ((-1) * Z) ((-1) * T):=by
 obtain ⟨c,t,z⟩:=h
 refine ⟨?_,?_,neg_ne z⟩
 ·generalize dF=d at *; grind
 ·grind
theorem dbl_f {X Y Z T d:FF} (c:Y * Y - X * X=Z * Z+d * (T * T)):(Z * Z+Z * Z)+(X * X - Y * Y)=Z * Z - d * T * T ∧ X * X - Y * Y=(-1) * (Z * Z+d * T * T):=by constructor <;> grind
theorem dbl_same {X Y Z T:FF} (h:OnF X Y Z T):((X * X+Y * Y) - (X+Y) * (X+Y)) * ((Z * Z+Z * Z)+(X * X - Y * Y))=(-1) * ((X * Y+X * Y) * (Z * Z - dF * T * T)) ∧ (X * X - Y * Y) * (X * X+Y * Y)=(-1) * ((Z * Z+dF * T * T) * (Y * Y+X * X)) ∧
  ((Z * Z+Z * Z)+(X * X - Y * Y)) * (X * X - Y * Y)=(-1) * ((Z * Z - dF * T * T) * (Z * Z+dF * T * T)) ∧ ((X * X+Y * Y) - (X+Y) * (X+Y)) * (X * X+Y * Y)=(-1) * ((X * Y+X * Y) * (Y * Y+X * X)):=by
 obtain ⟨c,t,z⟩:=h
 obtain ⟨e1,e2⟩:=dbl_f c
 rw [e1,e2]
 clear e1 e2 c t z
 generalize dF=d
 refine ⟨?_,?_,?_,?_⟩ <;> grind
theorem dbl_on {p:Q4} (hp:On4 p):On4 (dblS p):=by
 refine ⟨mM_in _ _,mM_in _ _,mM_in _ _,mM_in _ _,?_⟩
 unfold dblS
 simp only [fq_mul,fq_sub,fq_add]
 obtain ⟨e1,e2,e3,e4⟩:=dbl_same hp.on
 rw [e1,e2,e3,e4]
 exact neg_on (sum_on hp.on hp.on rfl rfl rfl rfl)
theorem inv_fq {x z:Int} (hz:z=powM x 57896044618658097711785492504343953926634992332820282019728792003956564819947) (h:fq x ≠ 0):fq x * fq z=1:=by
 rw [hz,fq_pow]
 exact inv_mul h
end Go.AM
namespace Go.AM
open Go
theorem assoc_xi (x1 y1 x2 y2 x3 y3 d:FF):((x1 * y2+x2 * y1) * (1 - (d * x1 * x2 * y1 * y2)) * y3+x3 * (y1 * y2+x1 * x2) * (1+(d * x1 * x2 * y1 * y2))) * (1 - (d * x3 * x2 * y3 * y2) * (d * x3 * x2 * y3 * y2)+d * x1 * y1 * (x3 * y2+x2 * y3) * (y3 * y2+x3 * x2)) - ((x3 * y2+x2 * y3) * (1 - (d * x3 * x2 * y3 * y2)) * y1+x1 * (y3 * y2+x3 * x2) * (1+(d * x3 * x2 * y3 * y2))) * (1 - (d * x1 * x2 * y1 * y2) * (d * x1 * x2 * y1 * y2)+d * x3 * y3 * (x1 * y2+x2 * y1) * (y1 * y2+x1 * x2))=(y1 * x2 * y2 * y2 * y2 * y2 * x3 * x3 * y3 * d+y1 * x2 * x2 * y2 * y2 * y2 * x3 * d+y1 * x2 * x2 * y2 * y2 * y2 * x3 * x3 * x3 * d+y1 * x2 * x2 * x2 * y2 * y2 * y3 * d - y1 * x2 * x2 * x2 * y2 * y2 * y3 * y3 * y3 * d - y1 * x2 * x2 * x2 * y2 * y2 * y2 * y2 * x3 * x3 * y3 * d * d - y1 * x2 * x2 * x2 * x2 * y2 * x3 * y3 * y3 * d - y1 * x2 * x2 * x2 * x2 * y2 * y2 * y2 * x3 * y3 * y3 * d * d - x1 * x2 * y2 * y2 * y2 * y2 * x3 * y3 * y3 * d+x1 * x2 * x2 * y2 * y2 * y2 * y3 * d - x1 * x2 * x2 * y2 * y2 * y2 * y3 * y3 * y3 * d+x1 * x2 * x2 * x2 * y2 * y2 * x3 * d+x1 * x2 * x2 * x2 * y2 * y2 * x3 * x3 * x3 * d+x1 * x2 * x2 * x2 * y2 * y2 * y2 * y2 * x3 * y3 * y3 * d * d+x1 * x2 * x2 * x2 * x2 * y2 * x3 * x3 * y3 * d+x1 * x2 * x2 * x2 * x2 * y2 * y2 * y2 * x3 * x3 * y3 * d * d) * (d * x1 * x1 * y1 * y1 - (y1 * y1 - x1 * x1 - 1))+(0 - y1 * y2 * x3+y1 * y2 * x3 * y3 * y3 - y1 * y2 * x3 * x3 * x3 - y1 * y2 * x3 * x3 * x3 * y3 * y3 * d - y1 * x2 * y3+y1 * x2 * y3 * y3 * y3 - y1 * x2 * x3 * x3 * y3 - y1 * x2 * x3 * x3 * y3 * y3 * y3 * d+y1 * x2 * y2 * y2 * x3 * x3 * y3 * d+y1 * x2 * x2 * y2 * x3 * y3 * y3 * d+y1 * y1 * y1 * y2 * x3 - y1 * y1 * y1 * y2 * x3 * y3 * y3+y1 * y1 * y1 * y2 * x3 * x3 * x3+y1 * y1 * y1 * y2 * x3 * x3 * x3 * y3 * y3 * d+y1 * y1 * y1 * x2 * y3 - y1 * y1 * y1 * x2 * y3 * y3 * y3+y1 * y1 * y1 * x2 * x3 * x3 * y3+y1 * y1 * y1 * x2 * x3 * x3 * y3 * y3 * y3 * d - y1 * y1 * y1 * x2 * y2 * y2 * x3 * x3 * y3 * d - y1 * y1 * y1 * x2 * x2 * y2 * x3 * y3 * y3 * d - x1 * y2 * y3+x1 * y2 * y3 * y3 * y3 - x1 * y2 * x3 * x3 * y3 - x1 * y2 * x3 * x3 * y3 * y3 * y3 * d - x1 * x2 * x3+x1 * x2 * x3 * y3 * y3 - x1 * x2 * x3 * x3 * x3 - x1 * x2 * x3 * x3 * x3 * y3 * y3 * d - x1 * x2 * y2 * y2 * x3 * y3 * y3 * d - x1 * x2 * x2 * y2 * x3 * x3 * y3 * d+x1 * y1 * y1 * x2 * y2 * y2 * x3 * y3 * y3 * d - x1 * y1 * y1 * x2 * y2 * y2 * x3 * x3 * x3 * y3 * y3 * d * d+x1 * y1 * y1 * x2 * x2 * y2 * x3 * x3 * y3 * d+x1 * y1 * y1 * x2 * x2 * y2 * x3 * x3 * y3 * y3 * y3 * d * d+x1 * x1 * y1 * x2 * y2 * y2 * x3 * x3 * y3 * d+x1 * x1 * y1 * x2 * y2 * y2 * x3 * x3 * y3 * y3 * y3 * d * d+x1 * x1 * y1 * x2 * x2 * y2 * x3 * y3 * y3 * d - x1 * x1 * y1 * x2 * x2 * y2 * x3 * x3 * x3 * y3 * y3 * d * d - x1 * x1 * x1 * y2 * y3+x1 * x1 * x1 * y2 * y3 * y3 * y3 - x1 * x1 * x1 * y2 * x3 * x3 * y3 - x1 * x1 * x1 * y2 * x3 * x3 * y3 * y3 * y3 * d - x1 * x1 * x1 * x2 * x3+x1 * x1 * x1 * x2 * x3 * y3 * y3 - x1 * x1 * x1 * x2 * x3 * x3 * x3 - x1 * x1 * x1 * x2 * x3 * x3 * x3 * y3 * y3 * d - x1 * x1 * x1 * x2 * y2 * y2 * x3 * y3 * y3 * d - x1 * x1 * x1 * x2 * x2 * y2 * x3 * x3 * y3 * d) * (d * x2 * x2 * y2 * y2 - (y2 * y2 - x2 * x2 - 1))+(y1 * y2 * x3 - y1 * y2 * y2 * y2 * x3+y1 * x2 * y3 - y1 * x2 * y2 * y2 * y3+y1 * x2 * x2 * y2 * x3+y1 * x2 * x2 * x2 * y3 - y1 * y1 * y1 * y2 * x3+y1 * y1 * y1 * y2 * y2 * y2 * x3 - y1 * y1 * y1 * x2 * y3+y1 * y1 * y1 * x2 * y2 * y2 * y3 - y1 * y1 * y1 * x2 * x2 * y2 * x3 - y1 * y1 * y1 * x2 * x2 * x2 * y3+x1 * y2 * y3 - x1 * y2 * y2 * y2 * y3+x1 * x2 * x3 - x1 * x2 * y2 * y2 * x3+x1 * x2 * x2 * y2 * y3+x1 * x2 * x2 * x2 * x3+x1 * y1 * y1 * x2 * y2 * y2 * x3 * d - x1 * y1 * y1 * x2 * x2 * y2 * y3 * d+x1 * y1 * y1 * x2 * x2 * y2 * y2 * y2 * y3 * d+x1 * y1 * y1 * x2 * x2 * x2 * y2 * y2 * x3 * d - x1 * x1 * y1 * x2 * y2 * y2 * y3 * d+x1 * x1 * y1 * x2 * x2 * y2 * x3 * d - x1 * x1 * y1 * x2 * x2 * y2 * y2 * y2 * x3 * d - x1 * x1 * y1 * x2 * x2 * x2 * y2 * y2 * y3 * d+x1 * x1 * x1 * y2 * y3 - x1 * x1 * x1 * y2 * y2 * y2 * y3+x1 * x1 * x1 * x2 * x3 - x1 * x1 * x1 * x2 * y2 * y2 * x3+x1 * x1 * x1 * x2 * x2 * y2 * y3+x1 * x1 * x1 * x2 * x2 * x2 * x3) * (d * x3 * x3 * y3 * y3 - (y3 * y3 - x3 * x3 - 1)):=by grind
theorem assoc_x {x1 y1 x2 y2 x3 y3 d:FF} (c1:y1 * y1 - x1 * x1=1+d * (x1 * x1) * (y1 * y1)) (c2:y2 * y2 - x2 * x2=1+d * (x2 * x2) * (y2 * y2)) (c3:y3 * y3 - x3 * x3=1+d * (x3 * x3) * (y3 * y3)) :
  ((x1 * y2+x2 * y1) * (1 - (d * x1 * x2 * y1 * y2)) * y3+x3 * (y1 * y2+x1 * x2) * (1+(d * x1 * x2 * y1 * y2))) * (1 - (d * x3 * x2 * y3 * y2) * (d * x3 * x2 * y3 * y2)+d * x1 * y1 * (x3 * y2+x2 * y3) * (y3 * y2+x3 * x2))=((x3 * y2+x2 * y3) * (1 - (d * x3 * x2 * y3 * y2)) * y1+x1 * (y3 * y2+x3 * x2) * (1+(d * x3 * x2 * y3 * y2))) * (1 - (d * x1 * x2 * y1 * y2) * (d * x1 * x2 * y1 * y2)+d * x3 * y3 * (x1 * y2+x2 * y1) * (y1 * y2+x1 * x2)):=by
 have h:=assoc_xi x1 y1 x2 y2 x3 y3 d
 have z1:(d * x1 * x1 * y1 * y1 - (y1 * y1 - x1 * x1 - 1))=0:=by grind
 have z2:(d * x2 * x2 * y2 * y2 - (y2 * y2 - x2 * x2 - 1))=0:=by grind
 have z3:(d * x3 * x3 * y3 * y3 - (y3 * y3 - x3 * x3 - 1))=0:=by grind
 rw [z1,z2,z3] at h
 grind
theorem assoc_yi (x1 y1 x2 y2 x3 y3 d:FF):((y1 * y2+x1 * x2) * (1+(d * x1 * x2 * y1 * y2)) * y3+(x1 * y2+x2 * y1) * (1 - (d * x1 * x2 * y1 * y2)) * x3) * (1 - (d * x3 * x2 * y3 * y2) * (d * x3 * x2 * y3 * y2) - d * x1 * y1 * (x3 * y2+x2 * y3) * (y3 * y2+x3 * x2)) - ((y3 * y2+x3 * x2) * (1+(d * x3 * x2 * y3 * y2)) * y1+(x3 * y2+x2 * y3) * (1 - (d * x3 * x2 * y3 * y2)) * x1) * (1 - (d * x1 * x2 * y1 * y2) * (d * x1 * x2 * y1 * y2) - d * x3 * y3 * (x1 * y2+x2 * y1) * (y1 * y2+x1 * x2))=(0 - y1 * x2 * y2 * y2 * y2 * y2 * x3 * y3 * y3 * d+y1 * x2 * x2 * y2 * y2 * y2 * y3 * d - y1 * x2 * x2 * y2 * y2 * y2 * y3 * y3 * y3 * d+y1 * x2 * x2 * x2 * y2 * y2 * x3 * d+y1 * x2 * x2 * x2 * y2 * y2 * x3 * x3 * x3 * d+y1 * x2 * x2 * x2 * y2 * y2 * y2 * y2 * x3 * y3 * y3 * d * d+y1 * x2 * x2 * x2 * x2 * y2 * x3 * x3 * y3 * d+y1 * x2 * x2 * x2 * x2 * y2 * y2 * y2 * x3 * x3 * y3 * d * d+x1 * x2 * y2 * y2 * y2 * y2 * x3 * x3 * y3 * d+x1 * x2 * x2 * y2 * y2 * y2 * x3 * d+x1 * x2 * x2 * y2 * y2 * y2 * x3 * x3 * x3 * d+x1 * x2 * x2 * x2 * y2 * y2 * y3 * d - x1 * x2 * x2 * x2 * y2 * y2 * y3 * y3 * y3 * d - x1 * x2 * x2 * x2 * y2 * y2 * y2 * y2 * x3 * x3 * y3 * d * d - x1 * x2 * x2 * x2 * x2 * y2 * x3 * y3 * y3 * d - x1 * x2 * x2 * x2 * x2 * y2 * y2 * y2 * x3 * y3 * y3 * d * d) * (d * x1 * x1 * y1 * y1 - (y1 * y1 - x1 * x1 - 1))+(0 - y1 * y2 * y3+y1 * y2 * y3 * y3 * y3 - y1 * y2 * x3 * x3 * y3 - y1 * y2 * x3 * x3 * y3 * y3 * y3 * d - y1 * x2 * x3+y1 * x2 * x3 * y3 * y3 - y1 * x2 * x3 * x3 * x3 - y1 * x2 * x3 * x3 * x3 * y3 * y3 * d - y1 * x2 * y2 * y2 * x3 * y3 * y3 * d - y1 * x2 * x2 * y2 * x3 * x3 * y3 * d+y1 * y1 * y1 * y2 * y3 - y1 * y1 * y1 * y2 * y3 * y3 * y3+y1 * y1 * y1 * y2 * x3 * x3 * y3+y1 * y1 * y1 * y2 * x3 * x3 * y3 * y3 * y3 * d+y1 * y1 * y1 * x2 * x3 - y1 * y1 * y1 * x2 * x3 * y3 * y3+y1 * y1 * y1 * x2 * x3 * x3 * x3+y1 * y1 * y1 * x2 * x3 * x3 * x3 * y3 * y3 * d+y1 * y1 * y1 * x2 * y2 * y2 * x3 * y3 * y3 * d+y1 * y1 * y1 * x2 * x2 * y2 * x3 * x3 * y3 * d - x1 * y2 * x3+x1 * y2 * x3 * y3 * y3 - x1 * y2 * x3 * x3 * x3 - x1 * y2 * x3 * x3 * x3 * y3 * y3 * d - x1 * x2 * y3+x1 * x2 * y3 * y3 * y3 - x1 * x2 * x3 * x3 * y3 - x1 * x2 * x3 * x3 * y3 * y3 * y3 * d+x1 * x2 * y2 * y2 * x3 * x3 * y3 * d+x1 * x2 * x2 * y2 * x3 * y3 * y3 * d - x1 * y1 * y1 * x2 * y2 * y2 * x3 * x3 * y3 * d - x1 * y1 * y1 * x2 * y2 * y2 * x3 * x3 * y3 * y3 * y3 * d * d - x1 * y1 * y1 * x2 * x2 * y2 * x3 * y3 * y3 * d+x1 * y1 * y1 * x2 * x2 * y2 * x3 * x3 * x3 * y3 * y3 * d * d - x1 * x1 * y1 * x2 * y2 * y2 * x3 * y3 * y3 * d+x1 * x1 * y1 * x2 * y2 * y2 * x3 * x3 * x3 * y3 * y3 * d * d - x1 * x1 * y1 * x2 * x2 * y2 * x3 * x3 * y3 * d - x1 * x1 * y1 * x2 * x2 * y2 * x3 * x3 * y3 * y3 * y3 * d * d - x1 * x1 * x1 * y2 * x3+x1 * x1 * x1 * y2 * x3 * y3 * y3 - x1 * x1 * x1 * y2 * x3 * x3 * x3 - x1 * x1 * x1 * y2 * x3 * x3 * x3 * y3 * y3 * d - x1 * x1 * x1 * x2 * y3+x1 * x1 * x1 * x2 * y3 * y3 * y3 - x1 * x1 * x1 * x2 * x3 * x3 * y3 - x1 * x1 * x1 * x2 * x3 * x3 * y3 * y3 * y3 * d+x1 * x1 * x1 * x2 * y2 * y2 * x3 * x3 * y3 * d+x1 * x1 * x1 * x2 * x2 * y2 * x3 * y3 * y3 * d) * (d * x2 * x2 * y2 * y2 - (y2 * y2 - x2 * x2 - 1))+(y1 * y2 * y3 - y1 * y2 * y2 * y2 * y3+y1 * x2 * x3 - y1 * x2 * y2 * y2 * x3+y1 * x2 * x2 * y2 * y3+y1 * x2 * x2 * x2 * x3 - y1 * y1 * y1 * y2 * y3+y1 * y1 * y1 * y2 * y2 * y2 * y3 - y1 * y1 * y1 * x2 * x3+y1 * y1 * y1 * x2 * y2 * y2 * x3 - y1 * y1 * y1 * x2 * x2 * y2 * y3 - y1 * y1 * y1 * x2 * x2 * x2 * x3+x1 * y2 * x3 - x1 * y2 * y2 * y2 * x3+x1 * x2 * y3 - x1 * x2 * y2 * y2 * y3+x1 * x2 * x2 * y2 * x3+x1 * x2 * x2 * x2 * y3+x1 * y1 * y1 * x2 * y2 * y2 * y3 * d - x1 * y1 * y1 * x2 * x2 * y2 * x3 * d+x1 * y1 * y1 * x2 * x2 * y2 * y2 * y2 * x3 * d+x1 * y1 * y1 * x2 * x2 * x2 * y2 * y2 * y3 * d - x1 * x1 * y1 * x2 * y2 * y2 * x3 * d+x1 * x1 * y1 * x2 * x2 * y2 * y3 * d - x1 * x1 * y1 * x2 * x2 * y2 * y2 * y2 * y3 * d - x1 * x1 * y1 * x2 * x2 * x2 * y2 * y2 * x3 * d+x1 * x1 * x1 * y2 * x3 - x1 * x1 * x1 * y2 * y2 * y2 * x3+x1 * x1 * x1 * x2 * y3 - x1 * x1 * x1 * x2 * y2 * y2 * y3+x1 * x1 * x1 * x2 * x2 * y2 * x3+x1 * x1 * x1 * x2 * x2 * x2 * y3) * (d * x3 * x3 * y3 * y3 - (y3 * y3 - x3 * x3 - 1)):=by grind
theorem assoc_y {x1 y1 x2 y2 x3 y3 d:FF} (c1:y1 * y1 - x1 * x1=1+d * (x1 * x1) * (y1 * y1)) (c2:y2 * y2 - x2 * x2=1+d * (x2 * x2) * (y2 * y2)) (c3:y3 * y3 - x3 * x3=1+d * (x3 * x3) * (y3 * y3)) :
  ((y1 * y2+x1 * x2) * (1+(d * x1 * x2 * y1 * y2)) * y3+(x1 * y2+x2 * y1) * (1 - (d * x1 * x2 * y1 * y2)) * x3) * (1 - (d * x3 * x2 * y3 * y2) * (d * x3 * x2 * y3 * y2) - d * x1 * y1 * (x3 * y2+x2 * y3) * (y3 * y2+x3 * x2))=((y3 * y2+x3 * x2) * (1+(d * x3 * x2 * y3 * y2)) * y1+(x3 * y2+x2 * y3) * (1 - (d * x3 * x2 * y3 * y2)) * x1) * (1 - (d * x1 * x2 * y1 * y2) * (d * x1 * x2 * y1 * y2) - d * x3 * y3 * (x1 * y2+x2 * y1) * (y1 * y2+x1 * x2)):=by
 have h:=assoc_yi x1 y1 x2 y2 x3 y3 d
 have z1:(d * x1 * x1 * y1 * y1 - (y1 * y1 - x1 * x1 - 1))=0:=by grind
 have z2:(d * x2 * x2 * y2 * y2 - (y2 * y2 - x2 * x2 - 1))=0:=by grind
 have z3:(d * x3 * x3 * y3 * y3 - (y3 * y3 - x3 * x3 - 1))=0:=by grind
 rw [z1,z2,z3] at h
 grind
end Go.AM
namespace Go.AM
open Go
structure EP where
 x:FF
 y:FF
 c:y * y - x * x=1+dF * (x * x) * (y * y)
theorem EP.ext' {p q:EP} (h1:p.x=q.x) (h2:p.y=q.y):p=q:=by cases p; cases q; cases h1; cases h2; rfl
def fi (a:FF):FF:=fpow a pm2
theorem fi_mul {a:FF} (h:a ≠ 0):a * fi a=1:=inv_mul h
theorem fi_unique {a b:FF} (h:a * b=1):b=fi a:=by
 have ha:a ≠ 0:=fun e=>f01 (by rw [← h,e]; grind)
 have:=fi_mul ha
 have e:b * (a * fi a)=(a * b) * fi a:=by grind
 rw [this,h] at e
 grind
theorem fi_one:fi 1=1:=(fi_unique (by grind)).symm
theorem div_eq {a b a' b':FF} (hb:b ≠ 0) (hb':b' ≠ 0) (h:a * b'=a' * b):a * fi b=a' * fi b':=by
 have h1:=fi_mul hb
 have h2:=fi_mul hb'
 generalize fi b=u at *
 generalize fi b'=u' at *
 have e1:a * u=a * u * (b' * u'):=by rw [h2]; grind
 have e2:a * u * (b' * u')=(a * b') * (u * u'):=by grind
 have e3:(a' * b) * (u * u')=a' * u' * (b * u):=by grind
 rw [e1,e2,h,e3,h1]
 grind
theorem den_p (p q:EP):1+dF * p.x * q.x * p.y * q.y ≠ 0:=fun h=>complete p.c q.c (e:=-1) (by grind) (by
 generalize dF * p.x * q.x * p.y * q.y=e at *
 grind)
theorem den_m (p q:EP):1 - dF * p.x * q.x * p.y * q.y ≠ 0:=fun h=>complete p.c q.c (e:=1) (by grind) (by
 generalize dF * p.x * q.x * p.y * q.y=e at *
 grind)
theorem OnF.of (p:EP):OnF p.x p.y 1 (p.x * p.y):=⟨by
 have:=p.c
 generalize p.x=x at *
 generalize p.y=y at *
 generalize dF=d at *
 grind,by grind,f01⟩
theorem close_i {N M F G f g d:FF} (c:(G * M) * (G * M) - (N * F) * (N * F)=(F * G) * (F * G)+d * ((N * M) * (N * M))) (hf:F * f=1) (hg:G * g=1) :
  (M * f) * (M * f) - (N * g) * (N * g)=1+d * ((N * g) * (N * g)) * ((M * f) * (M * f)):=by
 have e1:((G * M) * (G * M) - (N * F) * (N * F)) * ((f * g) * (f * g))=((G * g) * (G * g)) * ((M * f) * (M * f)) - ((F * f) * (F * f)) * ((N * g) * (N * g)):=by grind
 have e2:((F * G) * (F * G)+d * ((N * M) * (N * M))) * ((f * g) * (f * g))=((F * f) * (F * f)) * ((G * g) * (G * g))+d * ((N * g) * (N * g)) * ((M * f) * (M * f)):=by grind
 rw [c,e2,hf,hg] at e1
 grind
def EP.add (p q:EP):EP:=⟨(p.x * q.y+q.x * p.y) * fi (1+dF * p.x * q.x * p.y * q.y),(p.y * q.y+p.x * q.x) * fi (1 - dF * p.x * q.x * p.y * q.y),by
 have on:=sum_on (OnF.of p) (OnF.of q) (E:=p.x * q.y+q.x * p.y) (F:=1 - dF * p.x * q.x * p.y * q.y) (G:=1+dF * p.x * q.x * p.y * q.y) (H:=p.y * q.y+p.x * q.x) rfl (by generalize dF=d; grind) (by generalize dF=d; grind) rfl
 exact close_i on.c (fi_mul (den_m p q)) (fi_mul (den_p p q))⟩
def EP.zero:EP:=⟨0,1,by grind⟩
def EP.neg (p:EP):EP:=⟨0 - p.x,p.y,by have:=p.c; generalize dF=d at *; grind⟩
theorem EP.add_comm (p q:EP):p.add q=q.add p:=by
 refine EP.ext' ?_ ?_
 ·show (p.x * q.y+q.x * p.y) * fi (1+dF * p.x * q.x * p.y * q.y)=(q.x * p.y+p.x * q.y) * fi (1+dF * q.x * p.x * q.y * p.y)
  rw [show dF * q.x * p.x * q.y * p.y=dF * p.x * q.x * p.y * q.y by generalize dF=d; grind]
  grind
 ·show (p.y * q.y+p.x * q.x) * fi (1 - dF * p.x * q.x * p.y * q.y)=(q.y * p.y+q.x * p.x) * fi (1 - dF * q.x * p.x * q.y * p.y)
  rw [show dF * q.x * p.x * q.y * p.y=dF * p.x * q.x * p.y * q.y by generalize dF=d; grind]
  grind
theorem EP.add_zero (p:EP):p.add EP.zero=p:=by
 have e:dF * p.x * 0 * p.y * 1=0:=by grind
 refine EP.ext' ?_ ?_
 ·show (p.x * 1+0 * p.y) * fi (1+dF * p.x * 0 * p.y * 1)=p.x
  rw [e,show (1:FF)+0=1 by decide,fi_one]
  generalize p.x=x
  generalize p.y=y
  grind
 ·show (p.y * 1+p.x * 0) * fi (1 - dF * p.x * 0 * p.y * 1)=p.y
  rw [e,show (1:FF) - 0=1 by decide,fi_one]
  generalize p.x=x
  generalize p.y=y
  grind
theorem EP.zero_add (p:EP):EP.zero.add p=p:=by rw [EP.add_comm,EP.add_zero]
theorem EP.add_neg (p:EP):p.add p.neg=EP.zero:=by
 have hd:=den_m p p.neg
 refine EP.ext' ?_ ?_
 ·show (p.x * p.y+(0 - p.x) * p.y) * fi (1+dF * p.x * (0 - p.x) * p.y * p.y)=0
  rw [show p.x * p.y+(0 - p.x) * p.y=0 by grind]
  grind
 ·show (p.y * p.y+p.x * (0 - p.x)) * fi (1 - dF * p.x * (0 - p.x) * p.y * p.y)=1
  have hd:1 - dF * p.x * (0 - p.x) * p.y * p.y ≠ 0:=hd
  have hc:=p.c
  have e:p.y * p.y+p.x * (0 - p.x)=1 - dF * p.x * (0 - p.x) * p.y * p.y:=by
   generalize dF=d at *
   grind
  rw [e]
  exact fi_mul hd
theorem tri_i {N M e f g d x3 y3:FF} (hG:(1+e) * g=1) (hF:(1 - e) * f=1) :
  (N * g * y3+x3 * (M * f)) * (1 - e * e)=N * (1 - e) * y3+x3 * M * (1+e) ∧ (M * f * y3+N * g * x3) * (1 - e * e)=M * (1+e) * y3+N * (1 - e) * x3 ∧
  (1+d * (N * g) * x3 * (M * f) * y3) * (1 - e * e)=1 - e * e+d * x3 * y3 * N * M ∧ (1 - d * (N * g) * x3 * (M * f) * y3) * (1 - e * e)=1 - e * e - d * x3 * y3 * N * M:=by
 have k:(1 - e * e)=(1+e) * (1 - e):=by grind
 rw [k]
 generalize 1+e=G at *
 generalize 1 - e=F at *
 refine ⟨?_,?_,?_,?_⟩
 ·have:(N * g * y3+x3 * (M * f)) * (G * F)=N * F * y3 * (G * g)+x3 * M * G * (F * f):=by grind
  rw [this,hG,hF]; grind
 ·have:(M * f * y3+N * g * x3) * (G * F)=M * G * y3 * (F * f)+N * F * x3 * (G * g):=by grind
  rw [this,hG,hF]; grind
 ·have:(1+d * (N * g) * x3 * (M * f) * y3) * (G * F)=G * F+d * x3 * y3 * N * M * ((G * g) * (F * f)):=by grind
  rw [this,hG,hF]; grind
 ·have:(1 - d * (N * g) * x3 * (M * f) * y3) * (G * F)=G * F - d * x3 * y3 * N * M * ((G * g) * (F * f)):=by grind
  rw [this,hG,hF]; grind
theorem frac {n m D A B:FF} (hm:m ≠ 0) (hD:D ≠ 0) (h1:n * D=A) (h2:m * D=B):B ≠ 0 ∧ n * fi m=A * fi B:=by
 have hB:B ≠ 0:=by rw [← h2]; exact mul_ne hm hD
 exact ⟨hB,div_eq hm hB (by rw [← h1,← h2]; grind)⟩
theorem tri (p q r:EP):∃ b g,b ≠ 0 ∧ g ≠ 0 ∧
  b=1 - (dF * p.x * q.x * p.y * q.y) * (dF * p.x * q.x * p.y * q.y)+dF * r.x * r.y * (p.x * q.y+q.x * p.y) * (p.y * q.y+p.x * q.x) ∧
  g=1 - (dF * p.x * q.x * p.y * q.y) * (dF * p.x * q.x * p.y * q.y) - dF * r.x * r.y * (p.x * q.y+q.x * p.y) * (p.y * q.y+p.x * q.x) ∧
  ((p.add q).add r).x=((p.x * q.y+q.x * p.y) * (1 - dF * p.x * q.x * p.y * q.y) * r.y+r.x * (p.y * q.y+p.x * q.x) * (1+dF * p.x * q.x * p.y * q.y)) * fi b ∧
  ((p.add q).add r).y=((p.y * q.y+p.x * q.x) * (1+dF * p.x * q.x * p.y * q.y) * r.y+(p.x * q.y+q.x * p.y) * (1 - dF * p.x * q.x * p.y * q.y) * r.x) * fi g:=by
 have hD:1 - (dF * p.x * q.x * p.y * q.y) * (dF * p.x * q.x * p.y * q.y) ≠ 0:=by
  have k:1 - (dF * p.x * q.x * p.y * q.y) * (dF * p.x * q.x * p.y * q.y)=(1+dF * p.x * q.x * p.y * q.y) * (1 - dF * p.x * q.x * p.y * q.y):=by
   generalize dF * p.x * q.x * p.y * q.y=e
   grind
  rw [k]
  exact mul_ne (den_p p q) (den_m p q)
 obtain ⟨t1,t2,t3,t4⟩:=tri_i (N:=p.x * q.y+q.x * p.y) (M:=p.y * q.y+p.x * q.x) (d:=dF) (x3:=r.x) (y3:=r.y) (fi_mul (den_p p q)) (fi_mul (den_m p q))
 obtain ⟨b1,b2⟩:=frac (den_p (p.add q) r) hD t1 t3
 obtain ⟨g1,g2⟩:=frac (den_m (p.add q) r) hD t2 t4
 exact ⟨_,_,b1,g1,rfl,rfl,b2,g2⟩
theorem EP.add_assoc (p q r:EP):(p.add q).add r=p.add (q.add r):=by
 rw [EP.add_comm p (q.add r),EP.add_comm q r]
 obtain ⟨b,g,hb,hg,eb,eg,lx,ly⟩:=tri p q r
 obtain ⟨b',g',hb',hg',eb',eg',lx',ly'⟩:=tri r q p
 refine EP.ext' ?_ ?_
 ·rw [lx,lx']
  refine div_eq hb hb' ?_
  have:=assoc_x p.c q.c r.c
  rw [eb,eb']
  exact this
 ·rw [ly,ly']
  refine div_eq hg hg' ?_
  have:=assoc_y p.c q.c r.c
  rw [eg,eg']
  exact this
def EP.nsm:Nat → EP → EP
 | 0,_=>EP.zero
 | n+1,p=>(EP.nsm n p).add p
theorem EP.nsm_succ (n:Nat) (p:EP):EP.nsm (n+1) p=(EP.nsm n p).add p:=rfl
theorem EP.nsm_add (p:EP) (m:Nat):∀ n,EP.nsm (m+n) p=(EP.nsm m p).add (EP.nsm n p)
 | 0=>(EP.add_zero _).symm
 | n+1=>by rw [← Nat.add_assoc,EP.nsm_succ,EP.nsm_succ,EP.nsm_add p m n,EP.add_assoc]
theorem EP.nsm_one (p:EP):EP.nsm 1 p=p:=EP.zero_add p
structure Is (q:Q4) (p:EP):Prop where
 on:On4 q
 x:fq q.1=p.x * fq q.2.2.1
 y:fq q.2.1=p.y * fq q.2.2.1
theorem Is.t {q:Q4} {p:EP} (h:Is q p):fq q.2.2.2=p.x * p.y * fq q.2.2.1:=by
 have ht:=h.on.on.t
 have hz:=fi_mul h.on.on.z
 have h1:=h.x
 have h2:=h.y
 generalize fq q.2.2.1=Z at *
 generalize fi Z=z at *
 generalize fq q.2.2.2=T at *
 generalize fq q.1=X at *
 generalize fq q.2.1=Y at *
 subst h1 h2
 have e:T=(Z * T) * z:=by
  have:(Z * T) * z=T * (Z * z):=by grind
  rw [this,hz]; grind
 rw [e,← ht]
 have:p.x * Z * (p.y * Z) * z=p.x * p.y * Z * (Z * z):=by grind
 rw [this,hz]; grind
theorem Is.ex {q:Q4} (h:On4 q):∃ p,Is q p:=by
 obtain ⟨z,h1,h2,h3⟩:=h.on.aff
 refine ⟨⟨fq q.1 * z,fq q.2.1 * z,h2⟩,h,?_,?_⟩
 ·show fq q.1=fq q.1 * z * fq q.2.2.1
  have:fq q.1 * z * fq q.2.2.1=fq q.1 * (fq q.2.2.1 * z):=by grind
  rw [this,h1]; grind
 ·show fq q.2.1=fq q.2.1 * z * fq q.2.2.1
  have:fq q.2.1 * z * fq q.2.2.1=fq q.2.1 * (fq q.2.2.1 * z):=by grind
  rw [this,h1]; grind
theorem mul_cancel {a b c:FF} (hc:c ≠ 0) (h:a * c=b * c):a=b:=by
 have e:=fi_mul hc
 have e1:a * (c * fi c)=(a * c) * fi c:=by grind
 have e2:(b * c) * fi c=b * (c * fi c):=by grind
 rw [h,e2,e] at e1
 grind
theorem Is.unique {q:Q4} {p p':EP} (h:Is q p) (h':Is q p'):p=p' :=
 EP.ext' (mul_cancel h.on.on.z (by rw [← h.x,← h'.x])) (mul_cancel h.on.on.z (by rw [← h.y,← h'.y]))
theorem is_id:Is idS4 EP.zero:=⟨id_on,by decide,by decide⟩
theorem is_sum_i {x1 y1 Z1 x2 y2 Z2 d G F g f:FF} (hG:G=1+d * x1 * x2 * y1 * y2) (hF:F=1 - d * x1 * x2 * y1 * y2) (hg:G * g=1) (hf:F * f=1) :
  ((x1 * Z1) * (y2 * Z2)+(x2 * Z2) * (y1 * Z1)) * (Z1 * Z2 - d * (x1 * y1 * Z1) * (x2 * y2 * Z2))=(x1 * y2+x2 * y1) * g * ((Z1 * Z2 - d * (x1 * y1 * Z1) * (x2 * y2 * Z2)) * (Z1 * Z2+d * (x1 * y1 * Z1) * (x2 * y2 * Z2))) ∧
  (Z1 * Z2+d * (x1 * y1 * Z1) * (x2 * y2 * Z2)) * ((y1 * Z1) * (y2 * Z2)+(x1 * Z1) * (x2 * Z2))=(y1 * y2+x1 * x2) * f * ((Z1 * Z2 - d * (x1 * y1 * Z1) * (x2 * y2 * Z2)) * (Z1 * Z2+d * (x1 * y1 * Z1) * (x2 * y2 * Z2))):=by
 have e1:Z1 * Z2 - d * (x1 * y1 * Z1) * (x2 * y2 * Z2)=Z1 * Z2 * F:=by rw [hF]; grind
 have e2:Z1 * Z2+d * (x1 * y1 * Z1) * (x2 * y2 * Z2)=Z1 * Z2 * G:=by rw [hG]; grind
 rw [e1,e2]
 clear e1 e2 hG hF
 refine ⟨?_,?_⟩
 ·have:(x1 * y2+x2 * y1) * g * (Z1 * Z2 * F * (Z1 * Z2 * G))=(x1 * y2+x2 * y1) * (Z1 * Z2 * F * (Z1 * Z2)) * (G * g):=by grind
  rw [this,hg]; grind
 ·have:(y1 * y2+x1 * x2) * f * (Z1 * Z2 * F * (Z1 * Z2 * G))=(y1 * y2+x1 * x2) * (Z1 * Z2 * G * (Z1 * Z2)) * (F * f):=by grind
  rw [this,hf]; grind
theorem is_add {q q':Q4} {p p':EP} (h:Is q p) (h':Is q' p'):Is (addS q q') (p.add p'):=by
 obtain ⟨i1,i2⟩:=is_sum_i (x1:=p.x) (y1:=p.y) (Z1:=fq q.2.2.1) (x2:=p'.x) (y2:=p'.y) (Z2:=fq q'.2.2.1) (d:=dF) rfl rfl (fi_mul (den_p p p')) (fi_mul (den_m p p'))
 have hx:=h.x
 have hy:=h.y
 have ht:=h.t
 have hx':=h'.x
 have hy':=h'.y
 have ht':=h'.t
 have ax:(p.add p').x=(p.x * p'.y+p'.x * p.y) * fi (1+dF * p.x * p'.x * p.y * p'.y):=rfl
 have ay:(p.add p').y=(p.y * p'.y+p.x * p'.x) * fi (1 - dF * p.x * p'.x * p.y * p'.y):=rfl
 rw [← ax] at i1
 rw [← ay] at i2
 rw [← hx,← hy,← ht,← hx',← hy',← ht'] at i1 i2
 refine ⟨add_on h.on h'.on,?_,?_⟩
 ·unfold addS
  simp only [fq_mul,fq_sub,fq_add]
  rw [show fq eD=dF from rfl,show (fq q.1+fq q.2.1) * (fq q'.1+fq q'.2.1) - fq q.1 * fq q'.1 - fq q.2.1 * fq q'.2.1=fq q.1 * fq q'.2.1+fq q'.1 * fq q.2.1 by grind]
  exact i1
 ·unfold addS
  simp only [fq_mul,fq_sub,fq_add]
  rw [show fq eD=dF from rfl]
  exact i2
theorem is_neg {X Y Z x y:FF} (h1:X=x * Z) (h2:Y=y * Z):(-1) * X=x * ((-1) * Z) ∧ (-1) * Y=y * ((-1) * Z):=by subst h1 h2; constructor <;> grind
theorem is_dbl {q:Q4} {p:EP} (h:Is q p):Is (dblS q) (p.add p):=by
 have ha:=is_add h h
 have hx:=ha.x
 have hy:=ha.y
 unfold addS at hx hy
 simp only [fq_mul,fq_sub,fq_add] at hx hy
 rw [show fq eD=dF from rfl] at hx hy
 obtain ⟨e1,e2,e3,e4⟩:=dbl_same h.on.on
 refine ⟨dbl_on h.on,?_,?_⟩
 ·unfold dblS
  simp only [fq_mul,fq_sub,fq_add]
  rw [e1,e3]
  refine (is_neg (Y:=0) (y:=0) ?_ (by grind)).1
  rw [← hx]
  clear hx hy e1 e2 e3 e4 ha
  generalize dF=d
  grind
 ·unfold dblS
  simp only [fq_mul,fq_sub,fq_add]
  rw [e2,e3]
  refine (is_neg (X:=0) (x:=0) (by grind) ?_).2
  rw [← hy]
end Go.AM
namespace Go.AM
open Go Go.RowKit Go.ChangeShapes Go.WideShapes
def TS (σ:Sg) (pr:Pr) (w:World) (s t:List Seg):Prop :=
 lenS t=lenS s ∧ ∀ c,c < lenS s → ∀ v,RS σ pr w (cellAt s c) v → RS σ pr w (cellAt t c) v
theorem TS.rfl {σ:Sg} {pr:Pr} {w:World} {s:List Seg}:TS σ pr w s s:=⟨Eq.refl _,fun _ _ _ h=>h⟩
theorem TS.trans {σ:Sg} {pr:Pr} {w:World} {s t u:List Seg} (h1:TS σ pr w s t) (h2:TS σ pr w t u):TS σ pr w s u :=
 ⟨by rw [h2.1,h1.1],fun c hc v h=>h2.2 c (by rw [h1.1]; exact hc) v (h1.2 c hc v h)⟩
theorem TS.rg {σ:Sg} {pr:Pr} {w:World} {s t:List Seg} {cs:List Value} (h:TS σ pr w s t) (hr:RG σ pr w s cs):RG σ pr w t cs :=
 ⟨by rw [hr.1,h.1],fun c v hv=>h.2 c (by rw [← hr.1]; exact (List.getElem?_eq_some_iff.1 hv).1) v (hr.2 c v hv)⟩
theorem TS.append {σ:Sg} {pr:Pr} {w:World} {s t s' t':List Seg} (h1:TS σ pr w s s') (h2:TS σ pr w t t'):TS σ pr w (s ++ t) (s' ++ t'):=by
 refine ⟨by rw [lenS_app,lenS_app,h1.1,h2.1],fun c hc v h=>?_⟩
 rw [lenS_app] at hc
 rw [cell_append s t c hc] at h
 rw [cell_append s' t' c (by rw [h1.1,h2.1]; exact hc),h1.1]
 split
 ·rename_i e; rw [if_pos e] at h; exact h1.2 c e v h
 ·rename_i e; rw [if_neg e] at h; exact h2.2 _ (by omega) v h
theorem TS.glue {σ:Sg} {pr:Pr} {w:World} {k:IntKind} {n m:Nat} {f g:Nat → Int}:TS σ pr w [.ints k n f,.ints k m g] [.ints k (n+m) (fun d=>bif Nat.ble n d then g (d - n) else f d)]:=by
 refine ⟨by simp [lenS],fun c hc v h=>?_⟩
 have hc':c < n+m:=by simpa [lenS] using hc
 rw [cellAt_ints_lt hc']
 by_cases e:c < n
 ·rw [cellAt_ints_lt e] at h
  rw [show Nat.ble n c=false from by rw [Bool.eq_false_iff]; intro q; have:=Nat.le_of_ble_eq_true q; omega]
  exact h
 ·rw [cellAt_ints_ge (by omega) (by simp [lenS]; omega),cellAt_ints_lt (by omega)] at h
  rw [Nat.ble_eq_true_of_le (show n ≤ c by omega)]
  exact h
def glue:Ds → List Ds → List Ds
 | .run k n,.run k' m :: t=>match kEq k k' with | true=>.run k (n+m) :: t | false=>.run k n :: .run k' m :: t
 | d,t=>d :: t
mutual
def nmD:Ds → Ds
 | .sl z e=>.sl z (nm e)
 | .run k n=>.run k n
 | .str=>.str
 | .bool=>.bool
def nm:List Ds → List Ds
 | []=>[]
 | d :: r=>glue (nmD d) (nm r)
end
theorem glue_spec {N:Nat} {σ:Sg} {pr:Pr} {w:World}:∀ {d:Ds} {l:List Ds} {s:List Seg},mL N (d :: l) s → ∃ t,mL N (glue d l) t ∧ TS σ pr w s t:=by
 intro d l s h
 unfold glue
 split
 ·rename_i k n k' m t
  split
  ·rename_i hk
   obtain rfl:=kEq_spec hk
   simp only [mL,mD] at h
   obtain ⟨_,_,rfl,⟨f,rfl,hf⟩,_,u,rfl,⟨g,rfl,hg⟩,hu⟩:=h
   refine ⟨.ints k (n+m) (fun d=>bif Nat.ble n d then g (d - n) else f d) :: u,?_,?_⟩
   ·simp only [mL,mD]
    refine ⟨_,_,rfl,⟨_,rfl,fun c hc=>?_⟩,hu⟩
    by_cases e:c < n
    ·rw [show Nat.ble n c=false from by rw [Bool.eq_false_iff]; intro q; have:=Nat.le_of_ble_eq_true q; omega]
     exact hf c e
    ·rw [Nat.ble_eq_true_of_le (show n ≤ c by omega)]
     exact hg (c - n) (by omega)
   ·exact (TS.glue (σ:=σ) (pr:=pr) (w:=w) (k:=k) (n:=n) (m:=m) (f:=f) (g:=g)).append (TS.rfl (s:=u))
  ·exact ⟨s,h,TS.rfl⟩
 ·exact ⟨s,h,TS.rfl⟩
mutual
theorem nmD_spec {N:Nat} {σ:Sg} {pr:Pr} {w:World}:∀ (d:Ds) (s:Seg),mD N d s → ∃ t,mD N (nmD d) t ∧ TS σ pr w [s] [t]
 | .sl z e,s,h=>by
  simp only [mD] at h
  obtain ⟨len,row,hl,rfl,hr⟩:=h
  obtain ⟨row',hrow⟩:=Go.Deep.choose_lt (α:=List Seg) (n:=len) (p:=fun j t=>mL N (nm e) t ∧ TS σ pr w (row j) t) fun j hj=>nm_spec e (row j) (hr j hj)
  refine ⟨.one (.vrows true z len row'),by simp only [nmD,mD]; exact ⟨len,row',hl,rfl,fun j hj=>(hrow j hj).1⟩,rfl,fun c hc v h=>?_⟩
  simp only [lenS] at hc
  have hc0:c=0:=by omega
  subst hc0
  rw [show cellAt [Seg.one (.vrows true z len row)] 0=.vrows true z len row from rfl] at h
  rw [show cellAt [Seg.one (.vrows true z len row')] 0=.vrows true z len row' from rfl]
  cases h with
  | vrows0=>exact .vrows0
  | vrows vs hp h1 h2 h3 h4 =>
   exact .vrows vs hp h1 (fun j hj c hc=>(hrow j hj).2.2 c (Nat.lt_of_lt_of_le hc (h3 j hj)) _ (h2 j hj c hc)) (fun j hj=>by rw [(hrow j hj).2.1]; exact h3 j hj) h4
 | .run k n,s,h=>⟨s,h,TS.rfl⟩
 | .str,s,h=>⟨s,h,TS.rfl⟩
 | .bool,s,h=>⟨s,h,TS.rfl⟩
theorem nm_spec {N:Nat} {σ:Sg} {pr:Pr} {w:World}:∀ (l:List Ds) (s:List Seg),mL N l s → ∃ t,mL N (nm l) t ∧ TS σ pr w s t
 | [],s,h=>⟨s,h,TS.rfl⟩
 | d :: r,s,h=>by
  simp only [mL] at h
  obtain ⟨a,b,rfl,h1,h2⟩:=h
  obtain ⟨a',m1,t1⟩:=nmD_spec (σ:=σ) (pr:=pr) (w:=w) d a h1
  obtain ⟨b',m2,t2⟩:=nm_spec (σ:=σ) (pr:=pr) (w:=w) r b h2
  obtain ⟨u,m3,t3⟩:=glue_spec (σ:=σ) (pr:=pr) (w:=w) (d:=nmD d) (l:=nm r) (s:=a' :: b') (by simp only [mL]; exact ⟨a',b',rfl,m1,m2⟩)
  exact ⟨u,m3,(t1.append t2).trans t3⟩
end
section
variable {H:Type} {enc:TypeId × Value → H} {P:Program}
theorem arg_flat {W:World} {N fuel:Nat} {t:TypeId} {l:List Ds} {r:Reach} {b0:Nat} {v:Value} {d:DataW H} {ps:List MemPlace} {fs:Array Field} (ht:P.underlying t=some (.struct fs)) (hty:tyB P fuel t l=true)
  (hval:Value.okWide P W r b0 t v) (h:DataW.Trod enc P W 0 (fun _=>true) true t v d ps) (hb:bk d ≤ N) :
  ∃ s,mL N (nm l) s ∧ RV noσ (prOf W) W (.agg s) v:=by
 have hv:∃ cs,v=.agg cs:=by
  simp only [Value.okWide,ht] at hval
  obtain ⟨cs,h1,_⟩:=hval
  exact ⟨cs,h1⟩
 obtain ⟨cs,rfl⟩:=hv
 obtain ⟨tf,hf⟩:=h
 have hcells:(Value.agg cs).cells.toList=cs.toList:=rfl
 rw [hcells] at hf
 obtain ⟨s,m,rg⟩:=open_ds (N:=N) fuel t l hty tf _ _ hf hb
 obtain ⟨s',m',ts⟩:=nm_spec (σ:=noσ) (pr:=prOf W) (w:=W) l s m
 exact ⟨s',m',RV.of_agg (ts.rg rg)⟩
theorem arg_bytesX {W:World} {m fuel:Nat} {t:TypeId} {l:List Ds} {r:Reach} {b0:Nat} {v:Value} {d:DataW H} {ps:List MemPlace} {fs:Array Field} (ht:P.underlying t=some (.struct fs)) (hty:tyB P fuel t l=true) (hn:nm l=[.run .u8 m])
  (hval:Value.okWide P W r b0 t v) (h:DataW.Trod enc P W 0 (fun _=>true) true t v d ps) :
  ∃ s:Nat → Int,RV noσ (prOf W) W (.agg [.ints .u8 m s]) v ∧ areB s m 0=true:=by
 obtain ⟨s,h1,h2⟩:=arg_flat (N:=bk d) ht hty hval h (Nat.le_refl _)
 rw [hn] at h1
 simp only [mL,mD] at h1
 obtain ⟨_,_,rfl,⟨f,rfl,hf⟩,rfl⟩:=h1
 exact ⟨f,h2,areB_mk fun i hi=>by rw [Nat.zero_add]; exact wf_u8 (hf i hi)⟩
end
end Go.AM
