/-
  Texts of the claim: DGf.
-/
import Derived.Test.YtplaklpfeabhiaaGreatAe
import Derived.Test.YtplaklpfeabhiaaGreatBa
namespace Go.Proofs.YtplaklpfeabhiaaGreat
open Go.Proofs.Tryz
open Go Go.AM
def u10 (a:Nat→Int):AV:=.agg [.ints .i64 10 a]
theorem zpF:fnChk prog (envP tt [] []) f_rimeref04_carry=true:=by kernel_rfl
theorem zqa (a:Nat→Int):outP (apFunc (envP tt [] []) [] 20 f_rimeref04_carry [u10 a] [])=some (true,u10 (lf (carG a))):=by kernel_rfl
def tCarryG:TF:=fun args=>match args with
 | [.agg [.ints .i64 10 a]]=>some (gw10 a,u10 (lf (carD a)))
 | _=>none
theorem zqY:TRow prog F_rimeref04_carry tCarryG:=by
 intro args r h
 unfold tCarryG at h
 split at h
 case h_2=>simp at h
 rename_i a
 simp only [Option.some.injEq,Prod.mk.injEq] at h
 obtain ⟨ha,rfl⟩:=h
 refine zab L0 at_rimeref04_carry zpF (N:=20) (gs:=[]) ?_
 rw [← zr3 (zdz.1 ha)]
 exact zqa a
def gx1:List (Nat × TF):=[(F_rimeref04_carry,tCarryG)]
theorem GX1:LibOK prog tt gx1 []:=L0.addT zqY
theorem zu2:fnChk prog (envP tt gx1 []) f_rimeref04_Plus=true:=by kernel_rfl
theorem zrE:fnChk prog (envP tt gx1 []) f_rimeref04_Minus=true:=by kernel_rfl
theorem zpH:fnChk prog (envP tt gx1 []) f_rimeref04_Times=true:=by kernel_rfl
theorem zvv (a b:Nat→Int):outP (apFunc (envP tt gx1 []) [] 20 f_rimeref04_Plus [u10 a,u10 b] [])=some (ckL [gw10 (lf (addRaw a b))],u10 (lf (carD (lf (addRaw a b))))):=by kernel_rfl
theorem zpT (a b:Nat→Int):outP (apFunc (envP tt gx1 []) [] 20 f_rimeref04_Minus [u10 a,u10 b] [])=some (ckL [gw10 (lf (subRaw a b))],u10 (lf (carD (lf (subRaw a b))))):=by kernel_rfl
theorem zr5 (a b:Nat→Int):outP (apFunc (envP tt gx1 []) [] 20 f_rimeref04_Times [u10 a,u10 b] [])=some (ckL [gw10 (lf (prRaw a b)),gw10 (lf (carD (lf (prRaw a b))))],u10 (lf (carD (lf (carD (lf (prRaw a b))))))):=by kernel_rfl
def tPlusG:TF:=fun args=>match args with
 | [.agg [.ints .i64 10 a],.agg [.ints .i64 10 b]]=>some (gd10 (l10 a)&&gd10 (l10 b),u10 (lf (addG (l10 a) (l10 b))))
 | _=>none
theorem zus:TRow prog F_rimeref04_Plus tPlusG:=by
 intro args r h
 unfold tPlusG at h
 split at h
 case h_2=>simp at h
 rename_i a b
 simp only [Option.some.injEq,Prod.mk.injEq] at h
 obtain ⟨hc,rfl⟩:=h
 obtain ⟨ha,hb⟩:=and_t.1 hc
 refine zab GX1 at_rimeref04_Plus zu2 (N:=20) (gs:=[]) ?_
 obtain ⟨e1,e2⟩:=zma ha hb
 have e:=zvv a b
 rw [e1,e2] at e
 exact e
def tMinusG:TF:=fun args=>match args with
 | [.agg [.ints .i64 10 a],.agg [.ints .i64 10 b]]=>some (gd10 (l10 a)&&gd10 (l10 b),u10 (lf (subG (l10 a) (l10 b))))
 | _=>none
theorem zqm:TRow prog F_rimeref04_Minus tMinusG:=by
 intro args r h
 unfold tMinusG at h
 split at h
 case h_2=>simp at h
 rename_i a b
 simp only [Option.some.injEq,Prod.mk.injEq] at h
 obtain ⟨hc,rfl⟩:=h
 obtain ⟨ha,hb⟩:=and_t.1 hc
 refine zab GX1 at_rimeref04_Minus zrE (N:=20) (gs:=[]) ?_
 obtain ⟨e1,e2⟩:=zlE ha hb
 have e:=zpT a b
 rw [e1,e2] at e
 exact e
def tTimesG:TF:=fun args=>match args with
 | [.agg [.ints .i64 10 a],.agg [.ints .i64 10 b]]=>some (gd10 (l10 a)&&gd10 (l10 b),u10 (lf (mulG (l10 a) (l10 b))))
 | _=>none
theorem zpW:TRow prog F_rimeref04_Times tTimesG:=by
 intro args r h
 unfold tTimesG at h
 split at h
 case h_2=>simp at h
 rename_i a b
 simp only [Option.some.injEq,Prod.mk.injEq] at h
 obtain ⟨hc,rfl⟩:=h
 obtain ⟨ha,hb⟩:=and_t.1 hc
 refine zab GX1 at_rimeref04_Times zpH (N:=20) (gs:=[]) ?_
 have h1:=zsF ha hb
 have h2:=gd_gw (zcA h1)
 have e:=zr5 a b
 rw [znp ha hb,zdz.2 h1,zdz.2 h2] at e
 exact e
def gx2:List (Nat × TF):=(F_rimeref04_Times,tTimesG)::(F_rimeref04_Minus,tMinusG)::(F_rimeref04_Plus,tPlusG)::gx1
theorem GX2:LibOK prog tt gx2 []:=((GX1.addT zus).addT zqm).addT zpW
end Go.Proofs.YtplaklpfeabhiaaGreat
