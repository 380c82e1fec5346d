/-
  Texts of the claim: DGf.
-/
import Derived.Test.YtfpkegodflloiaaGreatAe
import Derived.Test.YtfpkegodflloiaaGreatBb
namespace Go.Proofs.YtfpkegodflloiaaGreat
open Go.Proofs.Tryz
open Go Go.AM
def u10 (a:Nat → Int):AV:=.agg [.ints .i64 10 a]
theorem c_carryG:fnChk prog (envP tt [] []) f_rimeref04_carry=true:=by kernel_rfl
theorem k_carryG (a:Nat → Int):outP (apFunc (envP tt [] []) [] 20 f_rimeref04_carry [u10 a] [])=some (true,u10 (lf (carG a))):=by kernel_rfl
def tCarryG:TF:=fun args=>match args with
 | [.agg [.ints .i64 10 a]]=>some (gw10 a,u10 (lf (carD a)))
 | _=>none
theorem r_carryG:TRow prog F_rimeref04_carry tCarryG:=by
 intro args r h
 unfold tCarryG at h
 split at h
 case h_2=>simp at h
 rename_i a
 simp only [Option.some.injEq,Prod.mk.injEq] at h
 obtain ⟨ha,rfl⟩:=h
 refine pure_of_out L0 at_rimeref04_carry c_carryG (N:=20) (gs:=[]) ?_
 rw [← carG_law (gw10_t.1 ha)]
 exact k_carryG a
def gx1:List (Nat × TF):=[(F_rimeref04_carry,tCarryG)]
theorem GX1:LibOK prog tt gx1 []:=L0.addT r_carryG
theorem c_plusG:fnChk prog (envP tt gx1 []) f_rimeref04_Plus=true:=by kernel_rfl
theorem c_minusG:fnChk prog (envP tt gx1 []) f_rimeref04_Minus=true:=by kernel_rfl
theorem c_timesG:fnChk prog (envP tt gx1 []) f_rimeref04_Times=true:=by kernel_rfl
theorem k_plusG (a b:Nat → Int):outP (apFunc (envP tt gx1 []) [] 20 f_rimeref04_Plus [u10 a,u10 b] [])=some (ckL [gw10 (lf (addRaw a b))],u10 (lf (carD (lf (addRaw a b))))):=by kernel_rfl
theorem k_minusG (a b:Nat → Int):outP (apFunc (envP tt gx1 []) [] 20 f_rimeref04_Minus [u10 a,u10 b] [])=some (ckL [gw10 (lf (subRaw a b))],u10 (lf (carD (lf (subRaw a b))))):=by kernel_rfl
theorem k_timesG (a b:Nat → Int):outP (apFunc (envP tt gx1 []) [] 20 f_rimeref04_Times [u10 a,u10 b] [])=some (ckL [gw10 (lf (prRaw a b)),gw10 (lf (carD (lf (prRaw a b))))],u10 (lf (carD (lf (carD (lf (prRaw a b))))))):=by kernel_rfl
def tPlusG:TF:=fun args=>match args with
 | [.agg [.ints .i64 10 a],.agg [.ints .i64 10 b]]=>some (gd10 (l10 a) && gd10 (l10 b),u10 (lf (addG (l10 a) (l10 b))))
 | _=>none
theorem r_plusG:TRow prog F_rimeref04_Plus tPlusG:=by
 intro args r h
 unfold tPlusG at h
 split at h
 case h_2=>simp at h
 rename_i a b
 simp only [Option.some.injEq,Prod.mk.injEq] at h
 obtain ⟨hc,rfl⟩:=h
 obtain ⟨ha,hb⟩:=and_t.1 hc
 refine pure_of_out GX1 at_rimeref04_Plus c_plusG (N:=20) (gs:=[]) ?_
 obtain ⟨e1,e2⟩:=addRaw_law ha hb
 have e:=k_plusG a b
 rw [e1,e2] at e
 exact e
def tMinusG:TF:=fun args=>match args with
 | [.agg [.ints .i64 10 a],.agg [.ints .i64 10 b]]=>some (gd10 (l10 a) && gd10 (l10 b),u10 (lf (subG (l10 a) (l10 b))))
 | _=>none
theorem r_minusG:TRow prog F_rimeref04_Minus tMinusG:=by
 intro args r h
 unfold tMinusG at h
 split at h
 case h_2=>simp at h
 rename_i a b
 simp only [Option.some.injEq,Prod.mk.injEq] at h
 obtain ⟨hc,rfl⟩:=h
 obtain ⟨ha,hb⟩:=and_t.1 hc
 refine pure_of_out GX1 at_rimeref04_Minus c_minusG (N:=20) (gs:=[]) ?_
 obtain ⟨e1,e2⟩:=subRaw_law ha hb
 have e:=k_minusG a b
 rw [e1,e2] at e
 exact e
def tTimesG:TF:=fun args=>match args with
 | [.agg [.ints .i64 10 a],.agg [.ints .i64 10 b]]=>some (gd10 (l10 a) && gd10 (l10 b),u10 (lf (mulG (l10 a) (l10 b))))
 | _=>none
theorem r_timesG:TRow prog F_rimeref04_Times tTimesG:=by
 intro args r h
 unfold tTimesG at h
 split at h
 case h_2=>simp at h
 rename_i a b
 simp only [Option.some.injEq,Prod.mk.injEq] at h
 obtain ⟨hc,rfl⟩:=h
 obtain ⟨ha,hb⟩:=and_t.1 hc
 refine pure_of_out GX1 at_rimeref04_Times c_timesG (N:=20) (gs:=[]) ?_
 have h1:=prG_gw ha hb
 have h2:=gd_gw (carD_gd h1)
 have e:=k_timesG a b
 rw [prRaw_law ha hb,gw10_t.2 h1,gw10_t.2 h2] at e
 exact e
def gx2:List (Nat × TF):=(F_rimeref04_Times,tTimesG) :: (F_rimeref04_Minus,tMinusG) :: (F_rimeref04_Plus,tPlusG) :: gx1
theorem GX2:LibOK prog tt gx2 []:=((GX1.addT r_plusG).addT r_minusG).addT r_timesG
end Go.Proofs.YtfpkegodflloiaaGreat
