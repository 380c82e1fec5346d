/-
  Texts of the claim: DHash DShR8 DShR9 DRef2 DMod DDig DShR10 DSuite DAr2 DAr3 DFe DPt DFe2 DFe3 DRoot DTimes DForm DOpen DEdw.
-/
import Derived.Test.YtfpkegodflloiaaGreatAc
import Derived.Test.YtfpkegodflloiaaGreatAd
import Derived.Test.YtfpkegodflloiaaGreatAe
import Derived.Test.YtfpkegodflloiaaGreatBa
namespace Go.Proofs.YtfpkegodflloiaaGreat
open Go.Proofs.Tryz
open Go Go.AM
noncomputable def hq1:List (Nat × TF):=(F_scalar_Reduce,tReduce64) :: hs9
theorem HQ1:LibOK prog tt hq1 []:=H9.addT r_reduce64
def ctxB:List UInt8:=[70,82,79,83,84,45,69,68,50,53,53,49,57,45,83,72,65,53,49,50,45,118,49]
def rhoH:List UInt8:=ctxB ++ [114,104,111]
def nonB:List UInt8:=ctxB ++ [110,111,110,99,101]
def msgB:List UInt8:=ctxB ++ [109,115,103]
def comB:List UInt8:=ctxB ++ [99,111,109]
def stS (l:List UInt8):Seg:=.one (.str ⟨⟨l⟩⟩)
def wF_hash (l:List UInt8) (j:Nat):Int:=((l.getD j 0).toNat:Int)
def hHp (l:List UInt8) (np:Nat) (row:Nat → List Seg):Heap :=
 [some (.ints .u8 64 1 (fun _ _=>0)),some (.mix 5 1 (fun r=>bif Nat.beq r 0 then [stS rhoH,stS [],stS nonB,stS msgB,stS comB] else [stS [],stS [],stS [],stS [],stS []])),none,
  some (.mix 1 (1+np) (fun r=>bif Nat.ble (r+1) 1 then cutS (List.getD [[.one (.vints true .u8 1 l.length (fun j _=>wF_hash l j))]] (0+r) []) 0 1 else row (r - 1)))]
def hRow (l:List UInt8) (np:Nat) (row:Nat → List Seg):Nat → List Seg:=fun j =>
 (cutS (bif Nat.ble (0+j+1) 1 then cutS (List.getD [[.one (.vints true .u8 1 l.length (fun j _=>wF_hash l j))]] (0+(0+j)) []) 0 1 else row (0+j - 1)) 0 1).map (snapSeg (snapSV false (hHp l np row) 8))
theorem c_hashed:fnChk prog (envP tt hq1 []) f_suite_hashed=true:=by kernel_rfl
theorem k_hashed0 (t:Bool) (np:Nat) (row:Nat → List Seg):outP (apFunc (envP tt hq1 []) [] 5 f_suite_hashed [.sc (.int .i64 0),.sc (.vrows t 1 np row)] []) =
  some (ckL [fits (1+np) 24 && true,Nat.ble (1+np) 4611686018427387903 && (fits (jN (1+np) (hRow rhoH np row)) 1 && (List.range (1+np)).all fun j=>okPart (hRow rhoH np row j))],.agg [.ints .u8 64 (lf (digL (lf kcL) (lf bcL) (jN (1+np) (hRow rhoH np row)) (jB (1+np) (hRow rhoH np row))))]):=by kernel_rfl
theorem k_hashed1 (t:Bool) (np:Nat) (row:Nat → List Seg):outP (apFunc (envP tt hq1 []) [] 5 f_suite_hashed [.sc (.int .i64 1),.sc (.vrows t 1 np row)] []) =
  some (ckL [fits (1+np) 24 && true,Nat.ble (1+np) 4611686018427387903 && (fits (jN (1+np) (hRow [] np row)) 1 && (List.range (1+np)).all fun j=>okPart (hRow [] np row j))],.agg [.ints .u8 64 (lf (digL (lf kcL) (lf bcL) (jN (1+np) (hRow [] np row)) (jB (1+np) (hRow [] np row))))]):=by kernel_rfl
theorem k_hashed2 (t:Bool) (np:Nat) (row:Nat → List Seg):outP (apFunc (envP tt hq1 []) [] 5 f_suite_hashed [.sc (.int .i64 2),.sc (.vrows t 1 np row)] []) =
  some (ckL [fits (1+np) 24 && true,Nat.ble (1+np) 4611686018427387903 && (fits (jN (1+np) (hRow nonB np row)) 1 && (List.range (1+np)).all fun j=>okPart (hRow nonB np row j))],.agg [.ints .u8 64 (lf (digL (lf kcL) (lf bcL) (jN (1+np) (hRow nonB np row)) (jB (1+np) (hRow nonB np row))))]):=by kernel_rfl
theorem k_hashed3 (t:Bool) (np:Nat) (row:Nat → List Seg):outP (apFunc (envP tt hq1 []) [] 5 f_suite_hashed [.sc (.int .i64 3),.sc (.vrows t 1 np row)] []) =
  some (ckL [fits (1+np) 24 && true,Nat.ble (1+np) 4611686018427387903 && (fits (jN (1+np) (hRow msgB np row)) 1 && (List.range (1+np)).all fun j=>okPart (hRow msgB np row j))],.agg [.ints .u8 64 (lf (digL (lf kcL) (lf bcL) (jN (1+np) (hRow msgB np row)) (jB (1+np) (hRow msgB np row))))]):=by kernel_rfl
theorem k_hashed4 (t:Bool) (np:Nat) (row:Nat → List Seg):outP (apFunc (envP tt hq1 []) [] 5 f_suite_hashed [.sc (.int .i64 4),.sc (.vrows t 1 np row)] []) =
  some (ckL [fits (1+np) 24 && true,Nat.ble (1+np) 4611686018427387903 && (fits (jN (1+np) (hRow comB np row)) 1 && (List.range (1+np)).all fun j=>okPart (hRow comB np row j))],.agg [.ints .u8 64 (lf (digL (lf kcL) (lf bcL) (jN (1+np) (hRow comB np row)) (jB (1+np) (hRow comB np row))))]):=by kernel_rfl
def partsL (np:Nat) (row:Nat → List Seg):List (Nat × (Nat → Int)):=(List.range np).map fun j=>(paN (row j),fun i=>paF (row j) i 0)
def wP_hash (l:List UInt8):Nat × (Nat → Int):=(l.length,wF_hash l)
def wordOf (i:Int):List UInt8:=bif i == 0 then rhoH else bif i == 1 then [] else bif i == 2 then nonB else bif i == 3 then msgB else comB
def okTot (n:Nat):Bool:=Nat.ble n 1099511627776
def okPs (w:List UInt8) (np:Nat) (row:Nat → List Seg):Bool:=okTot (catL (wP_hash w :: partsL np row)).1 && (Nat.ble np 4294967296 && (List.range np).all fun j=>okPart (row j))
noncomputable def hDig (w:List UInt8) (l:List (Nat × (Nat → Int))):Nat → Int:=lf (digP (lf kcL) (lf bcL) (wP_hash w :: l))
theorem snap_part {hp:Heap} {s:List Seg} (h:okPart s=true):(cutS s 0 1).map (snapSeg (snapSV false hp 8))=s:=by
 unfold okPart at h
 split at h
 ·rfl
 ·rfl
 ·simp at h
theorem hRow_succ (l:List UInt8) (np:Nat) (row:Nat → List Seg) (j:Nat) (h:okPart (row j)=true):hRow l np row (j+1)=row j:=by
 unfold hRow
 have:Nat.ble (0+(j+1)+1) 1=false:=by
  cases hb:Nat.ble (0+(j+1)+1) 1 with
  | false=>rfl
  | true=>have:=Nat.le_of_ble_eq_true hb; omega
 rw [this]
 show (cutS (row (0+(j+1) - 1)) 0 1).map _=_
 rw [show 0+(j+1) - 1=j by omega,snap_part h]
theorem range_succ' (n:Nat):List.range (1+n)=0 :: (List.range n).map (·+1):=by
 rw [Nat.add_comm,List.range_succ_eq_map]
theorem hRow_parts {l:List UInt8} {np:Nat} {row:Nat → List Seg} (h:∀ j,j < np → okPart (row j)=true):partsL (1+np) (hRow l np row)=wP_hash l :: partsL np row:=by
 unfold partsL
 rw [range_succ',List.map_cons,List.map_map]
 refine congr (congrArg List.cons rfl) (List.map_congr_left fun j hj=>?_)
 show (paN (hRow l np row (j+1)),fun i=>paF (hRow l np row (j+1)) i 0)=_
 rw [hRow_succ l np row j (h j (List.mem_range.1 hj))]
theorem hash_law {l:List UInt8} {np:Nat} {row:Nat → List Seg} (h:okPs l np row=true):fits (1+np) 24=true ∧ (Nat.ble (1+np) 4611686018427387903 && (fits (jN (1+np) (hRow l np row)) 1 && (List.range (1+np)).all fun j=>okPart (hRow l np row j)))=true ∧
  digL (lf kcL) (lf bcL) (jN (1+np) (hRow l np row)) (jB (1+np) (hRow l np row))=digP (lf kcL) (lf bcL) (wP_hash l :: partsL np row):=by
 simp only [okPs,Bool.and_eq_true,List.all_eq_true,List.mem_range,okTot] at h
 obtain ⟨h1,h2,h3⟩:=h
 have h1:=Nat.le_of_ble_eq_true h1
 have h2:=Nat.le_of_ble_eq_true h2
 have e:=digP_of (lf kcL) (lf bcL) (jmF (hRow l np row)) (jfF (hRow l np row)) (1+np)
 have e2:(List.range (1+np)).map (fun j=>(jmF (hRow l np row) j,jfF (hRow l np row) j))=wP_hash l :: partsL np row:=hRow_parts h3
 rw [e2] at e
 have e3:=(catL_of (jmF (hRow l np row)) (jfF (hRow l np row)) (1+np)).1
 rw [e2] at e3
 refine ⟨by simp only [fits,decide_eq_true_eq]; omega,?_,e⟩
 have f1:fits (jN (1+np) (hRow l np row)) 1=true:=by
  simp only [fits,decide_eq_true_eq]
  show catN (jmF (hRow l np row)) (1+np) * 1 ≤ _
  rw [← e3]; omega
 have f2:((List.range (1+np)).all fun j=>okPart (hRow l np row j))=true:=by
  rw [range_succ']
  simp only [List.all_cons,List.all_map,Bool.and_eq_true,List.all_eq_true,List.mem_range]
  refine ⟨rfl,fun j hj=>?_⟩
  show okPart (hRow l np row (j+1))=true
  rw [hRow_succ l np row j (h3 j hj)]; exact h3 j hj
 rw [f1,f2,Nat.ble_eq_true_of_le (by omega)]; rfl
noncomputable def tHashed:TF:=fun args=>match args with
 | [.sc (.int .i64 i),.sc (.vrows _ 1 np row)]=>some (okPs (wordOf i) np row && (decide (0 ≤ i) && decide (i < 5)),.agg [.ints .u8 64 (hDig (wordOf i) (partsL np row))])
 | _=>none
theorem r_hashed:TRow prog F_suite_hashed tHashed:=by
 intro args r h
 unfold tHashed at h
 split at h
 case h_2=>simp at h
 rename_i i t np row
 simp only [Option.some.injEq,Prod.mk.injEq,Bool.and_eq_true,decide_eq_true_eq] at h
 obtain ⟨⟨h1,h2,h3⟩,rfl⟩:=h
 obtain ⟨q1,q2,q3⟩:=hash_law h1
 have hi:i=0 ∨ i=1 ∨ i=2 ∨ i=3 ∨ i=4:=by omega
 refine pure_of_out HQ1 at_suite_hashed c_hashed (N:=5) (gs:=[]) ?_
 unfold hDig
 rw [← q3]
 rcases hi with rfl | rfl | rfl | rfl | rfl
 ·have e:=k_hashed0 t np row
  rw [show wordOf 0=rhoH by rfl] at q2 ⊢
  rw [q1,q2] at e; exact e
 ·have e:=k_hashed1 t np row
  rw [show wordOf 1=([]:List UInt8) by rfl] at q2 ⊢
  rw [q1,q2] at e; exact e
 ·have e:=k_hashed2 t np row
  rw [show wordOf 2=nonB by rfl] at q2 ⊢
  rw [q1,q2] at e; exact e
 ·have e:=k_hashed3 t np row
  rw [show wordOf 3=msgB by rfl] at q2 ⊢
  rw [q1,q2] at e; exact e
 ·have e:=k_hashed4 t np row
  rw [show wordOf 4=comB by rfl] at q2 ⊢
  rw [q1,q2] at e; exact e
noncomputable def hq2:List (Nat × TF):=(F_suite_hashed,tHashed) :: hq1
theorem HQ2:LibOK prog tt hq2 []:=HQ1.addT r_hashed
noncomputable def hNum (w:List UInt8) (l:List (Nat × (Nat → Int))):Int:=hval (hDig w l) 64 0 % ordL
def tNumber:TF:=fun args=>match args with
 | [.agg [.ints .u8 64 d]]=>some (areB d 64 0,b32 (hval d 64 0 % ordL))
 | _=>none
theorem c_number:fnChk prog (envP tt hq2 []) f_suite_number=true:=by kernel_rfl
theorem k_number (d:Nat → Int):outP (apFunc (envP tt hq2 []) [] 5 f_suite_number [.agg [.ints .u8 64 d]] [])=some (ckL [areB (fun j=>d (0+j * 1+0)) 64 0],b32 (hval (fun j=>d (0+j * 1+0)) 64 0 % ordL)):=by kernel_rfl
theorem r_number:TRow prog F_suite_number tNumber:=by
 intro args r h
 unfold tNumber at h
 split at h
 case h_2=>simp at h
 rename_i d
 simp only [Option.some.injEq,Prod.mk.injEq] at h
 obtain ⟨h1,rfl⟩:=h
 refine pure_of_out HQ2 at_suite_number c_number (N:=5) (gs:=[]) ?_
 have e:=k_number d
 rw [show (fun j=>d (0+j * 1+0))=d from funext fun j=>by rw [Nat.zero_add,Nat.mul_one,Nat.add_zero],h1] at e
 exact e
theorem hDig_areB (w:List UInt8) (l:List (Nat × (Nat → Int))):areB (hDig w l) 64 0=true:=outL_areB _
noncomputable def hq3:List (Nat × TF):=(F_suite_number,tNumber) :: hq2
theorem HQ3:LibOK prog tt hq3 []:=HQ2.addT r_number
noncomputable def tHn (w:List UInt8):TF:=fun args=>match args with
 | [.sc (.vrows _ 1 np row)]=>some (okPs w np row,b32 (hNum w (partsL np row)))
 | _=>none
def snR (n:Nat) (row:Nat → List Seg):Nat → List Seg:=fun j=>(row j).map (snapSeg (snapSV false [some (.ints .u8 n 1 (fun _ _=>0))] 8))
theorem snap_part2 {hp:Heap} {s:List Seg} (h:okPart s=true):s.map (snapSeg (snapSV false hp 8))=s:=by
 unfold okPart at h
 split at h
 ·rfl
 ·rfl
 ·simp at h
theorem okPs_sn (n:Nat) {w:List UInt8} {np:Nat} {row:Nat → List Seg} (h:okPs w np row=true):okPs w np (snR n row)=true ∧ partsL np (snR n row)=partsL np row:=by
 have h0:=h
 simp only [okPs,Bool.and_eq_true,List.all_eq_true,List.mem_range] at h
 obtain ⟨h1,h2,h3⟩:=h
 have e:partsL np (snR n row)=partsL np row:=List.map_congr_left fun j hj=>by
  unfold snR
  rw [snap_part2 (h3 j (List.mem_range.1 hj))]
 refine ⟨?_,e⟩
 simp only [okPs,Bool.and_eq_true,List.all_eq_true,List.mem_range]
 rw [e]
 exact ⟨h1,h2,fun j hj=>by unfold snR; rw [snap_part2 (h3 j hj)]; exact h3 j hj⟩
theorem c_H3:fnChk prog (envP tt hq3 []) f_suite_H3=true:=by kernel_rfl
theorem k_H3 (t:Bool) (np:Nat) (row:Nat → List Seg):outP (apFunc (envP tt hq3 []) [] 5 f_suite_H3 [.sc (.vrows t 1 np row)] []) =
  some (ckL [okPs nonB np (snR 32 row) && true,areB (hDig nonB (partsL np (snR 32 row))) 64 0],b32 (hNum nonB (partsL np (snR 32 row)))):=by kernel_rfl
theorem r_H3:TRow prog F_suite_H3 (tHn nonB):=by
 intro args r h
 unfold tHn at h
 split at h
 case h_2=>simp at h
 rename_i t np row
 simp only [Option.some.injEq,Prod.mk.injEq] at h
 obtain ⟨h1,rfl⟩:=h
 refine pure_of_out HQ3 at_suite_H3 c_H3 (N:=5) (gs:=[]) ?_
 have e:=k_H3 t np row
 rw [(okPs_sn 32 h1).1,(okPs_sn 32 h1).2,hDig_areB] at e
 exact e
end Go.Proofs.YtfpkegodflloiaaGreat
namespace Go.Proofs.YtfpkegodflloiaaGreat
open Go.Proofs.Tryz
open Go Go.AM
-- a loop of joined
noncomputable def rj1B:Code:=match Func.body f_rimeref06_joined with | some c=>(match bodiesOf 0 c with | [.loop b]=>b | _=>.skip) | none=>.skip
theorem rj1_body:(Func.body f_rimeref06_joined).map (bodiesOf 0)=some [.loop rj1B]:=by kernel_rfl
theorem rj1_ok:codeOK prog (EnvP.env (envP tt hr7 [])).isW rj1B=true:=by kernel_rfl
def rj1S (t:Bool) (np:Nat) (pt:Nat → Bool) (pn:Nat → Nat) (pf:Nat → Nat → Nat → Int) (i1:Int) (k1:Nat) (D1:Nat → Nat → Int):St:=⟨tmOf [(1,AV.sc (SV.vrows t 1 np fun j=>[Seg.one (SV.vints (pt j) IntKind.u8 1 (pn j) (pf j))])),(5,AV.sc (SV.slice 3 1 0 0 1 k1)),(6,AV.sc (SV.int IntKind.i64 i1))] 30 0,[none,none,none,some (Blk.ints IntKind.u8 1 k1 D1)]⟩
def rj10 (w:List UInt8) (t:Bool) (np:Nat) (pt:Nat → Bool) (pn:Nat → Nat) (pf:Nat → Nat → Nat → Int):St:=⟨tmOf [(1,AV.sc (SV.vrows t 1 np fun j=>[Seg.one (SV.vints (pt j) IntKind.u8 1 (pn j) (pf j))])),(5,AV.sc (SV.slice 2 1 0 0 1 (23+List.length w))),(6,AV.sc (SV.int IntKind.i64 0))] 30 0,[some (Blk.ints IntKind.u8 1 23 fun r d=>svInt (cellAt (List.getD [[Seg.ints IntKind.u8 1 fun j=>70],[Seg.ints IntKind.u8 1 fun j=>82],[Seg.ints IntKind.u8 1 fun j=>79],[Seg.ints IntKind.u8 1 fun j=>83],[Seg.ints IntKind.u8 1 fun j=>84],[Seg.ints IntKind.u8 1 fun j=>45],[Seg.ints IntKind.u8 1 fun j=>69],[Seg.ints IntKind.u8 1 fun j=>68],[Seg.ints IntKind.u8 1 fun j=>50],[Seg.ints IntKind.u8 1 fun j=>53],[Seg.ints IntKind.u8 1 fun j=>53],[Seg.ints IntKind.u8 1 fun j=>49],[Seg.ints IntKind.u8 1 fun j=>57],[Seg.ints IntKind.u8 1 fun j=>45],[Seg.ints IntKind.u8 1 fun j=>83],[Seg.ints IntKind.u8 1 fun j=>72],[Seg.ints IntKind.u8 1 fun j=>65],[Seg.ints IntKind.u8 1 fun j=>53],[Seg.ints IntKind.u8 1 fun j=>49],[Seg.ints IntKind.u8 1 fun j=>50],[Seg.ints IntKind.u8 1 fun j=>45],[Seg.ints IntKind.u8 1 fun j=>118],[Seg.ints IntKind.u8 1 fun j=>49]] r []) d)),none,some (Blk.ints IntKind.u8 1 (23+List.length w) fun r d=>bif Nat.ble (r+1) 23 then svInt (cellAt (List.getD [[Seg.ints IntKind.u8 1 fun j=>70],[Seg.ints IntKind.u8 1 fun j=>82],[Seg.ints IntKind.u8 1 fun j=>79],[Seg.ints IntKind.u8 1 fun j=>83],[Seg.ints IntKind.u8 1 fun j=>84],[Seg.ints IntKind.u8 1 fun j=>45],[Seg.ints IntKind.u8 1 fun j=>69],[Seg.ints IntKind.u8 1 fun j=>68],[Seg.ints IntKind.u8 1 fun j=>50],[Seg.ints IntKind.u8 1 fun j=>53],[Seg.ints IntKind.u8 1 fun j=>53],[Seg.ints IntKind.u8 1 fun j=>49],[Seg.ints IntKind.u8 1 fun j=>57],[Seg.ints IntKind.u8 1 fun j=>45],[Seg.ints IntKind.u8 1 fun j=>83],[Seg.ints IntKind.u8 1 fun j=>72],[Seg.ints IntKind.u8 1 fun j=>65],[Seg.ints IntKind.u8 1 fun j=>53],[Seg.ints IntKind.u8 1 fun j=>49],[Seg.ints IntKind.u8 1 fun j=>50],[Seg.ints IntKind.u8 1 fun j=>45],[Seg.ints IntKind.u8 1 fun j=>118],[Seg.ints IntKind.u8 1 fun j=>49]] (0+(0+r)) []) (0+(0+d))) else ↑(UInt8.toNat (List.getD (Array.toList (ByteArray.data { data:={ toList:=w } })) (r - 23) 0)))]⟩
-- entry: rj1S t np pt pn pf (0) (23+List.length w) (fun r d=>0)  blocks [(some 2)]
noncomputable def rj1_n1_D1 (t:Bool) (np:Nat) (pt:Nat → Bool) (pn:Nat → Nat) (pf:Nat → Nat → Nat → Int) (i1:Int) (k1:Nat) (D1:Nat → Nat → Int):Nat → Nat → Int:=fun r d=>bif Nat.ble (r+1) k1 then D1 (0+r) (0+d) else pf (Int.toNat i1) (r - k1) d
theorem rj1_r1 (t:Bool) (np:Nat) (pt:Nat → Bool) (pn:Nat → Nat) (pf:Nat → Nat → Nat → Int) (i1:Int) (k1:Nat) (D1:Nat → Nat → Int):roundV (envP tt hr7 []) [(20,true)] 5 3 [] [4] [1,5,6] [.keep,.keep,.keep,.keep] rj1B (rj1S t np pt pn pf i1 k1 D1) =
 some (ckL [decide (i1 < ↑np) == true,inR i1 np,fits (k1+pn (Int.toNat i1)) 1 && true],(ckL [],(.normal,rj1S t np pt pn pf (wr IntKind.i64 (i1+1)) (k1+pn (Int.toNat i1)) (rj1_n1_D1 t np pt pn pf i1 k1 D1)))):=by kernel_rfl
theorem rj1_R1 (t:Bool) (np:Nat) (pt:Nat → Bool) (pn:Nat → Nat) (pf:Nat → Nat → Nat → Int) (i1:Int) (k1:Nat) (D1:Nat → Nat → Int) (h:ckL [decide (i1 < ↑np) == true,inR i1 np,fits (k1+pn (Int.toNat i1)) 1 && true]=true) (h':ckL []=true):Rd prog 5 3 rj1B (rj1S t np pt pn pf i1 k1 D1) .normal (rj1S t np pt pn pf (wr IntKind.i64 (i1+1)) (k1+pn (Int.toNat i1)) (rj1_n1_D1 t np pt pn pf i1 k1 D1)):=Rd.of_round HR7 LsOK.nil rj1_body rj1_ok (rj1_r1 t np pt pn pf i1 k1 D1) h h'
def rj1T1 (k1:Nat) (D1:Nat → Nat → Int):St:=⟨tmOf [(5,(AV.sc (SV.slice 3 1 (0) (0) 1 k1)))] 30 0,[none,none,none,some (Blk.ints IntKind.u8 1 k1 D1)]⟩
theorem rj1_e1 (t:Bool) (np:Nat) (pt:Nat → Bool) (pn:Nat → Nat) (pf:Nat → Nat → Nat → Int) (i1:Int) (k1:Nat) (D1:Nat → Nat → Int):roundV (envP tt hr7 []) [(20,false)] 5 3 [] [3] [5] [.keep,.keep,.keep,.keep] rj1B (rj1S t np pt pn pf i1 k1 D1) =
 some (ckL [decide (i1 < ↑np) == false],(ckL [],((.exit 0),rj1T1 (k1) (D1)))):=by kernel_rfl
theorem rj1_E1 (t:Bool) (np:Nat) (pt:Nat → Bool) (pn:Nat → Nat) (pf:Nat → Nat → Nat → Int) (i1:Int) (k1:Nat) (D1:Nat → Nat → Int) (h:ckL [decide (i1 < ↑np) == false]=true) (h':ckL []=true):Rd prog 5 3 rj1B (rj1S t np pt pn pf i1 k1 D1) (.exit 0) (rj1T1 (k1) (D1)):=Rd.of_round HR7 LsOK.nil rj1_body rj1_ok (rj1_e1 t np pt pn pf i1 k1 D1) h h'
-- a loop of joined
noncomputable def rj2B:Code:=match Func.body f_rimeref06_joined with | some c=>(match bodiesOf 0 c with | [.loop b]=>b | _=>.skip) | none=>.skip
theorem rj2_body:(Func.body f_rimeref06_joined).map (bodiesOf 0)=some [.loop rj2B]:=by kernel_rfl
theorem rj2_ok:codeOK prog (EnvP.env (envP tt hr7 [])).isW rj2B=true:=by kernel_rfl
def rj2S (t:Bool) (np:Nat) (pt:Nat → Bool) (pn:Nat → Nat) (pf:Nat → Nat → Nat → Int) (i1:Int) (k1:Nat) (D1:Nat → Nat → Int):St:=⟨tmOf [(1,AV.sc (SV.vrows t 1 np fun j=>[Seg.one (SV.vints (pt j) IntKind.u8 1 (pn j) (pf j))])),(5,AV.sc (SV.slice 0 1 0 0 1 k1)),(6,AV.sc (SV.int IntKind.i64 i1))] 30 0,[some (Blk.ints IntKind.u8 1 k1 D1)]⟩
def rj20 (w:List UInt8) (t:Bool) (np:Nat) (pt:Nat → Bool) (pn:Nat → Nat) (pf:Nat → Nat → Nat → Int):St:=⟨tmOf [(1,AV.sc (SV.vrows t 1 np fun j=>[Seg.one (SV.vints (pt j) IntKind.u8 1 (pn j) (pf j))])),(5,AV.sc SV.nils),(6,AV.sc (SV.int IntKind.i64 0))] 30 0,[]⟩
-- entry: rj2S t np pt pn pf (0) (0) (fun r d=>0)  blocks [none]
noncomputable def rj2_n1_D1 (t:Bool) (np:Nat) (pt:Nat → Bool) (pn:Nat → Nat) (pf:Nat → Nat → Nat → Int) (i1:Int) (k1:Nat) (D1:Nat → Nat → Int):Nat → Nat → Int:=fun r d=>bif Nat.ble (r+1) k1 then D1 (0+r) (0+d) else pf (Int.toNat i1) (r - k1) d
theorem rj2_r1 (t:Bool) (np:Nat) (pt:Nat → Bool) (pn:Nat → Nat) (pf:Nat → Nat → Nat → Int) (i1:Int) (k1:Nat) (D1:Nat → Nat → Int):roundV (envP tt hr7 []) [(20,true)] 5 0 [] [1] [1,5,6] [.keep] rj2B (rj2S t np pt pn pf i1 k1 D1) =
 some (ckL [decide (i1 < ↑np) == true,inR i1 np,fits (k1+pn (Int.toNat i1)) 1 && true],(ckL [],(.normal,rj2S t np pt pn pf (wr IntKind.i64 (i1+1)) (k1+pn (Int.toNat i1)) (rj2_n1_D1 t np pt pn pf i1 k1 D1)))):=by kernel_rfl
theorem rj2_R1 (t:Bool) (np:Nat) (pt:Nat → Bool) (pn:Nat → Nat) (pf:Nat → Nat → Nat → Int) (i1:Int) (k1:Nat) (D1:Nat → Nat → Int) (h:ckL [decide (i1 < ↑np) == true,inR i1 np,fits (k1+pn (Int.toNat i1)) 1 && true]=true) (h':ckL []=true):Rd prog 5 0 rj2B (rj2S t np pt pn pf i1 k1 D1) .normal (rj2S t np pt pn pf (wr IntKind.i64 (i1+1)) (k1+pn (Int.toNat i1)) (rj2_n1_D1 t np pt pn pf i1 k1 D1)):=Rd.of_round HR7 LsOK.nil rj2_body rj2_ok (rj2_r1 t np pt pn pf i1 k1 D1) h h'
def rj2T1 (k1:Nat) (D1:Nat → Nat → Int):St:=⟨tmOf [(5,(AV.sc (SV.slice 0 1 (0) (0) 1 k1)))] 30 0,[some (Blk.ints IntKind.u8 1 k1 D1)]⟩
theorem rj2_e1 (t:Bool) (np:Nat) (pt:Nat → Bool) (pn:Nat → Nat) (pf:Nat → Nat → Nat → Int) (i1:Int) (k1:Nat) (D1:Nat → Nat → Int):roundV (envP tt hr7 []) [(20,false)] 5 0 [] [0] [5] [.keep] rj2B (rj2S t np pt pn pf i1 k1 D1) =
 some (ckL [decide (i1 < ↑np) == false],(ckL [],((.exit 0),rj2T1 (k1) (D1)))):=by kernel_rfl
theorem rj2_E1 (t:Bool) (np:Nat) (pt:Nat → Bool) (pn:Nat → Nat) (pf:Nat → Nat → Nat → Int) (i1:Int) (k1:Nat) (D1:Nat → Nat → Int) (h:ckL [decide (i1 < ↑np) == false]=true) (h':ckL []=true):Rd prog 5 0 rj2B (rj2S t np pt pn pf i1 k1 D1) (.exit 0) (rj2T1 (k1) (D1)):=Rd.of_round HR7 LsOK.nil rj2_body rj2_ok (rj2_e1 t np pt pn pf i1 k1 D1) h h'
def jnK (k0:Nat) (pn:Nat → Nat):Nat → Nat
 | 0=>k0
 | k+1=>jnK k0 pn k+pn k
def jfK (k0:Nat) (D:Nat → Nat → Int) (pn:Nat → Nat) (pf:Nat → Nat → Nat → Int):Nat → Nat → Nat → Int
 | 0=>D
 | k+1=>fun r d=>bif Nat.ble (r+1) (jnK k0 pn k) then jfK k0 D pn pf k (0+r) (0+d) else pf k (r - jnK k0 pn k) d
theorem jnK_cat (k0:Nat) (pn:Nat → Nat):∀ k,jnK k0 pn k=k0+catN pn k
 | 0=>rfl
 | k+1=>by
  show jnK k0 pn k+pn k=k0+(catN pn k+pn k)
  rw [jnK_cat k0 pn k]; omega
theorem jfK_cat (k0:Nat) (D:Nat → Nat → Int) (pn:Nat → Nat) (pf:Nat → Nat → Nat → Int):∀ k r,r < k0+catN pn k → jfK k0 D pn pf k r 0=catF k0 (fun j=>D j 0) (catB pn (fun i j=>pf i j 0) k) r
 | 0,r,h=>by
  have h:r < k0:=h
  rw [catF_lt h]; rfl
 | k+1,r,h=>by
  have h:r < k0+(catN pn k+pn k):=h
  show (bif Nat.ble (r+1) (jnK k0 pn k) then jfK k0 D pn pf k (0+r) (0+0) else pf k (r - jnK k0 pn k) 0)=_
  rw [jnK_cat]
  by_cases e:r < k0+catN pn k
  ·rw [bls_t e,Nat.zero_add]
   show jfK k0 D pn pf k r 0=_
   rw [jfK_cat k0 D pn pf k r e]
   by_cases q:r < k0
   ·rw [catF_lt q,catF_lt q]
   ·rw [catF_ge (by omega),catF_ge (by omega)]
    show _=catF (catN pn k) (catB pn (fun i j=>pf i j 0) k) (fun j=>pf k j 0) (r - k0)
    rw [catF_lt (by omega)]
  ·rw [bls_f e]
   show pf k (r - (k0+catN pn k)) 0=_
   rw [catF_ge (by omega)]
   show _=catF (catN pn k) (catB pn (fun i j=>pf i j 0) k) (fun j=>pf k j 0) (r - k0)
   rw [catF_ge (by omega),show r - k0 - catN pn k=r - (k0+catN pn k) by omega]
theorem catN_mono (pn:Nat → Nat) {k n:Nat} (h:k ≤ n):catN pn k ≤ catN pn n:=by
 induction n with
 | zero=>rw [show k=0 by omega]; exact Nat.le_refl _
 | succ n ih =>
  by_cases e:k=n+1
  ·rw [e]; exact Nat.le_refl _
  ·have:=ih (by omega)
   show catN pn k ≤ catN pn n+pn n
   omega
theorem l_rj1 (t:Bool) {np:Nat} (pt:Nat → Bool) (pn:Nat → Nat) (pf:Nat → Nat → Nat → Int) {k0:Nat} (D:Nat → Nat → Int) (hp:np ≤ 4294967296) (hn:k0+catN pn np ≤ 1099511627776) :
  LRow prog f_rimeref06_joined 0 (famV 3 [2] (rj1S t np pt pn pf 0 k0 D) .normal (rj1T1 (jnK k0 pn np) (jfK k0 D pn pf np))):=by
 refine LRow.famV mix (N:=5) (S:=fun k=>rj1S t np pt pn pf ((k:Nat):Int) (jnK k0 pn k) (jfK k0 D pn pf k)) np rj1_body (fun _ _=>by show 3 ≤ 4; omega) (fun k hk=>?_) ⟨.exit 0,rfl,?_⟩
 ·have en:wr .i64 ((k:Int)+1)=((k+1:Nat):Int):=by rw [wr_i64 (by omega) (by omega)]; omega
  have h:=rj1_R1 t np pt pn pf (k:Int) (jnK k0 pn k) (jfK k0 D pn pf k)
  have hl:=catN_mono pn (show k+1 ≤ np by omega)
  have hl:catN pn k+pn k ≤ catN pn np:=hl
  have hx:rj1_n1_D1 t np pt pn pf (k:Int) (jnK k0 pn k) (jfK k0 D pn pf k)=jfK k0 D pn pf (k+1):=rfl
  rw [hx,en,Int.toNat_natCast,decide_eq_true (show (k:Int) < (np:Int) by omega),inR_lt hk,show fits (jnK k0 pn k+pn k) 1=true by simp [fits]; rw [jnK_cat]; omega] at h
  exact h rfl rfl
 ·have h:=rj1_E1 t np pt pn pf (np:Int) (jnK k0 pn np) (jfK k0 D pn pf np)
  refine h ?_ rfl
  rw [decide_eq_false (by omega)]; rfl
theorem l_rj2 (t:Bool) {np:Nat} (pt:Nat → Bool) (pn:Nat → Nat) (pf:Nat → Nat → Nat → Int) (D:Nat → Nat → Int) (hp:np ≤ 4294967296) (hn:catN pn np ≤ 1099511627776) :
  LRow prog f_rimeref06_joined 0 (famV 0 [] (rj2S t np pt pn pf 0 0 D) .normal (rj2T1 (jnK 0 pn np) (jfK 0 D pn pf np))):=by
 refine LRow.famV mix (N:=5) (S:=fun k=>rj2S t np pt pn pf ((k:Nat):Int) (jnK 0 pn k) (jfK 0 D pn pf k)) np rj2_body (fun _ _=>Nat.zero_le _) (fun k hk=>?_) ⟨.exit 0,rfl,?_⟩
 ·have en:wr .i64 ((k:Int)+1)=((k+1:Nat):Int):=by rw [wr_i64 (by omega) (by omega)]; omega
  have h:=rj2_R1 t np pt pn pf (k:Int) (jnK 0 pn k) (jfK 0 D pn pf k)
  have hl:=catN_mono pn (show k+1 ≤ np by omega)
  have hl:catN pn k+pn k ≤ catN pn np:=hl
  have hx:rj2_n1_D1 t np pt pn pf (k:Int) (jnK 0 pn k) (jfK 0 D pn pf k)=jfK 0 D pn pf (k+1):=rfl
  rw [hx,en,Int.toNat_natCast,decide_eq_true (show (k:Int) < (np:Int) by omega),inR_lt hk,show fits (jnK 0 pn k+pn k) 1=true by simp [fits]; rw [jnK_cat]; omega] at h
  exact h rfl rfl
 ·have h:=rj2_E1 t np pt pn pf (np:Int) (jnK 0 pn np) (jfK 0 D pn pf np)
  refine h ?_ rfl
  rw [decide_eq_false (by omega)]; rfl
end Go.Proofs.YtfpkegodflloiaaGreat
namespace Go.Proofs.YtfpkegodflloiaaGreat
open Go.Proofs.Tryz
open Go Go.AM
def zR (np:Nat) (pt:Nat → Bool) (pn:Nat → Nat) (pf:Nat → Nat → Nat → Int) (t:Bool):SV:=.vrows t 1 np (fun j=>[.one (.vints (pt j) .u8 1 (pn j) (pf j))])
noncomputable def rjE (w:List UInt8) (t:Bool) (np:Nat) (pt:Nat → Bool) (pn:Nat → Nat) (pf:Nat → Nat → Nat → Int) (m:Nat) (E:Nat → Nat → Int):EnvP:=envL tt hr7 [] [(0,famV 3 [2] (rj1S t np pt pn pf 0 (23+w.length) (fun r _=>wF_hash (ctxB ++ w) r)) .normal (rj1T1 m E))]
theorem rj_c (w:List UInt8) (t:Bool) (np:Nat) (pt:Nat → Bool) (pn:Nat → Nat) (pf:Nat → Nat → Nat → Int) (m:Nat) (E:Nat → Nat → Int):fnChk prog (rjE w t np pt pn pf m E) f_rimeref06_joined=true:=by kernel_rfl
theorem rj_k (w:List UInt8) (t:Bool) (np:Nat) (pt:Nat → Bool) (pn:Nat → Nat) (pf:Nat → Nat → Nat → Int) (m:Nat) (E:Nat → Nat → Int):outP (apFunc (rjE w t np pt pn pf m E) [(8,true)] 5 f_rimeref06_joined [AV.sc (SV.str ⟨⟨w⟩⟩),AV.sc (zR np pt pn pf t)] []) =
  some (ckL [(!ByteArray.toList ⟨⟨w⟩⟩ == []) == true,fits (23+List.length w) 1 && true,stZ [] (rnm 3 [2]) (rj10 w t np pt pn pf) (rj1S t np pt pn pf 0 (23+w.length) (fun r _=>wF_hash (ctxB ++ w) r))],.sc (.vints true .u8 1 m (fun j d=>E (0+j) (0+d)))):=by kernel_rfl
noncomputable def rjE0 (t:Bool) (np:Nat) (pt:Nat → Bool) (pn:Nat → Nat) (pf:Nat → Nat → Nat → Int) (m:Nat) (E:Nat → Nat → Int):EnvP:=envL tt hr7 [] [(0,famV 0 [] (rj2S t np pt pn pf 0 0 (fun _ _=>0)) .normal (rj2T1 m E))]
theorem rj_c0 (t:Bool) (np:Nat) (pt:Nat → Bool) (pn:Nat → Nat) (pf:Nat → Nat → Nat → Int) (m:Nat) (E:Nat → Nat → Int):fnChk prog (rjE0 t np pt pn pf m E) f_rimeref06_joined=true:=by kernel_rfl
theorem rj_k0 (t:Bool) (np:Nat) (pt:Nat → Bool) (pn:Nat → Nat) (pf:Nat → Nat → Nat → Int) (m:Nat) (E:Nat → Nat → Int):outP (apFunc (rjE0 t np pt pn pf m E) [] 5 f_rimeref06_joined [AV.sc (SV.str ⟨⟨[]⟩⟩),AV.sc (zR np pt pn pf t)] []) =
  some (ckL [stZ [] (rnm 0 []) (rj20 [] t np pt pn pf) (rj2S t np pt pn pf 0 0 (fun _ _=>0))],.sc (.vints true .u8 1 m (fun j d=>E (0+j) (0+d)))):=by kernel_rfl
theorem rj_in0 (t:Bool) (np:Nat) (pt:Nat → Bool) (pn:Nat → Nat) (pf:Nat → Nat → Nat → Int):stZ [] (rnm 0 []) (rj20 [] t np pt pn pf) (rj2S t np pt pn pf 0 0 (fun _ _=>0))=true :=
 stZ_tmOf rfl (by simp [tmAt,avZ,svZ,svR,segR,kEq_refl,eqF_refl,rIs,rnm]) rfl
def isW (w:List UInt8):Bool:=w == [114,104,111] || (w == [110,111,110,99,101] || (w == [109,115,103] || w == [99,111,109]))
theorem rj_in (w:List UInt8) (hw:isW w=true) (t:Bool) (np:Nat) (pt:Nat → Bool) (pn:Nat → Nat) (pf:Nat → Nat → Nat → Int) :
  (!ByteArray.toList ⟨⟨w⟩⟩ == [])=true ∧ fits (23+List.length w) 1=true ∧ stZ [] (rnm 3 [2]) (rj10 w t np pt pn pf) (rj1S t np pt pn pf 0 (23+w.length) (fun r _=>wF_hash (ctxB ++ w) r))=true:=by
 have key:∀ w,((!ByteArray.toList ⟨⟨w⟩⟩ == []) && fits (23+List.length w) 1)=true → hpZ [] (keepZ [] (rj10 w t np pt pn pf).hp 0) (rnm 3 [2]) 4 (rj10 w t np pt pn pf).hp (rj1S t np pt pn pf 0 (23+w.length) (fun r _=>wF_hash (ctxB ++ w) r)).hp 0=true →
   (!ByteArray.toList ⟨⟨w⟩⟩ == [])=true ∧ fits (23+List.length w) 1=true ∧ stZ [] (rnm 3 [2]) (rj10 w t np pt pn pf) (rj1S t np pt pn pf 0 (23+w.length) (fun r _=>wF_hash (ctxB ++ w) r))=true:=fun w h1 h2=>by
  rw [Bool.and_eq_true] at h1
  refine ⟨h1.1,h1.2,stZ_tmOf rfl ?_ h2⟩
  simp [tmAt,avZ,svZ,svR,segR,kEq_refl,eqF_refl,rIs,rnm,rj1S]
 simp only [isW,Bool.or_eq_true,beq_iff_eq] at hw
 rcases hw with rfl | rfl | rfl | rfl <;> exact key _ (by kernel_rfl) (by kernel_rfl)
def ctxW (w:List UInt8):List UInt8:=match w with | []=>[] | w=>ctxB ++ w
def okWd (w:List UInt8):Bool:=w == [] || isW w
noncomputable def tJoined:TF:=fun args=>match args with
 | [.sc (.str s),.sc (.vrows _ 1 np row)]=>some (okWd s.data.toList && okPs (ctxW s.data.toList) np row,.sc (.vints true .u8 1 (catL (wP_hash (ctxW s.data.toList) :: partsL np row)).1 (fun j _=>(catL (wP_hash (ctxW s.data.toList) :: partsL np row)).2 j)))
 | _=>none
theorem joined_cat {k0 np:Nat} {D:Nat → Nat → Int} {row:Nat → List Seg} {w:List UInt8} (hk:k0=w.length) (hD:∀ r,r < k0 → D r 0=wF_hash w r) :
  jnK k0 (fun j=>paN (row j)) np=(catL (wP_hash w :: partsL np row)).1 ∧ eqF (catL (wP_hash w :: partsL np row)).1 1 (fun j d=>jfK k0 D (fun j=>paN (row j)) (fun j=>paF (row j)) np (0+j) (0+d)) (fun j _=>(catL (wP_hash w :: partsL np row)).2 j)=true:=by
 have h:=catL_of (fun j=>paN (row j)) (fun j i=>paF (row j) i 0) np
 have e1:(catL (wP_hash w :: partsL np row)).1=k0+catN (fun j=>paN (row j)) np:=by
  show w.length+(catL (partsL np row)).1=_
  rw [hk]
  exact congrArg (w.length+·) h.1
 refine ⟨by rw [jnK_cat,e1],eqF_of fun r hr d hd=>?_⟩
 obtain rfl:d=0:=by omega
 rw [Nat.zero_add]
 rw [e1] at hr
 show jfK k0 D _ _ np r 0=catF w.length (wF_hash w) (catL (partsL np row)).2 r
 rw [jfK_cat k0 D _ _ np r hr]
 by_cases q:r < k0
 ·rw [catF_lt q,catF_lt (by omega)]; exact hD r q
 ·rw [catF_ge (by omega),catF_ge (by omega),← hk]
  exact (h.2 (r - k0) (by omega)).symm
theorem r_joined:TRow prog F_rimeref06_joined tJoined:=by
 intro args r h
 unfold tJoined at h
 split at h
 case h_2=>simp at h
 rename_i s t np row
 obtain ⟨⟨w⟩⟩:=s
 simp only [Option.some.injEq,Prod.mk.injEq,Bool.and_eq_true] at h
 obtain ⟨⟨hw,hp⟩,rfl⟩:=h
 have h0:=hp
 simp only [okPs,Bool.and_eq_true,List.all_eq_true,List.mem_range,okTot,ble_t] at hp
 obtain ⟨h1,h2,h3⟩:=hp
 have hle:tmR (fun _=>none) 0 [.sc (.str ⟨⟨w⟩⟩),.sc (.vrows t 1 np row)] [.sc (.str ⟨⟨w⟩⟩),.sc (zR np (fun j=>paT (row j)) (fun j=>paN (row j)) (fun j=>paF (row j)) t)]=true:=by
  have q:((List.range np).all fun j=>segR (fun _=>none) 0 (row j) [.one (.vints (paT (row j)) .u8 1 (paN (row j)) (paF (row j)))])=true:=by
   simp only [List.all_eq_true,List.mem_range]
   exact fun j hj=>part_le (h3 j hj) _ _
  simp [tmR,avR,svR,zR,q]
 have hc:=(catL_of (fun j=>paN (row j)) (fun j i=>paF (row j) i 0) np).1
 refine pure_less ?_ hle
 cases w with
 | nil =>
  have hl:(catL (wP_hash (ctxW []) :: partsL np row)).1=catN (fun j=>paN (row j)) np:=by
   show 0+(catL (partsL np row)).1=_
   rw [Nat.zero_add]; exact hc
  have h1:(catL (wP_hash (ctxW []) :: partsL np row)).1 ≤ 1099511627776:=h1
  obtain ⟨j1,j2⟩:=joined_cat (k0:=0) (np:=np) (D:=fun _ _=>0) (row:=row) (w:=[]) rfl (fun r hr=>absurd hr (Nat.not_lt_zero r))
  have e:=rj_k0 t np (fun j=>paT (row j)) (fun j=>paN (row j)) (fun j=>paF (row j)) (jnK 0 (fun j=>paN (row j)) np) (jfK 0 (fun _ _=>0) (fun j=>paN (row j)) (fun j=>paF (row j)) np)
  rw [rj_in0] at e
  have hq:=pure_of_outL HR7 at_rimeref06_joined (LsOK.nil.cons (l_rj2 t (fun j=>paT (row j)) (fun j=>paN (row j)) (fun j=>paF (row j)) (fun _ _=>0) h2 (by rw [hl] at h1; exact h1))) (rj_c0 t np _ _ _ _ _) e
  exact pure_ints hq j1 (eqF_t j2)
 | cons x y =>
  have hw:isW (x :: y)=true:=by
   simp only [okWd] at hw
   rcases Bool.or_eq_true _ _ ▸ hw with h | h
   ·simp at h
   ·exact h
  obtain ⟨i1,i2,i3⟩:=rj_in (x :: y) hw t np (fun j=>paT (row j)) (fun j=>paN (row j)) (fun j=>paF (row j))
  have hlen:23+(x :: y).length=(ctxB ++ (x :: y)).length:=by rw [List.length_append]; rfl
  have hl:(catL (wP_hash (ctxW (x :: y)) :: partsL np row)).1=23+(x :: y).length+catN (fun j=>paN (row j)) np:=by
   show (ctxB ++ (x :: y)).length+(catL (partsL np row)).1=_
   rw [← hlen]; exact congrArg _ hc
  obtain ⟨j1,j2⟩:=joined_cat (k0:=23+(x :: y).length) (np:=np) (D:=fun r _=>wF_hash (ctxB ++ (x :: y)) r) (row:=row) (w:=ctxB ++ (x :: y)) hlen (fun r hr=>rfl)
  have e:=rj_k (x :: y) t np (fun j=>paT (row j)) (fun j=>paN (row j)) (fun j=>paF (row j)) (jnK (23+(x :: y).length) (fun j=>paN (row j)) np) (jfK (23+(x :: y).length) (fun r _=>wF_hash (ctxB ++ (x :: y)) r) (fun j=>paN (row j)) (fun j=>paF (row j)) np)
  rw [i1,i2,i3] at e
  have hq:=pure_of_outL HR7 at_rimeref06_joined (LsOK.nil.cons (l_rj1 t (fun j=>paT (row j)) (fun j=>paN (row j)) (fun j=>paF (row j)) (fun r _=>wF_hash (ctxB ++ (x :: y)) r) h2 (by rw [hl] at h1; exact h1))) (rj_c (x :: y) t np _ _ _ _ _) e
  exact pure_ints hq j1 (eqF_t j2)
end Go.Proofs.YtfpkegodflloiaaGreat
namespace Go.Proofs.YtfpkegodflloiaaGreat
open Go.Proofs.Tryz
open Go Go.AM
def tTwice:TF:=fun args=>match args with
 | [.agg [.ints .u32 8 a],.sc (.int .u32 b)]=>some (inW8 a && (decide (0 ≤ b) && (decide (b ≤ 1) && decide (val8 a < ordL))),n8 (2 * val8 a+b))
 | _=>none
theorem c_twice:fnChk prog pE f_rimeref02_twice=true:=by kernel_rfl
theorem k_twice (a:Nat → Int) (b:Int):outP (apFunc pE [] 10 f_rimeref02_twice [u8w a,.sc (.int .u32 b)] [])=some (true,u8w (lf (twiceL a b))):=by kernel_rfl
theorem r_twice:TRow prog F_rimeref02_twice tTwice:=by
 intro args r h
 unfold tTwice at h
 split at h
 case h_2=>simp at h
 rename_i a b
 simp only [Option.some.injEq,Prod.mk.injEq,Bool.and_eq_true,decide_eq_true_eq] at h
 obtain ⟨⟨ha,hb0,hb1,hl⟩,rfl⟩:=h
 refine pure_of_out L0 at_rimeref02_twice c_twice (N:=10) (gs:=[]) ?_
 have:=k_twice a b
 rw [twice_law ha ⟨hb0,hb1⟩ hl] at this
 exact this
def tMinus:TF:=fun args=>match args with
 | [.agg [.ints .u32 8 a],.agg [.ints .u32 8 b]]=>some (inW8 a && (inW8 b && decide (val8 b ≤ val8 a)),n8 (val8 a - val8 b))
 | _=>none
theorem c_minus:fnChk prog pE f_rimeref02_minus=true:=by kernel_rfl
theorem k_minus (a b:Nat → Int):outP (apFunc pE [] 10 f_rimeref02_minus [u8w a,u8w b] [])=some (true,u8w (lf (minL a b))):=by kernel_rfl
theorem r_minus:TRow prog F_rimeref02_minus tMinus:=by
 intro args r h
 unfold tMinus at h
 split at h
 case h_2=>simp at h
 rename_i a b
 simp only [Option.some.injEq,Prod.mk.injEq,Bool.and_eq_true,decide_eq_true_eq] at h
 obtain ⟨⟨ha,hb,hl⟩,rfl⟩:=h
 refine pure_of_out L0 at_rimeref02_minus c_minus (N:=10) (gs:=[]) ?_
 have:=k_minus a b
 rw [min_law ha hb hl] at this
 exact this
noncomputable def blB:Code:=match f_rimeref02_below.body with | some c=>(match bodiesOf 0 c with | [.loop b]=>b | _=>.skip) | none=>.skip
def blH (a b:Nat → Int):Heap:=[some (.ints .u32 8 1 (fun _ d=>a d)),some (.ints .u32 8 1 (fun _ d=>b d))]
def blV (p:(Nat → Int) × (Nat → Int)) (v:Int):St:=⟨tmOf [(2,.sc (.ptr 0 8 0 0 8)),(3,.sc (.ptr 1 8 0 0 8)),(5,.sc (.int .i64 v))] 24 0,blH p.1 p.2⟩
def blS (p:(Nat → Int) × (Nat → Int)) (k:Nat):St:=blV p (7 - (k:Int))
def blRd (s:St):Option ((Nat → Int) × (Nat → Int)):=match s.hp with
 | [some (.ints _ _ _ a),some (.ints _ _ _ b)]=>some (a 0,b 0)
 | _=>none
theorem bl_round (p:(Nat → Int) × (Nat → Int)) (v:Int):roundB pE [(7,true),(16,false)] 5 blB (blV p v) .normal (blV p (v - 1)) =
  some (ckL [decide (v ≥ 0) == true,inR v 8,inR v 8,(p.1 (0+v.toNat * 1) != p.2 (0+v.toNat * 1)) == false] && stB (blV p (wr .i64 (v - 1))) (blV p (v - 1))):=by kernel_rfl
theorem bl_same (p:(Nat → Int) × (Nat → Int)) (v:Int):stB (blV p v) (blV p v)=true:=by
 simp [stB,blV,blH,tmOf,tmB,avB,svB,hpB,blkB,eqF_refl,kEq]
def blT1 (p:(Nat → Int) × (Nat → Int)):St:=⟨tmOf [] 24 0,blH p.1 p.2⟩
def blT2 (p:(Nat → Int) × (Nat → Int)) (r:Bool):St:=⟨tmOf [(4,.sc (.bool r))] 24 0,blH p.1 p.2⟩
theorem bl_stop1 (p:(Nat → Int) × (Nat → Int)):roundB pE [] 5 blB (blV p (-1)) (.exit 0) (blT1 p)=some (true && stB (blT1 p) (blT1 p)):=by kernel_rfl
theorem bl_stop2 (p:(Nat → Int) × (Nat → Int)) (v:Int) (r:Bool):roundB pE [(7,true),(16,true)] 5 blB (blV p v) .ret (blT2 p r) =
  some (ckL [decide (v ≥ 0) == true,inR v 8,inR v 8,(p.1 (0+v.toNat * 1) != p.2 (0+v.toNat * 1)) == true,inR v 8,inR v 8] && stB (blT2 p (decide (p.1 (0+v.toNat * 1) < p.2 (0+v.toNat * 1)))) (blT2 p r)):=by kernel_rfl
def blF1:LF:=famF blRd blS (fun p=>Nat.beq (alike p.1 p.2 8 0) 8) (fun _=>.normal) blT1
def blF2:LF:=famF blRd blS (fun p=>Nat.ble (alike p.1 p.2 8 0+1) 8) (fun _=>.ret) (fun p=>blT2 p (decide (p.1 (7 - alike p.1 p.2 8 0) < p.2 (7 - alike p.1 p.2 8 0))))
theorem bl_body:f_rimeref02_below.body.map (bodiesOf 0)=some [.loop blB]:=by kernel_rfl
theorem bl_ok:codeOK prog pE.env.isW blB=true:=by kernel_rfl
theorem bl_rd {s:St} {p:(Nat → Int) × (Nat → Int)} (h:blRd s=some p):∃ k sz n f k' sz' n' g,s.hp=[some (.ints k sz n f),some (.ints k' sz' n' g)]:=by
 unfold blRd at h
 split at h
 ·rename_i hh; exact ⟨_,_,_,_,_,_,_,_,hh⟩
 ·simp at h
theorem bl_hp {s:St} {p:(Nat → Int) × (Nat → Int)} (h:blRd s=some p):(blS p 0).hp.length=s.hp.length ∧ ∀ (i:Nat) (t:Heap),s.hp[i]?=some none → t[i]?=some none:=by
 obtain ⟨k,sz,n,f,k',sz',n',g,hh⟩:=bl_rd h
 refine ⟨by rw [hh]; rfl,fun i t hi=>?_⟩
 rw [hh] at hi
 match i,hi with
 | 0,hi=>simp at hi
 | 1,hi=>simp at hi
 | n+2,hi=>simp at hi
theorem bl_step (p:(Nat → Int) × (Nat → Int)) (k:Nat) (hk:k < 8) (he:p.1 (7 - k)=p.2 (7 - k)):∃ s1,am pE.env 5 blB (blS p k)=some (.normal,s1) ∧ StLe s1 (blS p (k+1)):=by
 have e0:(7 - ((k+1:Nat):Int))=7 - (k:Int) - 1:=by omega
 unfold blS
 rw [e0]
 refine roundB_spec (bl_round p (7 - (k:Int))) ?_
 have e:wr .i64 (7 - (k:Int) - 1)=7 - (k:Int) - 1:=by
  show IntKind.i64.wrap _=_
  rw [IntKind.wrap_i64]; omega
 have et:0+(7 - (k:Int)).toNat * 1=7 - k:=by omega
 rw [e,bl_same,et,he]
 simp [ckL,inR]; omega
theorem l_bl1:LRow prog f_rimeref02_below 0 blF1:=by
 refine LRow.fam (N:=5) (L0.env []) mix (fun _=>8) (body_of bl_body) bl_ok (fun w0 own0=>accOK_none (fun id=>rfl) blB) (fun s a h=>⟨(bl_hp h).1,fun i hi=>(bl_hp h).2 i _ hi⟩) (fun _ _=>rfl) (fun _=>Nat.le_refl _) ?_ ?_
 ·intro p hp k hk
  have hp:=Nat.eq_of_beq_eq_true hp
  obtain ⟨h1,h2,h3,h4⟩:=alike_spec p.1 p.2 8 0
  exact bl_step p k hk (h3 k (Nat.zero_le _) (by omega))
 ·intro p hp
  obtain ⟨s1,h1,h2⟩:=roundB_spec (bl_stop1 p) (by simp [stB,blT1,blH,tmOf,tmB,avB,hpB,blkB,eqF_refl,kEq])
  exact ⟨_,s1,h1,rfl,h2⟩
theorem l_bl2:LRow prog f_rimeref02_below 0 blF2:=by
 refine LRow.fam (N:=5) (L0.env []) mix (fun p=>alike p.1 p.2 8 0) (body_of bl_body) bl_ok (fun w0 own0=>accOK_none (fun id=>rfl) blB) (fun s a h=>⟨(bl_hp h).1,fun i hi=>(bl_hp h).2 i _ hi⟩) (fun _ _=>rfl) (fun _=>Nat.le_refl _) ?_ ?_
 ·intro p hp k hk
  have hp:=Nat.le_of_ble_eq_true hp
  obtain ⟨h1,h2,h3,h4⟩:=alike_spec p.1 p.2 8 0
  exact bl_step p k (by omega) (h3 k (Nat.zero_le _) hk)
 ·intro p hp
  have hp:=Nat.le_of_ble_eq_true hp
  obtain ⟨h1,h2,h3,h4⟩:=alike_spec p.1 p.2 8 0
  have hne:=h4 (by omega)
  have et:0+(7 - ((alike p.1 p.2 8 0:Nat):Int)).toNat * 1=7 - alike p.1 p.2 8 0:=by omega
  obtain ⟨s1,q1,q2⟩:=roundB_spec (bl_stop2 p (7 - (alike p.1 p.2 8 0:Int)) (decide (p.1 (7 - alike p.1 p.2 8 0) < p.2 (7 - alike p.1 p.2 8 0)))) (by
   rw [et]
   have hs:stB (blT2 p (decide (p.1 (7 - alike p.1 p.2 8 0) < p.2 (7 - alike p.1 p.2 8 0)))) (blT2 p (decide (p.1 (7 - alike p.1 p.2 8 0) < p.2 (7 - alike p.1 p.2 8 0))))=true:=by
    simp [stB,blT2,blH,tmOf,tmB,avB,svB,hpB,blkB,eqF_refl,kEq]
   rw [hs]
   simp [ckL,inR,hne]; omega)
  exact ⟨_,s1,q1,rfl,q2⟩
def tBelow:TF:=fun args=>match args with
 | [.agg [.ints .u32 8 a],.agg [.ints .u32 8 b]]=>some (inW8 a && inW8 b,.sc (.bool (decide (val8 a < val8 b))))
 | _=>none
def blI (p:(Nat → Int) × (Nat → Int)):St:=⟨tmOf [(2,.sc (.ptr 0 8 0 0 8)),(3,.sc (.ptr 1 8 0 0 8)),(5,.sc (.int .i64 7))] 24 0,blH p.1 p.2⟩
theorem c_below1:fnChk prog (envL tt [] [] [(0,blF1)]) f_rimeref02_below=true:=by kernel_rfl
theorem c_below2:fnChk prog (envL tt [] [] [(0,blF2)]) f_rimeref02_below=true:=by kernel_rfl
theorem k_below1 (a b:Nat → Int):outP (apFunc (envL tt [] [] [(0,blF1)]) [] 5 f_rimeref02_below [u8w a,u8w b] []) =
  some (ckL [Nat.beq (alike a b 8 0) 8 && stB (blI (a,b)) (blS (a,b) 0)],.sc (.bool false)):=by kernel_rfl
theorem k_below2 (a b:Nat → Int):outP (apFunc (envL tt [] [] [(0,blF2)]) [] 5 f_rimeref02_below [u8w a,u8w b] []) =
  some (ckL [Nat.ble (alike a b 8 0+1) 8 && stB (blI (a,b)) (blS (a,b) 0)],.sc (.bool (decide (a (7 - alike a b 8 0) < b (7 - alike a b 8 0))))):=by kernel_rfl
theorem r_below:TRow prog F_rimeref02_below tBelow:=by
 intro args r h
 unfold tBelow at h
 split at h
 case h_2=>simp at h
 rename_i a b
 simp only [Option.some.injEq,Prod.mk.injEq,Bool.and_eq_true] at h
 obtain ⟨⟨ha,hb⟩,rfl⟩:=h
 obtain ⟨q1,q2⟩:=below_law ha hb
 have hs:stB (blI (a,b)) (blS (a,b) 0)=true:=bl_same (a,b) 7
 obtain ⟨h1,h2,_,_⟩:=alike_spec a b 8 0
 by_cases e:alike a b 8 0=8
 ·rw [q1 e]
  refine pure_of_outL L0 at_rimeref02_below (LsOK.nil.cons l_bl1) c_below1 (N:=5) (gs:=[]) ?_
  have:=k_below1 a b
  rw [e,hs] at this
  exact this
 ·rw [(q2 (by omega)).1]
  refine pure_of_outL L0 at_rimeref02_below (LsOK.nil.cons l_bl2) c_below2 (N:=5) (gs:=[]) ?_
  have:=k_below2 a b
  rw [hs,show Nat.ble (alike a b 8 0+1) 8=true from Nat.ble_eq_true_of_le (by omega)] at this
  exact this
def tOrder2:TF:=fun args=>match args with
 | []=>some (true,n8 ordL)
 | _=>none
theorem c_order2:fnChk prog pE f_rimeref02_Order=true:=by kernel_rfl
theorem r_order2:TRow prog F_rimeref02_Order tOrder2:=by
 intro args r h
 unfold tOrder2 at h
 split at h
 case h_2=>simp at h
 simp only [Option.some.injEq,Prod.mk.injEq,true_and] at h
 subst h
 exact pure_of_out L0 at_rimeref02_Order c_order2 (N:=5) (gs:=[]) (by kernel_rfl)
def rs1:List (Nat × TF):=[(F_rimeref02_Order,tOrder2),(F_rimeref02_below,tBelow),(F_rimeref02_minus,tMinus),(F_rimeref02_twice,tTwice)]
theorem R1:LibOK prog tt rs1 []:=(((L0.addT r_twice).addT r_minus).addT r_below).addT r_order2
end Go.Proofs.YtfpkegodflloiaaGreat
namespace Go.Proofs.YtfpkegodflloiaaGreat
open Go.Proofs.Tryz
open Go Go.AM
structure MA where
 t:Bool
 n:Nat
 f:Nat → Nat → Int
 i:Nat
 r:Int
noncomputable abbrev qE:EnvP:=envP tt rs1 []
noncomputable def miB:Code:=match f_rimeref02_mod.body with | some c=>(match bodiesOf 2 c with | [.loop b]=>b | _=>.skip) | none=>.skip
noncomputable def moB:Code:=match f_rimeref02_mod.body with | some c=>(match bodiesOf 0 c with | [.loop b]=>b | _=>.skip) | none=>.skip
def mdH (r:Int):Heap:=[some (.ints .u32 8 1 (fun _ _=>0)),some (.ints .u32 8 1 (fun _ d=>limbs8 r d)),some (.ints .u32 8 1 (fun _ d=>limbs8 ordL d))]
def mdW (a:MA) (iv v r:Int):St:=⟨tmOf [(0,.sc (.vints a.t .u32 1 a.n a.f)),(2,.sc (.ptr 0 8 0 0 8)),(3,.sc (.ptr 1 8 0 0 8)),(4,.sc (.ptr 2 8 0 0 8)),(5,.sc (.int .i64 iv)),(6,.sc (.int .i64 v))] 37 0,mdH r⟩
def mdV (a:MA) (v r:Int):St:=mdW a (a.i:Int) v r
def bitOf_mod (d v:Int):Int:=iand .u32 (ishr .u32 d (wr .u64 v)) 1
def twV (r b:Int):Int:=2 * val8 (limbs8 r)+b
def twCk (r b:Int):Bool:=inW8 (limbs8 r) && (decide (0 ≤ b) && (decide (b ≤ 1) && decide (val8 (limbs8 r) < ordL)))
theorem mi_round1 (a:MA) (v r:Int):roundB qE [(16,true),(32,false)] 5 miB (mdV a v r) .normal (mdV a (v - 1) (twV r (bitOf_mod (a.f (a.i:Int).toNat 0) v))) =
  some (ckL [decide (v ≥ 0) == true,inR a.i a.n,!decide (wr .u64 v < 0),twCk r (bitOf_mod (a.f (a.i:Int).toNat 0) v),inW8 (limbs8 (twV r (bitOf_mod (a.f (a.i:Int).toNat 0) v))) && inW8 (limbs8 ordL),
    (!decide (val8 (limbs8 (twV r (bitOf_mod (a.f (a.i:Int).toNat 0) v))) < val8 (limbs8 ordL))) == false] &&
   stB (mdV a (wr .i64 (v - 1)) (twV r (bitOf_mod (a.f (a.i:Int).toNat 0) v))) (mdV a (v - 1) (twV r (bitOf_mod (a.f (a.i:Int).toNat 0) v)))):=by kernel_rfl
theorem mi_round2 (a:MA) (v r:Int):roundB qE [(16,true),(32,true)] 5 miB (mdV a v r) .normal (mdV a (v - 1) (val8 (limbs8 (twV r (bitOf_mod (a.f (a.i:Int).toNat 0) v))) - val8 (limbs8 ordL))) =
  some (ckL [decide (v ≥ 0) == true,inR a.i a.n,!decide (wr .u64 v < 0),twCk r (bitOf_mod (a.f (a.i:Int).toNat 0) v),inW8 (limbs8 (twV r (bitOf_mod (a.f (a.i:Int).toNat 0) v))) && inW8 (limbs8 ordL),
    (!decide (val8 (limbs8 (twV r (bitOf_mod (a.f (a.i:Int).toNat 0) v))) < val8 (limbs8 ordL))) == true,
    inW8 (limbs8 (twV r (bitOf_mod (a.f (a.i:Int).toNat 0) v))) && (inW8 (limbs8 ordL) && decide (val8 (limbs8 ordL) ≤ val8 (limbs8 (twV r (bitOf_mod (a.f (a.i:Int).toNat 0) v)))))] &&
   stB (mdV a (wr .i64 (v - 1)) (val8 (limbs8 (twV r (bitOf_mod (a.f (a.i:Int).toNat 0) v))) - val8 (limbs8 ordL))) (mdV a (v - 1) (val8 (limbs8 (twV r (bitOf_mod (a.f (a.i:Int).toNat 0) v))) - val8 (limbs8 ordL)))):=by kernel_rfl
theorem md_same (a:MA) (v r:Int):stB (mdV a v r) (mdV a v r)=true:=by
 simp [stB,mdV,mdW,mdH,tmOf,tmB,avB,svB,hpB,blkB,eqF_refl,kEq]
def miT (a:MA) (r:Int):St:=⟨tmOf [(0,.sc (.vints a.t .u32 1 a.n a.f)),(2,.sc (.ptr 0 8 0 0 8)),(3,.sc (.ptr 1 8 0 0 8)),(4,.sc (.ptr 2 8 0 0 8)),(5,.sc (.int .i64 (a.i:Int)))] 37 0,mdH r⟩
theorem mi_stop (a:MA) (r:Int):roundB qE [] 5 miB (mdV a (-1) r) (.exit 2) (miT a r)=some (true && stB (miT a r) (miT a r)):=by kernel_rfl
theorem miT_same (a:MA) (r:Int):stB (miT a r) (miT a r)=true:=by
 simp [stB,miT,mdH,tmOf,tmB,avB,svB,hpB,blkB,eqF_refl,kEq]
def miD (a:MA):Int:=a.f a.i 0
def miS (a:MA) (k:Nat):St:=mdV a (31 - (k:Int)) (rK a.r (miD a) k)
def miRd (s:St):Option MA:=match getA s.tm 0,getA s.tm 5,s.hp with
 | .sc (.vints t _ _ n f),.sc (.int _ i),[some (.ints ..),some (.ints _ _ _ g),some (.ints ..)]=>some ⟨t,n,f,i.toNat,val8 (g 0)⟩
 | _,_,_=>none
def miCk (a:MA):Bool:=Nat.ble (a.i+1) a.n && (in32 (miD a) && (decide (0 ≤ a.r) && decide (a.r < ordL)))
def miF:LF:=famF miRd miS miCk (fun _=>.normal) (fun a=>miT a (rK a.r (miD a) 32))
theorem mi_body:f_rimeref02_mod.body.map (bodiesOf 2)=some [.loop miB]:=by kernel_rfl
theorem mi_ok:codeOK prog qE.env.isW miB=true:=by kernel_rfl
theorem mi_hp {s:St} {a:MA} (h:miRd s=some a):s.hp.length=3 ∧ ∀ (i:Nat) (t:Heap),s.hp[i]?=some none → t[i]?=some none:=by
 unfold miRd at h
 split at h
 ·rename_i hh
  rw [hh]
  refine ⟨rfl,fun i t hi=>?_⟩
  match i,hi with
  | 0,hi=>simp at hi
  | 1,hi=>simp at hi
  | 2,hi=>simp at hi
  | n+3,hi=>simp at hi
 ·simp at h
theorem ordL_in:inW8 (limbs8 ordL)=true:=inW8_limbs _
theorem ordL_val:val8 (limbs8 ordL)=ordL:=val8_limbs (by decide) (by decide)
theorem mi_step (a:MA) (ha:miCk a=true) (k:Nat) (hk:k < 32):∃ s1,am qE.env 5 miB (miS a k)=some (.normal,s1) ∧ StLe s1 (miS a (k+1)):=by
 simp only [miCk,Bool.and_eq_true,decide_eq_true_eq] at ha
 obtain ⟨h1,h2,h3,h4⟩:=ha
 have h1:=Nat.le_of_ble_eq_true h1
 have hd:=in32_t h2
 obtain ⟨q1,q2⟩:=rK_range ⟨h3,h4⟩ (miD a) k
 have hb:bitOf_mod (a.f (a.i:Int).toNat 0) (31 - (k:Int))=miD a / 2 ^ (31 - k) % 2:=by
  unfold bitOf_mod
  rw [Int.toNat_natCast]
  exact bit_law hd hk
 have hnext:rK a.r (miD a) (k+1)=(2 * rK a.r (miD a) k+miD a / 2 ^ (31 - k) % 2) % ordL:=rfl
 have ev:(31 - ((k+1:Nat):Int))=31 - (k:Int) - 1:=by omega
 have ew:wr .i64 (31 - (k:Int) - 1)=31 - (k:Int) - 1:=by
  show IntKind.i64.wrap _=_
  rw [IntKind.wrap_i64]; omega
 have eu:(decide (wr .u64 (31 - (k:Int)) < 0))=false:=by rw [wr64]; simp; omega
 have hbit:0 ≤ miD a / 2 ^ (31 - k) % 2 ∧ miD a / 2 ^ (31 - k) % 2 ≤ 1:=by omega
 unfold miS
 rw [hnext,ev]
 generalize hr:rK a.r (miD a) k=r at *
 have hv:val8 (limbs8 r)=r:=val8_limbs q1 (by unfold ordL R256 at *; omega)
 have htw:twV r (miD a / 2 ^ (31 - k) % 2)=2 * r+miD a / 2 ^ (31 - k) % 2:=by unfold twV; rw [hv]
 have hck:twCk r (miD a / 2 ^ (31 - k) % 2)=true:=by
  unfold twCk
  rw [hv,inW8_limbs]
  simp [hbit,q2]
 generalize miD a / 2 ^ (31 - k) % 2=b at *
 have hv2:val8 (limbs8 (2 * r+b))=2 * r+b:=val8_limbs (by omega) (by unfold ordL R256 at *; omega)
 have hir:inR (a.i:Int) a.n=true:=inR_nat (by omega)
 by_cases e:2 * r+b < ordL
 ·have e2:(2 * r+b) % ordL=2 * r+b:=Int.emod_eq_of_lt (by omega) e
  rw [e2]
  have hR:=mi_round1 a (31 - (k:Int)) r
  rw [hb,htw] at hR
  refine roundB_spec hR ?_
  rw [ew,md_same,hck,hir,eu,inW8_limbs,ordL_in,hv2,ordL_val]
  simp [ckL,e]; omega
 ·have e2:(2 * r+b) % ordL=2 * r+b - ordL:=by unfold ordL at *; omega
  rw [e2]
  have hR:=mi_round2 a (31 - (k:Int)) r
  rw [hb,htw,hv2,ordL_val] at hR
  refine roundB_spec hR ?_
  rw [ew,md_same,hck,hir,eu,inW8_limbs,ordL_in]
  have e3:ordL ≤ 2 * r+b:=by omega
  simp [ckL,e,e3]; omega
theorem mdH_len (r:Int):(mdH r).length=3:=rfl
theorem l_mi:LRow prog f_rimeref02_mod 2 miF:=by
 refine LRow.fam (N:=5) (R1.env []) mix (fun _=>32) (body_of mi_body) mi_ok (fun w0 own0=>accOK_none (fun id=>rfl) miB) (fun s a h=>⟨by rw [(mi_hp h).1]; exact mdH_len _,fun i hi=>(mi_hp h).2 i _ hi⟩) (fun a k=>(mdH_len _).trans (mdH_len _).symm) (fun a=>Nat.le_of_eq ((mdH_len _).trans (mdH_len _).symm)) (fun a ha k hk=>mi_step a ha k hk) ?_
 intro a ha
 obtain ⟨s1,h1,h2⟩:=roundB_spec (mi_stop a (rK a.r (miD a) 32)) (by rw [miT_same]; rfl)
 exact ⟨_,s1,h1,rfl,h2⟩
noncomputable abbrev oE:EnvP:=envL tt rs1 [] [(2,miF)]
def moV (a:MA) (v r:Int):St:=⟨tmOf [(0,.sc (.vints a.t .u32 1 a.n a.f)),(2,.sc (.ptr 0 8 0 0 8)),(3,.sc (.ptr 1 8 0 0 8)),(4,.sc (.ptr 2 8 0 0 8)),(5,.sc (.int .i64 v))] 37 0,mdH r⟩
def moIn (a:MA) (v r:Int):MA:=⟨a.t,a.n,a.f,v.toNat,val8 (limbs8 r)⟩
theorem mo_round (a:MA) (v r:Int):roundB oE [(12,true)] 5 moB (moV a v r) .normal (moV a (v - 1) (rK (val8 (limbs8 r)) (a.f v.toNat 0) 32)) =
  some (ckL [decide (v ≥ 0) == true,miCk (moIn a v r) && stB (mdW a v 31 r) (miS (moIn a v r) 0)] && stB (moV a (wr .i64 ((v.toNat:Int) - 1)) (rK (val8 (limbs8 r)) (a.f v.toNat 0) 32)) (moV a (v - 1) (rK (val8 (limbs8 r)) (a.f v.toNat 0) 32))):=by kernel_rfl
def moT (a:MA) (r:Int):St:=⟨tmOf [(2,.sc (.ptr 0 8 0 0 8)),(3,.sc (.ptr 1 8 0 0 8))] 37 0,mdH r⟩
theorem mo_stop (a:MA) (r:Int):roundB oE [] 5 moB (moV a (-1) r) (.exit 0) (moT a r)=some (true && stB (moT a r) (moT a r)):=by kernel_rfl
theorem mo_inner:bodiesOf 2 moB=[.loop miB]:=by kernel_rfl
theorem mo_acc:∀ w0 own0,accOK prog oE.env w0 own0 moB:=by
 intro w0 own0
 refine accOK_of moB fun id F hF b hb=>?_
 have h2:id=2 ∧ F=fun s=>dropB (miF s):=by
  by_cases e:id=2
  ·subst e
   refine ⟨rfl,?_⟩
   have:oE.env.L 2=some (fun s=>dropB (miF s)):=rfl
   rw [this] at hF
   exact (Option.some.inj hF).symm
  ·have:getL [(2,miF)] id=none:=by
    simp only [getL]
    cases hb2:Nat.beq 2 id with
    | true=>exact absurd (Nat.eq_of_beq_eq_true hb2).symm e
    | false=>rfl
   have h3:oE.env.L id=none:=by
    show (match getL [(2,miF)] id with | some F=>some (fun s=>dropB (F s)) | none=>none)=none
    rw [this]
   rw [h3] at hF; cases hF
 obtain ⟨rfl,rfl⟩:=h2
 rw [mo_inner] at hb
 have hc:=mi_body
 cases hcc:f_rimeref02_mod.body with
 | none=>rw [hcc] at hc; simp at hc
 | some c =>
  rw [hcc] at hc
  simp only [Option.map_some,Option.some.injEq] at hc
  exact l_mi.1 c hcc b (by rw [hc]; exact hb) w0 own0
def moS (a:MA) (k:Nat):St:=moV a ((a.n:Int) - 1 - (k:Int)) (dmod a.f a.n k)
def moRd (s:St):Option MA:=match getA s.tm 0,s.hp with
 | .sc (.vints t _ _ n f),[some (.ints ..),some (.ints ..),some (.ints ..)]=>some ⟨t,n,f,0,0⟩
 | _,_=>none
def all32 (f:Nat → Nat → Int) (n:Nat):Bool:=(List.range n).all fun j=>in32 (f j 0)
theorem all32_t {f:Nat → Nat → Int} {n:Nat} (h:all32 f n=true):∀ j,j < n → W32 (f j 0):=fun j hj=>by
 simp only [all32,List.all_eq_true,List.mem_range] at h
 exact in32_t (h j hj)
def moCk (a:MA):Bool:=big a.n && all32 a.f a.n
def moF:LF:=famF moRd moS moCk (fun _=>.normal) (fun a=>moT a (dmod a.f a.n a.n))
theorem mo_body:f_rimeref02_mod.body.map (bodiesOf 0)=some [.loop moB]:=by kernel_rfl
theorem mo_ok:codeOK prog oE.env.isW moB=true:=by kernel_rfl
theorem mo_hp {s:St} {a:MA} (h:moRd s=some a):s.hp.length=3 ∧ ∀ (i:Nat) (t:Heap),s.hp[i]?=some none → t[i]?=some none:=by
 unfold moRd at h
 split at h
 ·rename_i hh
  rw [hh]
  refine ⟨rfl,fun i t hi=>?_⟩
  match i,hi with
  | 0,hi=>simp at hi
  | 1,hi=>simp at hi
  | 2,hi=>simp at hi
  | n+3,hi=>simp at hi
 ·simp at h
theorem mo_same (a:MA) (v r:Int):stB (moV a v r) (moV a v r)=true:=by
 simp [stB,moV,mdH,tmOf,tmB,avB,svB,hpB,blkB,eqF_refl,kEq]
theorem moT_same (a:MA) (r:Int):stB (moT a r) (moT a r)=true:=by
 simp [stB,moT,mdH,tmOf,tmB,avB,svB,hpB,blkB,eqF_refl,kEq]
theorem mo_step (a:MA) (ha:moCk a=true) (k:Nat) (hk:k < a.n):∃ s1,am oE.env 5 moB (moS a k)=some (.normal,s1) ∧ StLe s1 (moS a (k+1)):=by
 simp only [moCk,Bool.and_eq_true] at ha
 obtain ⟨hbig,hall⟩:=ha
 have hb:a.n ≤ 4611686018427387904:=Nat.le_of_ble_eq_true hbig
 have hW:=all32_t hall
 obtain ⟨q1,q2⟩:=dmod_range a.f a.n k
 have hnext:dmod a.f a.n (k+1)=rK (dmod a.f a.n k) (a.f (a.n - 1 - k) 0) 32:=rfl
 have ev:((a.n:Int) - 1 - ((k+1:Nat):Int))=(a.n:Int) - 1 - (k:Int) - 1:=by omega
 unfold moS
 rw [hnext,ev]
 generalize hr:dmod a.f a.n k=r at *
 have hv:val8 (limbs8 r)=r:=val8_limbs q1 (by unfold ordL R256 at *; omega)
 have et:((a.n:Int) - 1 - (k:Int)).toNat=a.n - 1 - k:=by omega
 have hR:=mo_round a ((a.n:Int) - 1 - (k:Int)) r
 rw [et,hv] at hR
 refine roundB_spec hR ?_
 have ec:(((a.n - 1 - k:Nat):Int))=(a.n:Int) - 1 - (k:Int):=by omega
 have ew:wr .i64 ((a.n:Int) - 1 - (k:Int) - 1)=(a.n:Int) - 1 - (k:Int) - 1:=by
  show IntKind.i64.wrap _=_
  rw [IntKind.wrap_i64]; omega
 have hin:moIn a ((a.n:Int) - 1 - (k:Int)) r=⟨a.t,a.n,a.f,a.n - 1 - k,r⟩:=by unfold moIn; rw [et,hv]
 rw [hin]
 have hs:stB (mdW a ((a.n:Int) - 1 - (k:Int)) 31 r) (miS ⟨a.t,a.n,a.f,a.n - 1 - k,r⟩ 0)=true:=by
  have:miS ⟨a.t,a.n,a.f,a.n - 1 - k,r⟩ 0=mdV ⟨a.t,a.n,a.f,a.n - 1 - k,r⟩ 31 r:=rfl
  rw [this]
  have h2:=md_same ⟨a.t,a.n,a.f,a.n - 1 - k,r⟩ 31 r
  have h3:mdV ⟨a.t,a.n,a.f,a.n - 1 - k,r⟩ 31 r=mdW a ((a.n:Int) - 1 - (k:Int)) 31 r:=by
   show mdW ⟨a.t,a.n,a.f,a.n - 1 - k,r⟩ ((a.n - 1 - k:Nat):Int) 31 r=_
   rw [ec]; rfl
  rw [h3] at h2 ⊢
  exact h2
 have hck:miCk ⟨a.t,a.n,a.f,a.n - 1 - k,r⟩=true:=by
  simp only [miCk,miD,Bool.and_eq_true,decide_eq_true_eq]
  exact ⟨Nat.ble_eq_true_of_le (by omega),in32_of (hW _ (by omega)),q1,q2⟩
 rw [hs,hck,ec,ew,mo_same]
 simp [ckL]; omega
theorem l_mo:LRow prog f_rimeref02_mod 0 moF:=by
 refine LRow.fam (N:=5) (R1.env _) mix (fun a=>a.n) (body_of mo_body) mo_ok mo_acc (fun s a h=>⟨by rw [(mo_hp h).1]; exact mdH_len _,fun i hi=>(mo_hp h).2 i _ hi⟩) (fun a k=>(mdH_len _).trans (mdH_len _).symm) (fun a=>Nat.le_of_eq ((mdH_len _).trans (mdH_len _).symm)) (fun a ha k hk=>mo_step a ha k hk) ?_
 intro a ha
 have e:moS a a.n=moV a (-1) (dmod a.f a.n a.n):=by
  unfold moS
  rw [show (a.n:Int) - 1 - (a.n:Int)=-1 by omega]
 rw [e]
 obtain ⟨s1,h1,h2⟩:=roundB_spec (mo_stop a (dmod a.f a.n a.n)) (by rw [moT_same]; rfl)
 exact ⟨_,s1,h1,rfl,h2⟩
def tMod:TF:=fun args=>match args with
 | [.sc (.vints _ .u32 1 n f)]=>some (big n && all32 f n,n8 (dval f n n % ordL))
 | _=>none
def moI (t:Bool) (n:Nat) (f:Nat → Nat → Int):St:=⟨tmOf [(0,.sc (.vints t .u32 1 n f)),(2,.sc (.ptr 0 8 0 0 8)),(3,.sc (.ptr 1 8 0 0 8)),(4,.sc (.ptr 2 8 0 0 8)),(5,.sc (.int .i64 (wr .i64 ((n:Int) - 1))))] 37 0,[some (.ints .u32 8 1 (fun _ _=>0)),some (.ints .u32 8 1 (fun _ _=>0)),some (.ints .u32 8 1 (fun _ d=>limbs8 ordL d))]⟩
theorem c_mod:fnChk prog (envL tt rs1 [] [(0,moF)]) f_rimeref02_mod=true:=by kernel_rfl
theorem k_mod (t:Bool) (n:Nat) (f:Nat → Nat → Int):outP (apFunc (envL tt rs1 [] [(0,moF)]) [] 5 f_rimeref02_mod [.sc (.vints t .u32 1 n f)] []) =
  some (ckL [moCk ⟨t,n,f,0,0⟩ && stB (moI t n f) (moS ⟨t,n,f,0,0⟩ 0)],n8 (dmod f n n)):=by kernel_rfl
theorem r_mod:TRow prog F_rimeref02_mod tMod:=by
 intro args r h
 unfold tMod at h
 split at h
 case h_2=>simp at h
 rename_i t n f
 simp only [Option.some.injEq,Prod.mk.injEq] at h
 obtain ⟨hb,rfl⟩:=h
 refine pure_of_outL R1 at_rimeref02_mod (LsOK.nil.cons l_mo) c_mod (N:=5) (gs:=[]) ?_
 have hb2:=hb
 simp only [Bool.and_eq_true] at hb2
 have hn:n ≤ 4611686018427387904:=Nat.le_of_ble_eq_true hb2.1
 have e1:wr .i64 ((n:Int) - 1)=(n:Int) - 1 - ((0:Nat):Int):=by
  show IntKind.i64.wrap _=_
  rw [IntKind.wrap_i64]; omega
 have hs:stB (moI t n f) (moS ⟨t,n,f,0,0⟩ 0)=true:=by
  have h0:eqF 1 8 (fun _ _=>0) (fun _ d=>limbs8 0 d)=true:=by decide
  have hm:moS ⟨t,n,f,0,0⟩ 0=moV ⟨t,n,f,0,0⟩ ((n:Int) - 1 - ((0:Nat):Int)) 0:=rfl
  rw [hm]
  simp only [moI,e1]
  simp [stB,moV,mdH,tmOf,tmB,avB,svB,hpB,blkB,eqF_refl,kEq,h0]
 rw [k_mod,hs,dmod_eq (all32_t hb2.2) n (Nat.le_refl _)]
 have:moCk ⟨t,n,f,0,0⟩=true:=hb
 rw [this]; rfl
end Go.Proofs.YtfpkegodflloiaaGreat
namespace Go.Proofs.YtfpkegodflloiaaGreat
open Go.Proofs.Tryz
open Go Go.AM
structure DA where
 t:Bool
 n:Nat
 f:Nat → Nat → Int
 m:Nat
noncomputable def dgB:Code:=match f_rimeref02_digits.body with | some c=>(match bodiesOf 0 c with | [.loop b]=>b | _=>.skip) | none=>.skip
def dgW (a:DA) (v:Int) (D:Nat → Nat → Int):St:=⟨tmOf [(0,.sc (.vints a.t .u8 1 a.n a.f)),(3,.sc (.slice 0 1 0 0 1 a.m)),(4,.sc (.int .i64 v))] 37 0,[some (.ints .u32 1 a.m D)]⟩
def dgQ (v:Int):Int:=wr .i64 (v.tdiv 4)
def dgSh (v:Int):Int:=wr .u64 (wr .i64 (8 * v.tmod 4))
def dgVal (a:DA) (v:Int) (D:Nat → Nat → Int):Int:=ior .u32 (D (0+(dgQ v).toNat) 0) (ishl .u32 (wr .u32 (a.f v.toNat 0)) (dgSh v))
theorem dg_round (a:DA) (v v':Int) (D D':Nat → Nat → Int):roundB pE [(13,true)] 5 dgB (dgW a v D) .normal (dgW a v' D') =
  some (ckL [decide (v < (a.n:Int)) == true,inR (dgQ v) a.m,inR v a.n,!decide (dgSh v < 0),inR (dgQ v) a.m] &&
   stB (dgW a (wr .i64 (v+1)) (fun r d=>bif Nat.beq r (0+(dgQ v).toNat) && Nat.beq d 0 then dgVal a v D else D r d)) (dgW a v' D')):=by kernel_rfl
theorem dg_same (a:DA) (v:Int) {D D':Nat → Nat → Int} (h:eqF a.m 1 D D'=true):stB (dgW a v D) (dgW a v D')=true:=by
 simp [stB,dgW,tmOf,tmB,avB,svB,hpB,blkB,eqF_refl,kEq,h]
def dgT (a:DA) (D:Nat → Nat → Int):St:=⟨tmOf [(3,.sc (.slice 0 1 0 0 1 a.m))] 37 0,[some (.ints .u32 1 a.m D)]⟩
theorem dg_stop (a:DA) (v:Int) (D:Nat → Nat → Int):roundB pE [(13,false)] 5 dgB (dgW a v D) (.exit 0) (dgT a D)=some (ckL [decide (v < (a.n:Int)) == false] && stB (dgT a D) (dgT a D)):=by kernel_rfl
theorem dgT_same (a:DA) (D:Nat → Nat → Int):stB (dgT a D) (dgT a D)=true:=by
 simp [stB,dgT,tmOf,tmB,avB,svB,hpB,blkB,eqF_refl,kEq]
def dgS (a:DA) (k:Nat):St:=dgW a (k:Int) (fun r _=>dK (fun j=>a.f j 0) k r)
def dgRd (s:St):Option DA:=match getA s.tm 0,s.hp with
 | .sc (.vints t _ _ n f),[some (.ints _ _ m _)]=>some ⟨t,n,f,m⟩
 | _,_=>none
def dgCk (a:DA):Bool:=big a.n && (areB (fun j=>a.f j 0) a.n 0 && Nat.beq a.m ((a.n+3) / 4))
def dgF:LF:=famF dgRd dgS dgCk (fun _=>.normal) (fun a=>dgT a (fun r _=>dK (fun j=>a.f j 0) a.n r))
theorem dg_body:f_rimeref02_digits.body.map (bodiesOf 0)=some [.loop dgB]:=by kernel_rfl
theorem dg_ok:codeOK prog pE.env.isW dgB=true:=by kernel_rfl
theorem dg_hp {s:St} {a:DA} (h:dgRd s=some a):s.hp.length=1 ∧ ∀ (i:Nat) (t:Heap),s.hp[i]?=some none → t[i]?=some none:=by
 unfold dgRd at h
 split at h
 ·rename_i hh
  rw [hh]
  refine ⟨rfl,fun i t hi=>?_⟩
  match i,hi with
  | 0,hi=>simp at hi
  | n+1,hi=>simp at hi
 ·simp at h
theorem dg_step (a:DA) (ha:dgCk a=true) (k:Nat) (hk:k < a.n):∃ s1,am pE.env 5 dgB (dgS a k)=some (.normal,s1) ∧ StLe s1 (dgS a (k+1)):=by
 simp only [dgCk,Bool.and_eq_true] at ha
 obtain ⟨h1,h2,h3⟩:=ha
 have hn:a.n ≤ 4611686018427387904:=Nat.le_of_ble_eq_true h1
 have hm:=Nat.eq_of_beq_eq_true h3
 have ew:wr .i64 ((k:Int)+1)=((k+1:Nat):Int):=by rw [wr_small (by omega) (by omega)]; rfl
 have ed:((k:Int).tdiv 4)=((k / 4:Nat):Int):=by rw [Int.tdiv_eq_ediv_of_nonneg (by omega)]; omega
 have em:((k:Int).tmod 4)=((k % 4:Nat):Int):=by rw [Int.tmod_eq_emod_of_nonneg (by omega)]; omega
 have eq:dgQ (k:Int)=((k / 4:Nat):Int):=by unfold dgQ; rw [ed,wr_small (by omega) (by omega)]
 have es:dgSh (k:Int)=((8 * (k % 4):Nat):Int):=by
  unfold dgSh
  rw [em,wr_small (by omega) (by omega),wr64]; omega
 refine roundB_spec (dg_round a (k:Int) ((k+1:Nat):Int) _ (fun r _=>dK (fun j=>a.f j 0) (k+1) r)) ?_
 have hstep:=(dK_step h2 hk).1
 have hF:eqF a.m 1 (fun r d=>bif Nat.beq r (0+(dgQ (k:Int)).toNat) && Nat.beq d 0 then dgVal a (k:Int) (fun r _=>dK (fun j=>a.f j 0) k r) else dK (fun j=>a.f j 0) k r) (fun r _=>dK (fun j=>a.f j 0) (k+1) r)=true:=by
  refine eqF_of fun r hr d hd=>?_
  obtain rfl:d=0:=by omega
  rw [eq,Int.toNat_natCast,Nat.zero_add]
  by_cases e:r=k / 4
  ·subst e
   have hbb:Nat.beq (k / 4) (k / 4)=true:=beq_t.2 rfl
   have h00:Nat.beq 0 0=true:=rfl
   rw [hbb,h00,Bool.and_self,cond_true,hstep]
   unfold dgVal
   rw [eq,es,Int.toNat_natCast,Int.toNat_natCast,Nat.zero_add]
  ·have:Nat.beq r (k / 4)=false:=by cases hb:Nat.beq r (k / 4) with | false=>rfl | true=>exact absurd (Nat.eq_of_beq_eq_true hb) e
   rw [this]
   simp only [Bool.false_and,cond_false]
   exact (dK_other e).symm
 rw [ew,dg_same a _ hF,eq,es]
 have hq:k / 4 < a.m:=by omega
 have eN:(decide (((8 * (k % 4):Nat):Int) < 0))=false:=by simp; omega
 have e1:inR (((k / 4:Nat)):Int) a.m=true:=inR_nat hq
 rw [eN,e1,inR_nat hk]
 simp [ckL]; omega
theorem l_dg:LRow prog f_rimeref02_digits 0 dgF:=by
 refine LRow.fam (N:=5) (L0.env []) mix (fun a=>a.n) (body_of dg_body) dg_ok (fun w0 own0=>accOK_none (fun id=>rfl) dgB) (fun s a h=>⟨by rw [(dg_hp h).1]; rfl,fun i hi=>(dg_hp h).2 i _ hi⟩) (fun _ _=>rfl) (fun _=>Nat.le_refl _) (fun a ha k hk=>dg_step a ha k hk) ?_
 intro a ha
 obtain ⟨s1,h1,h2⟩:=roundB_spec (dg_stop a (a.n:Int) (fun r _=>dK (fun j=>a.f j 0) a.n r)) (by rw [dgT_same]; simp [ckL])
 exact ⟨_,s1,h1,rfl,h2⟩
def tDigits:TF:=fun args=>match args with
 | [.sc (.vints _ .u8 1 n f)]=>some (Nat.ble n 1099511627776 && areB (fun j=>f j 0) n 0,.sc (.vints true .u32 1 ((n+3) / 4) (fun j _=>dK (fun j=>f j 0) n (0+j))))
 | _=>none
def dgM (n:Nat):Int:=wr .i64 ((wr .i64 ((n:Int)+3)).tdiv 4)
def dgI (t:Bool) (n:Nat) (f:Nat → Nat → Int):St:=⟨tmOf [(0,.sc (.vints t .u8 1 n f)),(3,.sc (.slice 0 1 0 0 1 (dgM n).toNat)),(4,.sc (.int .i64 0))] 37 0,[some (.ints .u32 1 (dgM n).toNat (fun _ _=>0))]⟩
theorem c_digits:fnChk prog (envL tt [] [] [(0,dgF)]) f_rimeref02_digits=true:=by kernel_rfl
theorem k_digits (t:Bool) (n:Nat) (f:Nat → Nat → Int):outP (apFunc (envL tt [] [] [(0,dgF)]) [] 5 f_rimeref02_digits [.sc (.vints t .u8 1 n f)] []) =
  some (ckL [inB (dgM n) (dgM n) && fits (dgM n).toNat 4,dgCk ⟨t,n,f,(dgM n).toNat⟩ && stB (dgI t n f) (dgS ⟨t,n,f,(dgM n).toNat⟩ 0)],.sc (.vints true .u32 1 (dgM n).toNat (fun j _=>dK (fun j=>f j 0) n (0+j)))):=by kernel_rfl
theorem r_digits:TRow prog F_rimeref02_digits tDigits:=by
 intro args r h
 unfold tDigits at h
 split at h
 case h_2=>simp at h
 rename_i t n f
 simp only [Option.some.injEq,Prod.mk.injEq,Bool.and_eq_true] at h
 obtain ⟨⟨hb,ha⟩,rfl⟩:=h
 have hn:n ≤ 1099511627776:=Nat.le_of_ble_eq_true hb
 refine pure_of_outL L0 at_rimeref02_digits (LsOK.nil.cons l_dg) c_digits (N:=5) (gs:=[]) ?_
 have eM:dgM n=(((n+3) / 4:Nat):Int):=by
  unfold dgM
  rw [wr_small (x:=(n:Int)+3) (by omega) (by omega),Int.tdiv_eq_ediv_of_nonneg (by omega),wr_small (by omega) (by omega)]; omega
 have h0:eqF ((n+3) / 4) 1 (fun _ _=>(0:Int)) (fun r _=>dK (fun j=>f j 0) 0 r)=true:=eqF_of fun r _ d _=>by
  unfold dK
  rw [hval_zero (n:=4) fun i hi=>by unfold cutB; rw [if_neg (by omega)]]
 have hs:stB (dgI t n f) (dgS ⟨t,n,f,(dgM n).toNat⟩ 0)=true:=by
  unfold dgI dgS
  rw [eM,Int.toNat_natCast]
  simp [stB,dgW,tmOf,tmB,avB,svB,hpB,blkB,eqF_refl,kEq,h0]
 have hc:dgCk ⟨t,n,f,(dgM n).toNat⟩=true:=by
  simp only [dgCk,Bool.and_eq_true]
  rw [eM,Int.toNat_natCast]
  exact ⟨Nat.ble_eq_true_of_le (by omega),ha,beq_t.2 rfl⟩
 have hi:(inB (dgM n) (dgM n) && fits (dgM n).toNat 4)=true:=by
  rw [eM,Int.toNat_natCast]
  simp [inB,fits]; omega
 rw [k_digits,hs,hc,hi,eM,Int.toNat_natCast]; rfl
def rs2:List (Nat × TF):=(F_rimeref02_digits,tDigits) :: (F_rimeref02_mod,tMod) :: rs1
theorem R2:LibOK prog tt rs2 []:=(R1.addT r_mod).addT r_digits
def tBack8:TF:=fun args=>match args with
 | [.agg [.ints .u32 8 a]]=>some (inW8 a,b32 (val8 a))
 | _=>none
theorem c_back8:fnChk prog (envP tt rs2 []) f_rimeref02_Back=true:=by kernel_rfl
theorem k_back8 (a:Nat → Int):outP (apFunc (envP tt rs2 []) [] 40 f_rimeref02_Back [u8w a] [])=some (true,u8s 32 (lf (back8 a))):=by kernel_rfl
theorem r_back8:TRow prog F_rimeref02_Back tBack8:=by
 intro args r h
 unfold tBack8 at h
 split at h
 case h_2=>simp at h
 rename_i a
 simp only [Option.some.injEq,Prod.mk.injEq] at h
 obtain ⟨ha,rfl⟩:=h
 refine pure_of_out R2 at_rimeref02_Back c_back8 (N:=40) (gs:=[]) ?_
 have hr:=val8_range ha
 have e:back8 a=byL 32 (val8 a):=by
  rw [← back8_law hr.1 hr.2,← limbs8_self ha]; rfl
 rw [← show u8s 32 (lf (back8 a))=b32 (val8 a) by unfold b32; rw [e]]
 exact k_back8 a
def tReduce2:TF:=fun args=>match args with
 | [.sc (.vints _ .u8 1 n f)]=>some (Nat.ble n 1099511627776 && areB (fun j=>f j 0) n 0,b32 (hval (fun j=>f j 0) n 0 % ordL))
 | _=>none
def rs3:List (Nat × TF):=(F_rimeref02_Back,tBack8) :: rs2
theorem R3:LibOK prog tt rs3 []:=R2.addT r_back8
theorem c_reduce2:fnChk prog (envP tt rs3 []) f_rimeref02_Reduce=true:=by kernel_rfl
def dgs (n:Nat) (f:Nat → Nat → Int):Nat → Nat → Int:=fun j _=>dK (fun j=>f j 0) n (0+j)
theorem k_reduce2 (t:Bool) (n:Nat) (f:Nat → Nat → Int):outP (apFunc (envP tt rs3 []) [] 5 f_rimeref02_Reduce [.sc (.vints t .u8 1 n f)] []) =
  some (ckL [Nat.ble n 1099511627776 && areB (fun j=>f j 0) n 0,big ((n+3) / 4) && all32 (dgs n f) ((n+3) / 4),inW8 (limbs8 (dval (dgs n f) ((n+3) / 4) ((n+3) / 4) % ordL))],
   b32 (val8 (limbs8 (dval (dgs n f) ((n+3) / 4) ((n+3) / 4) % ordL)))):=by kernel_rfl
theorem dgs_law {n:Nat} {f:Nat → Nat → Int} (ha:areB (fun j=>f j 0) n 0=true):all32 (dgs n f) ((n+3) / 4)=true ∧ dval (dgs n f) ((n+3) / 4) ((n+3) / 4)=hval (fun j=>f j 0) n 0:=by
 refine ⟨?_,dval_all (fun j=>f j 0) (by omega)⟩
 simp only [all32,List.all_eq_true,List.mem_range]
 exact fun j _=>in32_of (dK_W ha (0+j))
theorem r_reduce2:TRow prog F_rimeref02_Reduce tReduce2:=by
 intro args r h
 unfold tReduce2 at h
 split at h
 case h_2=>simp at h
 rename_i t n f
 simp only [Option.some.injEq,Prod.mk.injEq,Bool.and_eq_true] at h
 obtain ⟨⟨hb,ha⟩,rfl⟩:=h
 refine pure_of_out R3 at_rimeref02_Reduce c_reduce2 (N:=5) (gs:=[]) ?_
 obtain ⟨e1,e2⟩:=dgs_law ha
 have hn:n ≤ 1099511627776:=Nat.le_of_ble_eq_true hb
 have hm:=modL_range (hval (fun j=>f j 0) n 0)
 have hv:val8 (limbs8 (hval (fun j=>f j 0) n 0 % ordL))=hval (fun j=>f j 0) n 0 % ordL:=val8_limbs hm.1 (by unfold R256; omega)
 rw [k_reduce2,e1,e2,hv,inW8_limbs,hb,ha,show big ((n+3) / 4)=true from Nat.ble_eq_true_of_le (by omega)]; rfl
end Go.Proofs.YtfpkegodflloiaaGreat
namespace Go.Proofs.YtfpkegodflloiaaGreat
open Go.Proofs.Tryz
open Go Go.AM
noncomputable def hr8:List (Nat × TF):=(F_rimeref02_Reduce,tReduce2) :: (F_rimeref06_joined,tJoined) :: hr7
theorem HR8:LibOK prog tt hr8 []:=(HR7.addT r_joined).addT r_reduce2
noncomputable def tNum6:TF:=fun args=>match args with
 | [.sc (.vints _ .u8 1 m f)]=>some (Nat.ble m 1099511627776,b32 (hval (lf (digL (lf kcL) (lf bcL) m (fun j=>f j 0))) 64 0 % ordL))
 | _=>none
theorem c_num6:fnChk prog (envP tt hr8 []) f_rimeref06_number=true:=by kernel_rfl
def nmH (m:Nat) (g:Nat → Int):Nat → Int:=fun j=>(fun (r d:Nat)=>bif Nat.beq r 0 && (Nat.ble 0 d && Nat.ble (d+1) 64) then g (d - 0) else 0) 0 (0+j * 1+0)
theorem k_num6 (t:Bool) (m:Nat) (f:Nat → Nat → Int):outP (apFunc (envP tt hr8 []) [] 5 f_rimeref06_number [AV.sc (SV.vints t IntKind.u8 1 m f)] []) =
  some (ckL [Nat.ble m 1099511627776,areB (nmH m (lf (digL (lf kcL) (lf bcL) m fun j=>f j 0))) 64 0],b32 (hval (nmH m (lf (digL (lf kcL) (lf bcL) m fun j=>f j 0))) 64 0 % ordL)):=by kernel_rfl
theorem nmD_at (m:Nat) (g:Nat → Int) {j:Nat} (h:j < 64):nmH m g j=g j:=by
 unfold nmH
 rw [Nat.zero_add,Nat.mul_one,Nat.add_zero]
 show (bif Nat.ble 0 j && Nat.ble (j+1) 64 then g (j - 0) else 0)=_
 rw [show Nat.ble 0 j=true from Nat.ble_eq_true_of_le (Nat.zero_le _),bls_t h]; rfl
theorem r_num6:TRow prog F_rimeref06_number tNum6:=by
 intro args r h
 unfold tNum6 at h
 split at h
 case h_2=>simp at h
 rename_i t m f
 simp only [Option.some.injEq,Prod.mk.injEq] at h
 obtain ⟨hm,rfl⟩:=h
 have e:=k_num6 t m f
 have hv:hval (nmH m (lf (digL (lf kcL) (lf bcL) m fun j=>f j 0))) 64 0=hval (lf (digL (lf kcL) (lf bcL) m fun j=>f j 0)) 64 0:=hval_congr fun i hi=>by rw [Nat.zero_add,nmD_at _ _ hi]
 have ha:areB (nmH m (lf (digL (lf kcL) (lf bcL) m fun j=>f j 0))) 64 0=true:=areB_mk fun i hi=>by
  rw [Nat.zero_add,nmD_at _ _ hi]
  have:=areB_t (outL_areB (hWk (lf kcL) (lf bcL) (catF m (fun j=>f j 0) (padF m)) ((m+padL m) / 128))) i hi
  rwa [Nat.zero_add] at this
 rw [ha,hv,hm] at e
 exact pure_of_out HR8 at_rimeref06_number c_num6 (N:=5) (gs:=[]) e
noncomputable def hr9:List (Nat × TF):=(F_rimeref06_number,tNum6) :: hr8
theorem HR9:LibOK prog tt hr9 []:=HR8.addT r_num6
theorem okPs_tot {w:List UInt8} {np:Nat} {row:Nat → List Seg} (h:okPs w np row=true):Nat.ble (catL (wP_hash w :: partsL np row)).1 1099511627776=true:=by
 simp only [okPs,Bool.and_eq_true] at h
 exact h.1
theorem c_rH3:fnChk prog (envP tt hr9 []) f_rimeref06_H3=true:=by kernel_rfl
theorem k_rH3 (t:Bool) (np:Nat) (row:Nat → List Seg):outP (apFunc (envP tt hr9 []) [] 5 f_rimeref06_H3 [.sc (.vrows t 1 np row)] []) =
  some (ckL [okPs nonB np (snR 32 row),Nat.ble (catL (wP_hash nonB :: partsL np (snR 32 row))).1 1099511627776],b32 (hNum nonB (partsL np (snR 32 row)))):=by kernel_rfl
theorem r_rH3:TRow prog F_rimeref06_H3 (tHn nonB):=by
 intro args r h
 unfold tHn at h
 split at h
 case h_2=>simp at h
 rename_i t np row
 simp only [Option.some.injEq,Prod.mk.injEq] at h
 obtain ⟨h1,rfl⟩:=h
 refine pure_of_out HR9 at_rimeref06_H3 c_rH3 (N:=5) (gs:=[]) ?_
 have e:=k_rH3 t np row
 rw [okPs_tot (okPs_sn 32 h1).1,(okPs_sn 32 h1).1,(okPs_sn 32 h1).2] at e
 exact e
end Go.Proofs.YtfpkegodflloiaaGreat
namespace Go.Proofs.YtfpkegodflloiaaGreat
open Go.Proofs.Tryz
open Go Go.AM
def su1:List (Nat × TF):=(F_rimeref02_Reduce,tReduce2) :: (F_rimeref02_Back,tBack8) :: (F_rimeref02_mod,tMod) :: (F_rimeref02_digits,tDigits) :: (F_scalar_Reduce,tReduce64) :: ts11
theorem U1:LibOK prog tt su1 []:=((((L11.addT r_reduce64).addT r_digits).addT r_mod).addT r_back8).addT r_reduce2
def tValue2:TF:=fun args=>match args with
 | [.agg [.ints .u8 32 s]]=>some (areB s 32 0,n8 (hval s 32 0 % ordL))
 | _=>none
theorem c_value2:fnChk prog (envP tt su1 []) f_rimeref02_Value=true:=by kernel_rfl
def row1 (s:Nat → Int):Nat → Nat → Int:=fun j d=>s (0+j * 1+d)
theorem k_value2 (s:Nat → Int):outP (apFunc (envP tt su1 []) [] 5 f_rimeref02_Value [u8s 32 s] []) =
  some (ckL [areB s 32 0,all32 (dgs 32 (row1 s)) 8],n8 (dval (dgs 32 (row1 s)) 8 8 % ordL)):=by kernel_rfl
theorem row1_areB {s:Nat → Int} {n:Nat} (h:areB s n 0=true):areB (fun j=>row1 s j 0) n 0=true:=areB_of fun i hi=>by
 have:=areB_t h i hi
 simpa [row1] using this
theorem row1_hval (s:Nat → Int) (n:Nat):hval (fun j=>row1 s j 0) n 0=hval s n 0:=hval_congr fun i _=>by simp [row1]
theorem r_value2:TRow prog F_rimeref02_Value tValue2:=by
 intro args r h
 unfold tValue2 at h
 split at h
 case h_2=>simp at h
 rename_i s
 simp only [Option.some.injEq,Prod.mk.injEq] at h
 obtain ⟨ha,rfl⟩:=h
 refine pure_of_out U1 at_rimeref02_Value c_value2 (N:=5) (gs:=[]) ?_
 obtain ⟨e1,e2⟩:=dgs_law (row1_areB ha)
 have e:=k_value2 s
 rw [e1,e2,row1_hval,ha] at e
 exact e
def su2:List (Nat × TF):=(F_rimeref02_Value,tValue2) :: su1
theorem U2:LibOK prog tt su2 []:=U1.addT r_value2
def su3:List (Nat × TF):=su2
theorem U3:LibOK prog tt su3 []:=(U2)
def su4:List (Nat × TF):=su3
theorem U4:LibOK prog tt su4 []:=(U3)
def su5:List (Nat × TF):=su4
theorem U5:LibOK prog tt su5 []:=((U4))
def tPut:TF:=fun args=>match args with
 | [.agg [.ints .u8 32 s]]=>some (areB s 32 0,.sc (.vints true .u8 1 32 (fun j _=>lf (byL 32 (hval s 32 0 % ordL)) j)))
 | _=>none
theorem c_put:fnChk prog (envP tt su5 []) f_suite_PutScalar=true:=by kernel_rfl
theorem k_put (s:Nat → Int):outV 32 (apFunc (envP tt su5 []) [] 5 f_suite_PutScalar [u8s 32 s] []) =
  some (ckL [areB s 32 0 && areB (fun _=>0) 32 0],.sc (.vints true .u8 1 32 (fun j _=>lf (byL 32 ((hval s 32 0+hval (fun _=>0) 32 0) % ordL)) j))):=by kernel_rfl
theorem r_put:TRow prog F_suite_PutScalar tPut:=by
 intro args r h
 unfold tPut at h
 split at h
 case h_2=>simp at h
 rename_i s
 simp only [Option.some.injEq,Prod.mk.injEq] at h
 obtain ⟨ha,rfl⟩:=h
 refine pure_of_outV U5 at_suite_PutScalar c_put (N:=5) (n:=32) (gs:=[]) ?_
 have e:=k_put s
 rw [hval_zero (s:=fun _=>0) fun i _=>rfl,Int.add_zero,ha] at e
 exact e
end Go.Proofs.YtfpkegodflloiaaGreat
namespace Go.Proofs.YtfpkegodflloiaaGreat
open Go.Proofs.Tryz
open Go Go.AM
theorem wr64n {x:Int} (h0:0 ≤ x) (h1:x < 18446744073709551616):wr .u64 x=x:=by
 rw [wr64]; omega
end Go.Proofs.YtfpkegodflloiaaGreat
namespace Go.Proofs.YtfpkegodflloiaaGreat
open Go.Proofs.Tryz
open Go Go.AM
def sv5:List (Nat × TF):=su2
theorem V5:LibOK prog tt sv5 []:=U2
theorem v8_mod (x:Int):val8 (limbs8 (x % ordL))=x % ordL:=by
 have hm:=modL_range x
 exact val8_limbs hm.1 (by unfold R256; omega)
def adC (x y:Nat → Int):Nat → Int
 | 0=>0
 | k+1=>ishr .u64 (wr .u64 (wr .u64 (adC x y k+wr .u64 (x k))+wr .u64 (y k))) 32
def adV (x y:Nat → Int) (k:Nat):Int:=wr .u32 (wr .u64 (wr .u64 (adC x y k+wr .u64 (x k))+wr .u64 (y k)))
def adL (x y:Nat → Int):Nat → Nat → Int:=fun j d=>bif Nat.beq (0+j) 8 && Nat.beq (0+d) 0 then wr .u32 (adC x y 8)
 else bif Nat.beq (0+j) 7 && Nat.beq (0+d) 0 then adV x y 7
 else bif Nat.beq (0+j) 6 && Nat.beq (0+d) 0 then adV x y 6
 else bif Nat.beq (0+j) 5 && Nat.beq (0+d) 0 then adV x y 5
 else bif Nat.beq (0+j) 4 && Nat.beq (0+d) 0 then adV x y 4
 else bif Nat.beq (0+j) 3 && Nat.beq (0+d) 0 then adV x y 3
 else bif Nat.beq (0+j) 2 && Nat.beq (0+d) 0 then adV x y 2
 else bif Nat.beq (0+j) 1 && Nat.beq (0+d) 0 then adV x y 1
 else bif Nat.beq (0+j) 0 && Nat.beq (0+d) 0 then adV x y 0
 else 0
def tAdd2:TF:=fun args=>match args with
 | [.agg [.ints .u8 32 a],.agg [.ints .u8 32 b]]=>some (areB a 32 0 && areB b 32 0,b32 ((hval a 32 0+hval b 32 0) % ordL))
 | _=>none
theorem c_add2:fnChk prog (envP tt sv5 []) f_rimeref02_Add=true:=by kernel_rfl
theorem k_add2 (a b:Nat → Int):outP (apFunc (envP tt sv5 []) [] 20 f_rimeref02_Add [u8s 32 a,u8s 32 b] []) =
  some (ckL [areB a 32 0,areB b 32 0,all32 (adL (limbs8 (hval a 32 0 % ordL)) (limbs8 (hval b 32 0 % ordL))) 9,
   inW8 (limbs8 (dval (adL (limbs8 (hval a 32 0 % ordL)) (limbs8 (hval b 32 0 % ordL))) 9 9 % ordL))],b32 (val8 (limbs8 (dval (adL (limbs8 (hval a 32 0 % ordL)) (limbs8 (hval b 32 0 % ordL))) 9 9 % ordL)))):=by kernel_rfl
theorem ad_ca {x y:Nat → Int} {X Y:Int} (hx:∀ j,j < 8 → x j=dig X j) (hy:∀ j,j < 8 → y j=dig Y j) :
  ∀ k,k ≤ 8 → adC x y k=caC (dig X) (dig Y) 1 k ∧ (k < 8 → adV x y k=dig (X+1 * Y) k)
 | k,hk=>by
  have h1:W32 1:=⟨by omega,by omega⟩
  have hc:adC x y k=caC (dig X) (dig Y) 1 k:=by
   cases k with
   | zero=>rfl
   | succ k =>
    have e:=(ad_ca hx hy k (by omega)).1
    obtain ⟨_,c0,c1⟩:=ca_law (f:=dig X) (g:=dig Y) (F:=X) (G:=Y) h1 (fun _=>rfl) (fun _=>rfl) k
    have d0:=dig_W k X
    have d1:=dig_W k Y
    unfold W32 at d0 d1
    show ishr .u64 (wr .u64 (wr .u64 (adC x y k+wr .u64 (x k))+wr .u64 (y k))) 32=caS (dig X) (dig Y) 1 k / 4294967296
    rw [e,hx k (by omega),hy k (by omega),caS_eq,Int.one_mul]
    generalize caC (dig X) (dig Y) 1 k=c at *
    generalize dig X k=f at *
    generalize dig Y k=g at *
    rw [wr64n (x:=f) (by omega) (by omega),wr64n (x:=g) (by omega) (by omega),wr64n (x:=c+f) (by omega) (by omega),wr64n (by omega) (by omega)]
    exact ishr32
  refine ⟨hc,fun hk8=>?_⟩
  obtain ⟨_,c0,c1⟩:=ca_law (f:=dig X) (g:=dig Y) (F:=X) (G:=Y) h1 (fun _=>rfl) (fun _=>rfl) k
  obtain ⟨sd,_,_⟩:=ca_dig (f:=dig X) (g:=dig Y) (F:=X) (G:=Y) h1 (fun _=>rfl) (fun _=>rfl) k
  rw [caS_eq] at sd
  have d0:=dig_W k X
  have d1:=dig_W k Y
  unfold W32 at d0 d1
  unfold adV
  rw [hc,hx k (by omega),hy k (by omega),← sd,wr32,Int.one_mul]
  generalize caC (dig X) (dig Y) 1 k=c at *
  generalize dig X k=f at *
  generalize dig Y k=g at *
  rw [wr64n (x:=f) (by omega) (by omega),wr64n (x:=g) (by omega) (by omega),wr64n (x:=c+f) (by omega) (by omega),wr64n (by omega) (by omega)]
theorem adL_0 (x y:Nat → Int):adL x y 0 0=adV x y 0:=by kernel_rfl
theorem adL_1 (x y:Nat → Int):adL x y 1 0=adV x y 1:=by kernel_rfl
theorem adL_2 (x y:Nat → Int):adL x y 2 0=adV x y 2:=by kernel_rfl
theorem adL_3 (x y:Nat → Int):adL x y 3 0=adV x y 3:=by kernel_rfl
theorem adL_4 (x y:Nat → Int):adL x y 4 0=adV x y 4:=by kernel_rfl
theorem adL_5 (x y:Nat → Int):adL x y 5 0=adV x y 5:=by kernel_rfl
theorem adL_6 (x y:Nat → Int):adL x y 6 0=adV x y 6:=by kernel_rfl
theorem adL_7 (x y:Nat → Int):adL x y 7 0=adV x y 7:=by kernel_rfl
theorem adL_8 (x y:Nat → Int):adL x y 8 0=wr .u32 (adC x y 8):=by kernel_rfl
theorem adL_law {X Y:Int} (hX:0 ≤ X ∧ X < ordL) (hY:0 ≤ Y ∧ Y < ordL):all32 (adL (limbs8 X) (limbs8 Y)) 9=true ∧ dval (adL (limbs8 X) (limbs8 Y)) 9 9=X+Y:=by
 have hca:=ad_ca (fun j hj=>limbs_dig X j hj) (fun j hj=>limbs_dig Y j hj)
 have hd:∀ r,r < 9 → adL (limbs8 X) (limbs8 Y) r 0=dig (X+Y) r:=fun r hr=>by
  match r,hr with
  | 0,_=>rw [adL_0,(hca 0 (by omega)).2 (by omega),Int.one_mul]
  | 1,_=>rw [adL_1,(hca 1 (by omega)).2 (by omega),Int.one_mul]
  | 2,_=>rw [adL_2,(hca 2 (by omega)).2 (by omega),Int.one_mul]
  | 3,_=>rw [adL_3,(hca 3 (by omega)).2 (by omega),Int.one_mul]
  | 4,_=>rw [adL_4,(hca 4 (by omega)).2 (by omega),Int.one_mul]
  | 5,_=>rw [adL_5,(hca 5 (by omega)).2 (by omega),Int.one_mul]
  | 6,_=>rw [adL_6,(hca 6 (by omega)).2 (by omega),Int.one_mul]
  | 7,_=>rw [adL_7,(hca 7 (by omega)).2 (by omega),Int.one_mul]
  | 8,_ =>
   rw [adL_8,(hca 8 (by omega)).1,wr32,dig_sh]
   have e:=(ca_law (f:=dig X) (g:=dig Y) (F:=X) (G:=Y) (x:=1) ⟨by omega,by omega⟩ (fun _=>rfl) (fun _=>rfl) 8).1
   have z1:=sh_range hX.1 (k:=8) (m:=0) (Int.lt_trans hX.2 (by decide))
   have z2:=sh_range hY.1 (k:=8) (m:=0) (Int.lt_trans hY.2 (by decide))
   rw [Int.pow_zero] at z1 z2
   rw [show sh X 8=0 by omega,show sh Y 8=0 by omega] at e
   rw [Int.mul_zero,Int.add_zero,Int.add_zero,Int.one_mul] at e
   rw [e]
  | _+9,h=>omega
 refine ⟨?_,?_⟩
 ·simp only [all32,List.all_eq_true,List.mem_range]
  exact fun j hj=>in32_of (by rw [hd j hj]; exact dig_W _ _)
 ·rw [dval_congr (g:=fun r _=>dig (X+Y) r) hd 9 (by omega)]
  have h1:=hX.2
  have h2:=hY.2
  unfold ordL at h1 h2
  exact dval_dig_all (by omega) (by omega)
theorem r_add2:TRow prog F_rimeref02_Add tAdd2:=by
 intro args r h
 unfold tAdd2 at h
 split at h
 case h_2=>simp at h
 rename_i a b
 simp only [Option.some.injEq,Prod.mk.injEq] at h
 obtain ⟨hb,rfl⟩:=h
 refine pure_of_out V5 at_rimeref02_Add c_add2 (N:=20) (gs:=[]) ?_
 simp only [Bool.and_eq_true] at hb
 obtain ⟨e1,e2⟩:=adL_law (X:=hval a 32 0 % ordL) (Y:=hval b 32 0 % ordL) ⟨(modL_range _).1,(modL_range _).2.1⟩ ⟨(modL_range _).1,(modL_range _).2.1⟩
 have e:=k_add2 a b
 rw [hb.1,hb.2,e1,e2] at e
 simp only [inW8_limbs,v8_mod,← Int.add_emod] at e
 exact e
theorem c_isZero2:fnChk prog (envP tt sv5 []) f_rimeref02_IsZero=true:=by kernel_rfl
theorem k_isZero2 (a:Nat → Int):outP (apFunc (envP tt sv5 []) [] 5 f_rimeref02_IsZero [u8s 32 a] []) =
  some (ckL [areB a 32 0],.sc (.bool (eqN 8 (limbs8 (hval a 32 0 % ordL)) (fun _=>0) && true))):=by kernel_rfl
theorem eqN8_zero {n:Int} (h0:0 ≤ n) (h1:n < R256):eqN 8 (limbs8 n) (fun _=>0)=decide (n=0):=by
 by_cases h:n=0
 ·subst h; decide
 ·rw [decide_eq_false h]
  cases hb:eqN 8 (limbs8 n) (fun _=>0) with
  | false=>rfl
  | true =>
   exfalso
   have e:=val8_limbs h0 h1
   have z:=eqN_t hb
   unfold val8 at e
   rw [z 0 (by omega),z 1 (by omega),z 2 (by omega),z 3 (by omega),z 4 (by omega),z 5 (by omega),z 6 (by omega),z 7 (by omega)] at e
   omega
theorem r_isZero2:TRow prog F_rimeref02_IsZero tIsZero:=by
 intro args r h
 unfold tIsZero at h
 split at h
 case h_2=>simp at h
 rename_i s
 simp only [Option.some.injEq,Prod.mk.injEq] at h
 obtain ⟨hs,rfl⟩:=h
 refine pure_of_out V5 at_rimeref02_IsZero c_isZero2 (N:=5) (gs:=[]) ?_
 have e:=k_isZero2 s
 have hr:=modL_range (hval s 32 0)
 rw [eqN8_zero hr.1 (by unfold R256; omega),Bool.and_true,hs] at e
 exact e
end Go.Proofs.YtfpkegodflloiaaGreat
namespace Go.Proofs.YtfpkegodflloiaaGreat
open Go.Proofs.Tryz
open Go Go.AM
def tCarried:TF:=fun args=>match args with
 | [.agg [.ints .u64 5 a]]=>some (inU5 a,u5 (lf (carL a)))
 | _=>none
theorem c_carried:fnChk prog (envP tt ts8 []) f_edwards_carried=true:=by kernel_rfl
theorem k_carried (a:Nat → Int):outP (apFunc (envP tt ts8 []) [] 50 f_edwards_carried [u5 a] [])=some (true,u5 (lf (carRaw a))):=by kernel_rfl
theorem r_carried:TRow prog F_edwards_carried tCarried:=by
 intro args r h
 unfold tCarried at h
 split at h
 case h_2=>simp at h
 rename_i a
 simp only [Option.some.injEq,Prod.mk.injEq] at h
 obtain ⟨ha,rfl⟩:=h
 refine pure_of_out L8 at_edwards_carried c_carried (N:=50) (gs:=[]) ?_
 rw [← car_law ha]
 exact k_carried a
def tf1:List (Nat × TF):=(F_edwards_carried,tCarried) :: ts8
theorem M1:LibOK prog tt tf1 []:=L8.addT r_carried
def tFeMinus:TF:=fun args=>match args with
 | [.agg [.ints .u64 5 a],.agg [.ints .u64 5 b]]=>some (true,u5 (lf (subV (l5 a) (l5 b))))
 | _=>none
def tFePlus:TF:=fun args=>match args with
 | [.agg [.ints .u64 5 a],.agg [.ints .u64 5 b]]=>some (true,u5 (lf (addV (l5 a) (l5 b))))
 | _=>none
theorem c_fePlus:fnChk prog (envP tt tf1 []) f_edwards_fe_plus=true:=by kernel_rfl
theorem c_feMinus:fnChk prog (envP tt tf1 []) f_edwards_fe_minus=true:=by kernel_rfl
def plusRaw (a b:Nat → Int):List Int:=[wr .u64 (a 0+b 0),wr .u64 (a 1+b 1),wr .u64 (a 2+b 2),wr .u64 (a 3+b 3),wr .u64 (a 4+b 4)]
theorem k_fePlus (a b:Nat → Int):outP (apFunc (envP tt tf1 []) [] 50 f_edwards_fe_plus [u5 a,u5 b] [])=some (ckL [inU5 (lf (plusRaw a b))],u5 (lf (carL (lf (plusRaw a b))))):=by kernel_rfl
def minusRaw (a b:Nat → Int):List Int:=[wr .u64 (a 0+wr .u64 (4503599627370458 - b 0)),wr .u64 (a 1+wr .u64 (4503599627370494 - b 1)),wr .u64 (a 2+wr .u64 (4503599627370494 - b 2)),wr .u64 (a 3+wr .u64 (4503599627370494 - b 3)),wr .u64 (a 4+wr .u64 (4503599627370494 - b 4))]
theorem k_feMinus (a b:Nat → Int):outP (apFunc (envP tt tf1 []) [] 50 f_edwards_fe_minus [u5 a,u5 b] [])=some (ckL [inU5 (lf (minusRaw a b))],u5 (lf (carL (lf (minusRaw a b))))):=by kernel_rfl
theorem r_fePlus:TRow prog F_edwards_fe_plus tFePlus:=by
 intro args r h
 unfold tFePlus at h
 split at h
 case h_2=>simp at h
 rename_i a b
 simp only [Option.some.injEq,Prod.mk.injEq,true_and] at h
 subst h
 refine pure_of_out M1 at_edwards_fe_plus c_fePlus (N:=50) (gs:=[]) ?_
 have e:plusRaw a b=addL a b:=by simp only [plusRaw,addL,wr64]
 have:=k_fePlus a b
 simp only [u5] at this ⊢
 rw [this,e]
 simp [ckL,inU5_addL,addV_l5,feAdd]
theorem r_feMinus:TRow prog F_edwards_fe_minus tFeMinus:=by
 intro args r h
 unfold tFeMinus at h
 split at h
 case h_2=>simp at h
 rename_i a b
 simp only [Option.some.injEq,Prod.mk.injEq,true_and] at h
 subst h
 refine pure_of_out M1 at_edwards_fe_minus c_feMinus (N:=50) (gs:=[]) ?_
 have e:minusRaw a b=subL a b:=by
  have h:∀ x c y:Int,(x+(c - y) % 18446744073709551616) % 18446744073709551616=(x+c - y) % 18446744073709551616:=fun x c y=>by omega
  simp only [minusRaw,subL,wr64,h]
 have:=k_feMinus a b
 simp only [u5] at this ⊢
 rw [this,e]
 simp [ckL,inU5_subL,subV_l5,feSub]
def tf2:List (Nat × TF):=(F_edwards_fe_minus,tFeMinus) :: (F_edwards_fe_plus,tFePlus) :: tf1
theorem M2:LibOK prog tt tf2 []:=(M1.addT r_fePlus).addT r_feMinus
noncomputable def wf1:List (Nat × WF):=[(F_edwards_wide_add,AM.sW (envP tt tf2 []) [] 50 f_edwards_wide_add)]
theorem M3:LibOK prog tt tf2 wf1:=M2.sW at_edwards_wide_add [] 50 (by kernel_rfl)
theorem c_feTimes:fnChk prog (envP tt tf2 wf1) f_edwards_fe_times=true:=by kernel_rfl
theorem k_feTimes (a b:Nat → Int):(outP (apFunc (envP tt tf2 wf1) [] 50 f_edwards_fe_times [u5 a,u5 b] [])).map (·.2)=some (u5 (lf (carL (lf (mulRaw a b))))):=by kernel_rfl
theorem ck_feTimes (a b:Nat → Int):(outP (apFunc (envP tt tf2 wf1) [] 50 f_edwards_fe_times [u5 a,u5 b] [])).map (·.1)=some (ckL (mulCk a b)):=by kernel_rfl
def tFeTimes:TF:=fun args=>match args with
 | [.agg [.ints .u64 5 a],.agg [.ints .u64 5 b]]=>some (chk5 (l5 a) && chk5 (l5 b),u5 (lf (mulV (l5 a) (l5 b))))
 | _=>none
theorem r_feTimes:TRow prog F_edwards_fe_times tFeTimes:=by
 intro args r h
 unfold tFeTimes at h
 split at h
 case h_2=>simp at h
 rename_i a b
 simp only [Option.some.injEq,Prod.mk.injEq,Bool.and_eq_true] at h
 obtain ⟨⟨ha,hb⟩,rfl⟩:=h
 refine pure_of_out M3 at_edwards_fe_times c_feTimes (N:=50) (gs:=[]) ?_
 have e:=both (ck_feTimes a b) (k_feTimes a b)
 rw [mulCk_law (a:=a) (b:=b) ha hb,mul_law (a:=a) (b:=b) ha hb] at e
 exact e
noncomputable def tf3:List (Nat × TF):=(F_edwards_fe_times,tFeTimes) :: tf2
theorem M4:LibOK prog tt tf3 wf1:=M3.addT r_feTimes
end Go.Proofs.YtfpkegodflloiaaGreat
namespace Go.Proofs.YtfpkegodflloiaaGreat
open Go.Proofs.Tryz
open Go Go.AM
-- the curve's number
noncomputable def tl0:List (Nat × TF):=(F_edwards_load,cT (envP tt tf3 wf1) 50 f_edwards_load) :: tf3
theorem N0:LibOK prog tt tl0 wf1:=M4.cT at_edwards_load 50 (by kernel_rfl)
theorem c_curve:fnChk prog (envP tt tl0 wf1) f_edwards_curve=true:=by kernel_rfl
def tCurve:TF:=fun args=>match args with
 | []=>some (true,u5 (lf cvL))
 | _=>none
theorem k_curve:cT (envP tt tl0 wf1) 50 f_edwards_curve []=some (true,u5 (lf cvL)):=by kernel_rfl
theorem r_curve:TRow prog F_edwards_curve tCurve:=by
 intro args r h
 unfold tCurve at h
 split at h
 case h_2=>simp at h
 exact cT_row N0 at_edwards_curve 50 c_curve _ _ (k_curve.trans h)
noncomputable def tg0:List (Nat × TF):=(F_edwards_curve,tCurve) :: tf3
theorem N1:LibOK prog tt tg0 wf1:=M4.addT r_curve
def tSmall:TF:=fun args=>match args with
 | [.sc (.int .u64 n)]=>some (true,u5 (lf [n,0,0,0,0]))
 | _=>none
theorem c_small:fnChk prog (envP tt tg0 wf1) f_edwards_small=true:=by kernel_rfl
theorem r_small:TRow prog F_edwards_small tSmall:=by
 intro args r h
 unfold tSmall at h
 split at h
 case h_2=>simp at h
 rename_i n
 simp only [Option.some.injEq,Prod.mk.injEq,true_and] at h
 subst h
 exact pure_of_out N1 at_edwards_small c_small (N:=50) (gs:=[]) (by kernel_rfl)
def tSquare:TF:=fun args=>match args with
 | [.agg [.ints .u64 5 a]]=>some (chk5 (l5 a),u5 (lf (mulV (l5 a) (l5 a))))
 | _=>none
theorem c_square:fnChk prog (envP tt tg0 wf1) f_edwards_fe_square=true:=by kernel_rfl
theorem k_square (a:Nat → Int):outP (apFunc (envP tt tg0 wf1) [] 50 f_edwards_fe_square [u5 a] [])=some (ckL [chk5 (l5 a) && chk5 (l5 a)],u5 (lf (r5 (mulV (l5 a) (l5 a))))):=by kernel_rfl
theorem r_square:TRow prog F_edwards_fe_square tSquare:=by
 intro args r h
 unfold tSquare at h
 split at h
 case h_2=>simp at h
 rename_i a
 simp only [Option.some.injEq,Prod.mk.injEq] at h
 obtain ⟨ha,rfl⟩:=h
 refine pure_of_out N1 at_edwards_fe_square c_square (N:=50) (gs:=[]) ?_
 have:=k_square a
 rw [show ckL [chk5 (l5 a) && chk5 (l5 a)]=true by simp [ckL,ha]] at this
 exact this
noncomputable def tg1:List (Nat × TF):=(F_edwards_fe_square,tSquare) :: (F_edwards_small,tSmall) :: tg0
theorem N2:LibOK prog tt tg1 wf1:=(N1.addT r_small).addT r_square
theorem c_ptPlus:fnChk prog (envP tt tg1 wf1) f_edwards_point_plus=true:=by kernel_rfl
theorem c_ptTwice:fnChk prog (envP tt tg1 wf1) f_edwards_point_twice=true:=by kernel_rfl
theorem k_ptTwice (p:Nat → Int):(outP (apFunc (envP tt tg1 wf1) [] 50 f_edwards_point_twice [pt p] [])).map (·.2)=some (pt (lf (ptDbl p))):=by kernel_rfl
theorem k_ptPlus (p q:Nat → Int):(outP (apFunc (envP tt tg1 wf1) [] 50 f_edwards_point_plus [pt p,pt q] [])).map (·.2)=some (pt (lf (ptAdd p q))):=by kernel_rfl
theorem ck_ptTwice (p:Nat → Int):(outP (apFunc (envP tt tg1 wf1) [] 50 f_edwards_point_twice [pt p] [])).map (·.1)=some (ckL (ptDblCk p)):=by kernel_rfl
theorem ck_ptPlus (p q:Nat → Int):(outP (apFunc (envP tt tg1 wf1) [] 50 f_edwards_point_plus [pt p,pt q] [])).map (·.1)=some (ckL (ptAddCk p q)):=by kernel_rfl
def tPtPlus:TF:=fun args=>match args with
 | [.agg [.ints .u64 20 p],.agg [.ints .u64 20 q]]=>some (chkP p && chkP q,pt (lf (ptAdd p q)))
 | _=>none
def tPtTwice:TF:=fun args=>match args with
 | [.agg [.ints .u64 20 p]]=>some (chkP p,pt (lf (ptDbl p)))
 | _=>none
theorem r_ptPlus:TRow prog F_edwards_point_plus tPtPlus:=by
 intro args r h
 unfold tPtPlus at h
 split at h
 case h_2=>simp at h
 rename_i p q
 simp only [Option.some.injEq,Prod.mk.injEq,Bool.and_eq_true] at h
 obtain ⟨⟨hp,hq⟩,rfl⟩:=h
 refine pure_of_out N2 at_edwards_point_plus c_ptPlus (N:=50) (gs:=[]) ?_
 have e:=both (ck_ptPlus p q) (k_ptPlus p q)
 rw [ptAddCk_law hp hq] at e
 exact e
theorem r_ptTwice:TRow prog F_edwards_point_twice tPtTwice:=by
 intro args r h
 unfold tPtTwice at h
 split at h
 case h_2=>simp at h
 rename_i p
 simp only [Option.some.injEq,Prod.mk.injEq] at h
 obtain ⟨hp,rfl⟩:=h
 refine pure_of_out N2 at_edwards_point_twice c_ptTwice (N:=50) (gs:=[]) ?_
 have e:=both (ck_ptTwice p) (k_ptTwice p)
 rw [ptDblCk_law hp] at e
 exact e
end Go.Proofs.YtfpkegodflloiaaGreat
namespace Go.Proofs.YtfpkegodflloiaaGreat
open Go.Proofs.Tryz
open Go Go.AM
noncomputable def ex1:List (Nat × TF):=(F_edwards_point_twice,tPtTwice) :: (F_edwards_point_plus,tPtPlus) :: (F_edwards_fe_square,tSquare) :: (F_edwards_small,tSmall) :: (F_edwards_curve,tCurve) :: (F_edwards_fe_times,tFeTimes) :: tf2
theorem X1:LibOK prog tt ex1 []:=(((((M2.addT r_feTimes).addT r_curve).addT r_small).addT r_square).addT r_ptPlus).addT r_ptTwice
def tLoad:TF:=fun args=>match args with
 | [.agg [.ints .u8 32 b]]=>some (areB b 32 0,u5 (lf (loadL (hval b 32 0))))
 | _=>none
theorem c_load:fnChk prog (envP tt ex1 []) f_edwards_load=true:=by kernel_rfl
theorem k_load (b:Nat → Int):outP (apFunc (envP tt ex1 []) [] 60 f_edwards_load [u8s 32 b] [])=some (true,u5 (lf (loadRaw b))):=by kernel_rfl
theorem r_load:TRow prog F_edwards_load tLoad:=by
 intro args r h
 unfold tLoad at h
 split at h
 case h_2=>simp at h
 rename_i b
 simp only [Option.some.injEq,Prod.mk.injEq] at h
 obtain ⟨hb,rfl⟩:=h
 refine pure_of_out X1 at_edwards_load c_load (N:=60) (gs:=[]) ?_
 rw [← load_law hb]
 exact k_load b
def tFeBytes:TF:=fun args=>match args with
 | [.agg [.ints .u64 5 a]]=>some (bd5 (l5 a),b32 (fm (l5 a)))
 | _=>none
theorem c_feBytes:fnChk prog (envP tt ex1 []) f_edwards_fe_bytes=true:=by kernel_rfl
theorem k_feBytes (a:Nat → Int):outP (apFunc (envP tt ex1 []) [] 60 f_edwards_fe_bytes [u5 a] [])=some (ckL [inU5 (lf (l5 a)),inU5 (lf (carL (lf (l5 a))))],u8s 32 (lf (bytesRaw (lf (l5 a))))):=by kernel_rfl
theorem r_feBytes:TRow prog F_edwards_fe_bytes tFeBytes:=by
 intro args r h
 unfold tFeBytes at h
 split at h
 case h_2=>simp at h
 rename_i a
 simp only [Option.some.injEq,Prod.mk.injEq] at h
 obtain ⟨ha,rfl⟩:=h
 refine pure_of_out X1 at_edwards_fe_bytes c_feBytes (N:=60) (gs:=[]) ?_
 have e:=k_feBytes a
 have h1:inU5 (lf (l5 a))=true:=bd5_chk ha
 rw [bytes_law ha,h1,inU5_carL h1] at e
 exact e
noncomputable def ex2:List (Nat × TF):=(F_edwards_fe_bytes,tFeBytes) :: (F_edwards_load,tLoad) :: ex1
theorem X2:LibOK prog tt ex2 []:=(X1.addT r_load).addT r_feBytes
def tFeSame:TF:=fun args=>match args with
 | [.agg [.ints .u64 5 a],.agg [.ints .u64 5 b]]=>some (bd5 (l5 a) && bd5 (l5 b),.sc (.bool (decide (fm (l5 a)=fm (l5 b)))))
 | _=>none
theorem c_feSame:fnChk prog (envP tt ex2 []) f_edwards_fe_same=true:=by kernel_rfl
theorem k_feSame (a b:Nat → Int):outP (apFunc (envP tt ex2 []) [] 60 f_edwards_fe_same [u5 a,u5 b] [])=some (ckL [bd5 (l5 a),bd5 (l5 b)],.sc (.bool (eqN 32 (lf (byL 32 (fm (l5 a)))) (lf (byL 32 (fm (l5 b)))) && true))):=by kernel_rfl
theorem pP_256:pP < R256:=by decide
theorem eqN_by {x y:Int} (hx:0 ≤ x ∧ x < R256) (hy:0 ≤ y ∧ y < R256):eqN 32 (lf (byL 32 x)) (lf (byL 32 y))=decide (x=y):=by
 rw [eqB_law (areB_b32 y) hx.1 hx.2,hval_b32 hy.1 hy.2]
 by_cases e:x=y
 ·rw [decide_eq_true e,decide_eq_true e.symm]
 ·rw [decide_eq_false e,decide_eq_false (fun h=>e h.symm)]
theorem fm_256 (l:List Int):0 ≤ fm l ∧ fm l < R256:=⟨(fm_range l).1,Int.lt_trans (fm_range l).2 pP_256⟩
theorem r_feSame:TRow prog F_edwards_fe_same tFeSame:=by
 intro args r h
 unfold tFeSame at h
 split at h
 case h_2=>simp at h
 rename_i a b
 simp only [Option.some.injEq,Prod.mk.injEq,Bool.and_eq_true] at h
 obtain ⟨⟨ha,hb⟩,rfl⟩:=h
 refine pure_of_out X2 at_edwards_fe_same c_feSame (N:=60) (gs:=[]) ?_
 have e:=k_feSame a b
 rw [ha,hb,eqN_by (fm_256 _) (fm_256 _),Bool.and_true] at e
 exact e
def tFeOdd:TF:=fun args=>match args with
 | [.agg [.ints .u64 5 a]]=>some (bd5 (l5 a),.sc (.bool (decide (fm (l5 a) % 2=1))))
 | _=>none
theorem c_feOdd:fnChk prog (envP tt ex2 []) f_edwards_fe_odd=true:=by kernel_rfl
theorem k_feOdd (a:Nat → Int):outP (apFunc (envP tt ex2 []) [] 60 f_edwards_fe_odd [u5 a] [])=some (ckL [bd5 (l5 a)],.sc (.bool (iand .u8 (lf (byL 32 (fm (l5 a))) 0) 1 == 1))):=by kernel_rfl
set_option maxRecDepth 100000 in
theorem iand1_fe2 {x:Int} (h:0 ≤ x ∧ x < 256):iand .u8 x 1=x % 2:=by
 have key:∀ n:Nat,n < 256 → iand .u8 (n:Int) 1=(n:Int) % 2:=by decide
 have:=key x.toNat (by omega)
 rwa [Int.toNat_of_nonneg h.1] at this
theorem odd_law {v:Int} (h:0 ≤ v):(iand .u8 (lf (byL 32 v) 0) 1 == 1)=decide (v % 2=1):=by
 have e:lf (byL 32 v) 0=v % 256:=rfl
 rw [e,iand1_fe2 ⟨by omega,by omega⟩]
 have:v % 256 % 2=v % 2:=by omega
 rw [this]
 rfl
theorem r_feOdd:TRow prog F_edwards_fe_odd tFeOdd:=by
 intro args r h
 unfold tFeOdd at h
 split at h
 case h_2=>simp at h
 rename_i a
 simp only [Option.some.injEq,Prod.mk.injEq] at h
 obtain ⟨ha,rfl⟩:=h
 refine pure_of_out X2 at_edwards_fe_odd c_feOdd (N:=60) (gs:=[]) ?_
 have e:=k_feOdd a
 rw [ha,odd_law (fm_range _).1] at e
 exact e
noncomputable def ex3:List (Nat × TF):=(F_edwards_fe_odd,tFeOdd) :: (F_edwards_fe_same,tFeSame) :: ex2
theorem X3:LibOK prog tt ex3 []:=(X2.addT r_feSame).addT r_feOdd
def sqV:Nat → List Int → List Int
 | 0,l=>l
 | n+1,l=>mulV (r5 (sqV n l)) (r5 (sqV n l))
theorem sqV_bd {l:List Int} (h:bd5 l=true):∀ n,bd5 (sqV n l)=true
 | 0=>h
 | n+1=>mulV_bd (sqV_bd h n) (sqV_bd h n)
theorem sqV_fm {l:List Int} (h:bd5 l=true) {x:Int} {a:Nat} (hx:fm l=powM x a):∀ n,fm (sqV n l)=powM x (a * 2 ^ n)
 | 0=>by simpa [sqV] using hx
 | n+1=>by
  have ih:=sqV_fm h hx n
  show fm (mulV (r5 (sqV n l)) (r5 (sqV n l)))=_
  rw [mulV_fm (by rw [r5_bd]; exact sqV_bd h n) (by rw [r5_bd]; exact sqV_bd h n),r5_fm,ih,powM_mul]
  congr 1
  rw [Nat.pow_succ]; grind
theorem and_t {a b:Bool}:(a && b)=true ↔ a=true ∧ b=true:=by rw [Bool.and_eq_true]
noncomputable abbrev xE_fe2:EnvP:=envP tt ex3 []
noncomputable def sqB:Code:=match f_edwards_fe_squares.body with | some c=>(match bodiesOf 0 c with | [.loop b]=>b | _=>.skip) | none=>.skip
def sqS (n v:Int) (f:Nat → Int):St:=⟨tmOf [(2,.sc (.ptr 0 5 0 0 5)),(4,.sc (.ptr 1 5 0 0 5)),(5,.sc (.int .i64 n)),(6,.sc (.int .i64 v))] 12 0,[some (.ints .u64 5 1 (fun _ d=>f d)),some (.ints .u64 5 1 (fun _ _=>0))]⟩
theorem sq_round (n v v':Int) (f f':Nat → Int):roundR xE_fe2 [(7,true)] 5 2 [] sqB (sqS n v f) .normal (sqS n v' f') =
  some (ckL [decide (v < n) == true,chk5 (l5 f)] && stR (rnm 2 []) (sqS n (wr .i64 (v+1)) (lf (mulV (l5 f) (l5 f)))) (sqS n v' f')):=by kernel_rfl
theorem sq_stop (n v v':Int) (f f':Nat → Int):roundR xE_fe2 [(7,false)] 5 2 [] sqB (sqS n v f) (.exit 0) (sqS n v' f')=some (ckL [decide (v < n) == false] && stR (rnm 2 []) (sqS n v f) (sqS n v' f')):=by kernel_rfl
theorem sq_same {n v v':Int} {f g:Nat → Int} (hv:v=v') (h:∀ d,d < 5 → f d=g d):stR (rnm 2 []) (sqS n v f) (sqS n v' g)=true:=by
 subst hv
 have e:eqF 1 5 (fun _ d=>f d) (fun _ d=>g d)=true:=eqF_of fun r _ d hd=>h d hd
 simp [stR,sqS,tmOf,tmR,avR,svR,rIs,rnm,kEq_refl,eqF_refl,hpR,blkR,ndR,e]
 rfl
def sqN (n:Int):Bool:=decide (0 ≤ n) && decide (n < 4611686018427387904)
def sqW (a:Nat → Int) (n:Int) (k:Nat):St:=sqS n k (lf (sqV k (l5 a)))
def sqF (a:Nat → Int) (n:Int):LF:=famA 2 [] (sqW a n 0) (bd5 (l5 a) && sqN n) .normal (sqS n n (lf (sqV n.toNat (l5 a))))
theorem sq_body:f_edwards_fe_squares.body.map (bodiesOf 0)=some [.loop sqB]:=by kernel_rfl
theorem sq_ok:codeOK prog xE_fe2.env.isW sqB=true:=by kernel_rfl
theorem l_sq (a:Nat → Int) (n:Int):LRow prog f_edwards_fe_squares 0 (sqF a n):=by
 refine LRow.famA (N:=5) (S:=sqW a n) (X3.env []) mix n.toNat (loop_of sq_body) sq_ok (fun w0 own0=>accOK_none (fun id=>rfl) sqB) (fun _ _=>Nat.le_refl _) (Nat.le_refl _) fun hck=>?_
 simp only [Bool.and_eq_true,sqN,decide_eq_true_eq] at hck
 obtain ⟨hb,h0,h1⟩:=hck
 refine ⟨fun k hk=>?_,?_⟩
 ·refine roundR_toR (sq_round n k ((k+1:Nat):Int) (lf (sqV k (l5 a))) (lf (sqV (k+1) (l5 a)))) ?_
  refine and_t.2 ⟨?_,sq_same ((wr_i64 (by omega) (by omega)).trans (by omega)) fun d _=>rfl⟩
  rw [show chk5 (l5 (lf (sqV k (l5 a))))=true from bd5_chk (sqV_bd hb k),decide_eq_true (show (k:Int) < n by omega)]
  rfl
 ·obtain ⟨s1,r,q1,q2,q3⟩:=roundR_toR (n:=2) (sq_stop n n.toNat n (lf (sqV n.toNat (l5 a))) (lf (sqV n.toNat (l5 a)))) (by
   rw [sq_same (by omega) (fun d _=>rfl),decide_eq_false (show ¬ ((n.toNat:Nat):Int) < n by omega)]; rfl)
  exact ⟨_,s1,r,q1,rfl,q2,q3⟩
theorem c_sq (a:Nat → Int) (n:Int):fnChk prog (envL tt ex3 [] [(0,sqF a n)]) f_edwards_fe_squares=true:=by kernel_rfl
theorem k_sq (a:Nat → Int) (n:Int):outP (apFunc (envL tt ex3 [] [(0,sqF a n)]) [] 5 f_edwards_fe_squares [u5 a,.sc (.int .i64 n)] []) =
  some (ckL [(bd5 (l5 a) && sqN n) && stR (rnm 2 []) (sqS n 0 a) (sqW a n 0)],u5 (lf (r5 (sqV n.toNat (l5 a))))):=by kernel_rfl
def tSquares:TF:=fun args=>match args with
 | [.agg [.ints .u64 5 a],.sc (.int .i64 n)]=>some (bd5 (l5 a) && sqN n,u5 (lf (r5 (sqV n.toNat (l5 a)))))
 | _=>none
theorem lf_l5 (a:Nat → Int):∀ d,d < 5 → a d=lf (l5 a) d
 | 0,_=>rfl
 | 1,_=>rfl
 | 2,_=>rfl
 | 3,_=>rfl
 | 4,_=>rfl
 | n+5,h=>by omega
theorem r_squares:TRow prog F_edwards_fe_squares tSquares:=by
 intro args r h
 unfold tSquares at h
 split at h
 case h_2=>simp at h
 rename_i a n
 simp only [Option.some.injEq,Prod.mk.injEq] at h
 obtain ⟨ha,rfl⟩:=h
 refine pure_of_outL X3 at_edwards_fe_squares (LsOK.nil.cons (l_sq a n)) (c_sq a n) (N:=5) (gs:=[]) ?_
 have e:=k_sq a n
 rw [ha,show stR (rnm 2 []) (sqS n 0 a) (sqW a n 0)=true from sq_same rfl (lf_l5 a)] at e
 exact e
noncomputable def ex4:List (Nat × TF):=(F_edwards_fe_squares,tSquares) :: ex3
theorem X4:LibOK prog tt ex4 []:=X3.addT r_squares
def mR (a b:List Int):List Int:=mulV (r5 a) (r5 b)
theorem mR_bd {a b:List Int} (ha:bd5 a=true) (hb:bd5 b=true):bd5 (mR a b)=true:=mulV_bd (a:=r5 a) (b:=r5 b) ha hb
theorem mR_fm {a b:List Int} (ha:bd5 a=true) (hb:bd5 b=true):fm (mR a b)=mM (fm a) (fm b):=mulV_fm (a:=r5 a) (b:=r5 b) ha hb
def sqR (n:Nat) (a:List Int):List Int:=r5 (sqV n (r5 a))
theorem sqR_bd {a:List Int} (n:Nat) (ha:bd5 a=true):bd5 (sqR n a)=true:=sqV_bd (l:=r5 a) ha n
end Go.Proofs.YtfpkegodflloiaaGreat
namespace Go.Proofs.YtfpkegodflloiaaGreat
open Go.Proofs.Tryz
open Go Go.AM
def cS_fe3 (n:Int) (a:List Int):Bool:=bd5 (r5 a) && sqN n
def cM (a b:List Int):Bool:=chk5 (r5 a) && chk5 (r5 b)
def cQ (a:List Int):Bool:=chk5 (r5 a)
theorem cS_t {n:Int} {a:List Int} (h:bd5 a=true) (hn:sqN n=true):cS_fe3 n a=true:=by unfold cS_fe3; rw [show bd5 (r5 a)=true from h,hn]; rfl
theorem cM_t {a b:List Int} (ha:bd5 a=true) (hb:bd5 b=true):cM a b=true:=by unfold cM; rw [show chk5 (r5 a)=true from bd5_chk ha,show chk5 (r5 b)=true from bd5_chk hb]; rfl
theorem cQ_t {a:List Int} (ha:bd5 a=true):cQ a=true:=bd5_chk ha
def ch2 (a:List Int):List Int:=mR a a
def ch9 (a:List Int):List Int:=mR a (sqR 2 (ch2 a))
def ch11 (a:List Int):List Int:=mR (ch9 a) (ch2 a)
def ch5x (a:List Int):List Int:=mR (ch9 a) (mR (ch11 a) (ch11 a))
def ch10x (a:List Int):List Int:=mR (ch5x a) (sqR 5 (ch5x a))
def ch20x (a:List Int):List Int:=mR (ch10x a) (sqR 10 (ch10x a))
def ch40x (a:List Int):List Int:=mR (ch20x a) (sqR 20 (ch20x a))
def ch50x (a:List Int):List Int:=mR (ch10x a) (sqR 10 (ch40x a))
def ch100x (a:List Int):List Int:=mR (ch50x a) (sqR 50 (ch50x a))
def ch200x (a:List Int):List Int:=mR (ch100x a) (sqR 100 (ch100x a))
def ch250x (a:List Int):List Int:=mR (ch50x a) (sqR 50 (ch200x a))
def chCk (a:List Int):List Bool :=
 [cQ a,cS_fe3 2 (ch2 a),cM a (sqR 2 (ch2 a)),cM (ch9 a) (ch2 a),cQ (ch11 a),cM (ch9 a) (mR (ch11 a) (ch11 a)),cS_fe3 5 (ch5x a),cM (ch5x a) (sqR 5 (ch5x a)),cS_fe3 10 (ch10x a),cM (ch10x a) (sqR 10 (ch10x a)),cS_fe3 20 (ch20x a),cM (ch20x a) (sqR 20 (ch20x a)),
  cS_fe3 10 (ch40x a),cM (ch10x a) (sqR 10 (ch40x a)),cS_fe3 50 (ch50x a),cM (ch50x a) (sqR 50 (ch50x a)),cS_fe3 100 (ch100x a),cM (ch100x a) (sqR 100 (ch100x a)),cS_fe3 50 (ch200x a),cM (ch50x a) (sqR 50 (ch200x a))]
theorem ch_bd {a:List Int} (h:bd5 a=true):bd5 (ch2 a)=true ∧ bd5 (ch9 a)=true ∧ bd5 (ch11 a)=true ∧ bd5 (ch5x a)=true ∧ bd5 (ch10x a)=true ∧ bd5 (ch20x a)=true ∧ bd5 (ch40x a)=true ∧ bd5 (ch50x a)=true ∧ bd5 (ch100x a)=true ∧ bd5 (ch200x a)=true ∧ bd5 (ch250x a)=true:=by
 have h2:=mR_bd h h
 have h9:=mR_bd h (sqR_bd 2 h2)
 have h11:=mR_bd h9 h2
 have h5:=mR_bd h9 (mR_bd h11 h11)
 have h10:=mR_bd h5 (sqR_bd 5 h5)
 have h20:=mR_bd h10 (sqR_bd 10 h10)
 have h40:=mR_bd h20 (sqR_bd 20 h20)
 have h50:=mR_bd h10 (sqR_bd 10 h40)
 have h100:=mR_bd h50 (sqR_bd 50 h50)
 have h200:=mR_bd h100 (sqR_bd 100 h100)
 exact ⟨h2,h9,h11,h5,h10,h20,h40,h50,h100,h200,mR_bd h50 (sqR_bd 50 h200)⟩
theorem chCk_law {a:List Int} (h:bd5 a=true):ckL (chCk a)=true:=by
 obtain ⟨h2,h9,h11,h5,h10,h20,h40,h50,h100,h200,h250⟩:=ch_bd h
 unfold chCk
 rw [cQ_t h,cS_t h2 (by decide),cM_t h (sqR_bd 2 h2),cM_t h9 h2,cQ_t h11,cM_t h9 (mR_bd h11 h11),cS_t h5 (by decide),cM_t h5 (sqR_bd 5 h5),cS_t h10 (by decide),cM_t h10 (sqR_bd 10 h10),cS_t h20 (by decide),cM_t h20 (sqR_bd 20 h20),
  cS_t h40 (by decide),cM_t h10 (sqR_bd 10 h40),cS_t h50 (by decide),cM_t h50 (sqR_bd 50 h50),cS_t h100 (by decide),cM_t h100 (sqR_bd 100 h100),cS_t h200 (by decide),cM_t h50 (sqR_bd 50 h200)]
 rfl
theorem mR_pow {a b:List Int} {x:Int} {m n k:Nat} (ha:bd5 a=true) (hb:bd5 b=true) (e1:fm a=powM x m) (e2:fm b=powM x n) (hk:m+n=k):fm (mR a b)=powM x k:=by
 rw [mR_fm ha hb,e1,e2,powM_mul,hk]
theorem sqR_pow {a:List Int} {x:Int} {m k:Nat} (n:Nat) (ha:bd5 a=true) (e1:fm a=powM x m) (hk:m * 2 ^ n=k):fm (sqR n a)=powM x k:=by
 have:=sqV_fm (l:=r5 a) ha (x:=x) (a:=m) e1 n
 rw [hk] at this
 exact this
theorem ch_pow {a:List Int} (h:bd5 a=true):fm (ch11 a)=powM (fm a) 11 ∧ fm (ch250x a)=powM (fm a) (2 ^ 250 - 1):=by
 obtain ⟨h2,h9,h11,h5,h10,h20,h40,h50,h100,h200,h250⟩:=ch_bd h
 have e:fm a=powM (fm a) 1:=(powM_one (fm_range a)).symm
 have e2:fm (ch2 a)=powM (fm a) 2:=mR_pow h h e e rfl
 have e9:fm (ch9 a)=powM (fm a) 9:=mR_pow h (sqR_bd 2 h2) e (sqR_pow 2 h2 e2 rfl) rfl
 have e11:fm (ch11 a)=powM (fm a) 11:=mR_pow h9 h2 e9 e2 rfl
 have e5:fm (ch5x a)=powM (fm a) (2 ^ 5 - 1):=mR_pow h9 (mR_bd h11 h11) e9 (mR_pow h11 h11 e11 e11 rfl) (by decide)
 have e10:fm (ch10x a)=powM (fm a) (2 ^ 10 - 1):=mR_pow h5 (sqR_bd 5 h5) e5 (sqR_pow 5 h5 e5 rfl) (by decide)
 have e20:fm (ch20x a)=powM (fm a) (2 ^ 20 - 1):=mR_pow h10 (sqR_bd 10 h10) e10 (sqR_pow 10 h10 e10 rfl) (by decide)
 have e40:fm (ch40x a)=powM (fm a) (2 ^ 40 - 1):=mR_pow h20 (sqR_bd 20 h20) e20 (sqR_pow 20 h20 e20 rfl) (by decide)
 have e50:fm (ch50x a)=powM (fm a) (2 ^ 50 - 1):=mR_pow h10 (sqR_bd 10 h40) e10 (sqR_pow 10 h40 e40 rfl) (by decide)
 have e100:fm (ch100x a)=powM (fm a) (2 ^ 100 - 1):=mR_pow h50 (sqR_bd 50 h50) e50 (sqR_pow 50 h50 e50 rfl) (by decide)
 have e200:fm (ch200x a)=powM (fm a) (2 ^ 200 - 1):=mR_pow h100 (sqR_bd 100 h100) e100 (sqR_pow 100 h100 e100 rfl) (by decide)
 exact ⟨e11,mR_pow h50 (sqR_bd 50 h200) e50 (sqR_pow 50 h200 e200 rfl) (by decide)⟩
theorem c_chain:fnChk prog (envP tt ex4 []) f_edwards_fe_chain=true:=by kernel_rfl
theorem k_chain (a:Nat → Int):(outP (apFunc (envP tt ex4 []) [] 60 f_edwards_fe_chain [u5 a] [])).map (·.2)=some (.tup [u5 (lf (r5 (ch250x (l5 a)))),u5 (lf (r5 (ch11 (l5 a))))]):=by kernel_rfl
theorem ck_chain (a:Nat → Int):(outP (apFunc (envP tt ex4 []) [] 60 f_edwards_fe_chain [u5 a] [])).map (·.1)=some (ckL (chCk (l5 a))):=by kernel_rfl
def tChain:TF:=fun args=>match args with
 | [.agg [.ints .u64 5 a]]=>some (bd5 (l5 a),.tup [u5 (lf (r5 (ch250x (l5 a)))),u5 (lf (r5 (ch11 (l5 a))))])
 | _=>none
theorem r_chain:TRow prog F_edwards_fe_chain tChain:=by
 intro args r h
 unfold tChain at h
 split at h
 case h_2=>simp at h
 rename_i a
 simp only [Option.some.injEq,Prod.mk.injEq] at h
 obtain ⟨ha,rfl⟩:=h
 refine pure_of_out X4 at_edwards_fe_chain c_chain (N:=60) (gs:=[]) ?_
 have e:=both (ck_chain a) (k_chain a)
 rw [chCk_law ha] at e
 exact e
noncomputable def ex5:List (Nat × TF):=(F_edwards_fe_chain,tChain) :: ex4
theorem X5:LibOK prog tt ex5 []:=X4.addT r_chain
def invV (a:List Int):List Int:=mR (sqR 5 (r5 (ch250x a))) (r5 (ch11 a))
def e8V (a:List Int):List Int:=mR (sqR 2 (r5 (ch250x a))) a
theorem invV_law {a:List Int} (h:bd5 a=true):bd5 (invV a)=true ∧ fm (invV a)=powM (fm a) 57896044618658097711785492504343953926634992332820282019728792003956564819947:=by
 obtain ⟨h2,h9,h11,h5,h10,h20,h40,h50,h100,h200,h250⟩:=ch_bd h
 obtain ⟨e11,e250⟩:=ch_pow h
 exact ⟨mR_bd (sqR_bd 5 (a:=r5 (ch250x a)) h250) (b:=r5 (ch11 a)) h11,mR_pow (sqR_bd 5 (a:=r5 (ch250x a)) h250) (b:=r5 (ch11 a)) h11 (sqR_pow 5 (a:=r5 (ch250x a)) h250 e250 rfl) e11 (by decide)⟩
theorem e8V_law {a:List Int} (h:bd5 a=true):bd5 (e8V a)=true ∧ fm (e8V a)=powM (fm a) 7237005577332262213973186563042994240829374041602535252466099000494570602493:=by
 obtain ⟨h2,h9,h11,h5,h10,h20,h40,h50,h100,h200,h250⟩:=ch_bd h
 obtain ⟨e11,e250⟩:=ch_pow h
 exact ⟨mR_bd (sqR_bd 2 (a:=r5 (ch250x a)) h250) h,mR_pow (sqR_bd 2 (a:=r5 (ch250x a)) h250) h (sqR_pow 2 (a:=r5 (ch250x a)) h250 e250 rfl) (powM_one (fm_range a)).symm (by decide)⟩
theorem c_inv:fnChk prog (envP tt ex5 []) f_edwards_fe_inverse=true:=by kernel_rfl
theorem c_e8:fnChk prog (envP tt ex5 []) f_edwards_fe_eighth=true:=by kernel_rfl
theorem k_inv (a:Nat → Int):outP (apFunc (envP tt ex5 []) [] 60 f_edwards_fe_inverse [u5 a] [])=some (ckL [bd5 (l5 a),cS_fe3 5 (r5 (ch250x (l5 a))),cM (sqR 5 (r5 (ch250x (l5 a)))) (r5 (ch11 (l5 a)))],u5 (lf (r5 (invV (l5 a))))):=by kernel_rfl
theorem k_e8 (a:Nat → Int):outP (apFunc (envP tt ex5 []) [] 60 f_edwards_fe_eighth [u5 a] [])=some (ckL [bd5 (l5 a),cS_fe3 2 (r5 (ch250x (l5 a))),cM (sqR 2 (r5 (ch250x (l5 a)))) (l5 a)],u5 (lf (r5 (e8V (l5 a))))):=by kernel_rfl
def tInv:TF:=fun args=>match args with
 | [.agg [.ints .u64 5 a]]=>some (bd5 (l5 a),u5 (lf (r5 (invV (l5 a)))))
 | _=>none
def tE8:TF:=fun args=>match args with
 | [.agg [.ints .u64 5 a]]=>some (bd5 (l5 a),u5 (lf (r5 (e8V (l5 a)))))
 | _=>none
theorem r_inv:TRow prog F_edwards_fe_inverse tInv:=by
 intro args r h
 unfold tInv at h
 split at h
 case h_2=>simp at h
 rename_i a
 simp only [Option.some.injEq,Prod.mk.injEq] at h
 obtain ⟨ha,rfl⟩:=h
 obtain ⟨h2,h9,h11,h5,h10,h20,h40,h50,h100,h200,h250⟩:=ch_bd ha
 refine pure_of_out X5 at_edwards_fe_inverse c_inv (N:=60) (gs:=[]) ?_
 have e:=k_inv a
 rw [ha,cS_t (a:=r5 (ch250x (l5 a))) h250 (by decide),cM_t (sqR_bd 5 (a:=r5 (ch250x (l5 a))) h250) (b:=r5 (ch11 (l5 a))) h11] at e
 exact e
theorem r_e8:TRow prog F_edwards_fe_eighth tE8:=by
 intro args r h
 unfold tE8 at h
 split at h
 case h_2=>simp at h
 rename_i a
 simp only [Option.some.injEq,Prod.mk.injEq] at h
 obtain ⟨ha,rfl⟩:=h
 obtain ⟨h2,h9,h11,h5,h10,h20,h40,h50,h100,h200,h250⟩:=ch_bd ha
 refine pure_of_out X5 at_edwards_fe_eighth c_e8 (N:=60) (gs:=[]) ?_
 have e:=k_e8 a
 rw [ha,cS_t (a:=r5 (ch250x (l5 a))) h250 (by decide),cM_t (sqR_bd 2 (a:=r5 (ch250x (l5 a))) h250) ha] at e
 exact e
noncomputable def ex6:List (Nat × TF):=(F_edwards_fe_eighth,tE8) :: (F_edwards_fe_inverse,tInv) :: ex5
theorem X6:LibOK prog tt ex6 []:=(X5.addT r_inv).addT r_e8
end Go.Proofs.YtfpkegodflloiaaGreat
namespace Go.Proofs.YtfpkegodflloiaaGreat
open Go.Proofs.Tryz
open Go Go.AM
def rmL:List Int:=loadL 19681161376707505956807079304988542015446066515923890162744021073123829784752
def tRm:TF:=fun args=>match args with
 | []=>some (true,u5 (lf rmL))
 | _=>none
theorem c_rm:fnChk prog (envP tt ex6 []) f_edwards_rootOfMinus1=true:=by kernel_rfl
theorem r_rm:TRow prog F_edwards_rootOfMinus1 tRm:=by
 intro args r h
 unfold tRm at h
 split at h
 case h_2=>simp at h
 simp only [Option.some.injEq,Prod.mk.injEq,true_and] at h
 subst h
 exact pure_of_out X6 at_edwards_rootOfMinus1 c_rm (N:=60) (gs:=[]) (by kernel_rfl)
noncomputable def ex7:List (Nat × TF):=(F_edwards_rootOfMinus1,tRm) :: ex6
theorem X7:LibOK prog tt ex7 []:=X6.addT r_rm
def iM:Int:=19681161376707505956807079304988542015446066515923890162744021073123829784752
theorem rm_law:bd5 rmL=true ∧ fm rmL=iM:=by
 obtain ⟨h1,h2⟩:=loadL_law (v:=iM) (by decide)
 exact ⟨h1,h2.trans (by decide)⟩
def rv3 (V:List Int):List Int:=mR (mR V V) V
def rw7 (U V:List Int):List Int:=mR U (mR (mR (rv3 V) (rv3 V)) V)
def rx0 (U V:List Int):List Int:=mR (mR U (rv3 V)) (r5 (e8V (r5 (rw7 U V))))
def rxk (U V:List Int):Nat → List Int
 | 0=>rx0 U V
 | k+1=>mR (rxk U V k) rmL
def rok (U V x:List Int):Bool:=decide (fm (r5 (mR V (mR x x)))=fm (r5 U))
theorem rx0_bd {U V:List Int} (hu:bd5 U=true) (hv:bd5 V=true):bd5 (rv3 V)=true ∧ bd5 (rw7 U V)=true ∧ bd5 (rx0 U V)=true:=by
 have h3:=mR_bd (mR_bd hv hv) hv
 have h7:=mR_bd hu (mR_bd (mR_bd h3 h3) hv)
 exact ⟨h3,h7,mR_bd (mR_bd hu h3) (b:=r5 (e8V (r5 (rw7 U V)))) (e8V_law (a:=r5 (rw7 U V)) h7).1⟩
theorem rxk_bd {U V:List Int} (hu:bd5 U=true) (hv:bd5 V=true):∀ k,bd5 (rxk U V k)=true
 | 0=>(rx0_bd hu hv).2.2
 | k+1=>mR_bd (rxk_bd hu hv k) rm_law.1
noncomputable abbrev rtE:EnvP:=envP tt ex7 []
noncomputable def rtB:Code:=match f_edwards_root.body with | some c=>(match bodiesOf 0 c with | [.loop b]=>b | _=>.skip) | none=>.skip
def rtS (u v:Nat → Int) (i:Int) (x:Nat → Int):St:=⟨tmOf [(2,.sc (.ptr 0 5 0 0 5)),(3,.sc (.ptr 1 5 0 0 5)),(4,.sc (.ptr 2 5 0 0 5)),(7,.sc (.ptr 4 5 0 0 5)),(23,.sc (.int .i64 i))] 37 0,
 [some (.ints .u64 5 1 (fun _ d=>u d)),some (.ints .u64 5 1 (fun _ d=>v d)),some (.ints .u64 5 1 (fun _ _=>0)),none,some (.ints .u64 5 1 (fun _ d=>x d))]⟩
def rtT1 (x:Nat → Int):St:=⟨tmOf [(4,.sc (.ptr 2 5 0 0 5)),(5,.sc (.bool true))] 37 0,[none,none,some (.ints .u64 5 1 (fun _ d=>x d)),none,none]⟩
def rtT2 (x:Nat → Int):St:=⟨tmOf [(4,.sc (.ptr 2 5 0 0 5)),(7,.sc (.ptr 4 5 0 0 5))] 37 0,[none,none,some (.ints .u64 5 1 (fun _ _=>0)),none,some (.ints .u64 5 1 (fun _ d=>x d))]⟩
def rtCk (U V X:List Int) (g:Bool):List Bool:=[cQ X,cM V (mR X X),(bd5 (r5 (mR V (mR X X))) && bd5 (r5 U)) && (rok U V X == g)]
theorem rt_round (u v:Nat → Int) (i i':Int) (x x':Nat → Int):roundR rtE [(24,true),(30,false)] 5 5 [] rtB (rtS u v i x) .normal (rtS u v i' x') =
  some (ckL ([decide (i < 2) == true] ++ rtCk (l5 u) (l5 v) (l5 x) false ++ [cM (l5 x) rmL]) && stR (rnm 5 []) (rtS u v (wr .i64 (i+1)) (lf (mR (l5 x) rmL))) (rtS u v i' x')):=by kernel_rfl
theorem rt_ret (u v:Nat → Int) (i:Int) (x x':Nat → Int):roundR rtE [(24,true),(30,true)] 5 5 [] rtB (rtS u v i x) .ret (rtT1 x') =
  some (ckL ([decide (i < 2) == true] ++ rtCk (l5 u) (l5 v) (l5 x) true) && stR (rnm 5 []) (rtT1 x) (rtT1 x')):=by kernel_rfl
theorem rt_exit (u v:Nat → Int) (i:Int) (x x':Nat → Int):roundR rtE [(24,false)] 5 5 [] rtB (rtS u v i x) (.exit 0) (rtT2 x') =
  some (ckL [decide (i < 2) == false] && stR (rnm 5 []) (rtT2 x) (rtT2 x')):=by kernel_rfl
theorem rt_same {u v:Nat → Int} {i i':Int} {f g:Nat → Int} (hv:i=i') (h:∀ d,d < 5 → f d=g d):stR (rnm 5 []) (rtS u v i f) (rtS u v i' g)=true:=by
 subst hv
 have e:eqF 1 5 (fun _ d=>f d) (fun _ d=>g d)=true:=eqF_of fun r _ d hd=>h d hd
 simp [stR,rtS,tmOf,tmR,avR,svR,rIs,rnm,kEq_refl,eqF_refl,hpR,blkR,ndR,e]
 decide
theorem rt_same1 {f g:Nat → Int} (h:∀ d,d < 5 → f d=g d):stR (rnm 5 []) (rtT1 f) (rtT1 g)=true:=by
 have e:eqF 1 5 (fun _ d=>f d) (fun _ d=>g d)=true:=eqF_of fun r _ d hd=>h d hd
 simp [stR,rtT1,tmOf,tmR,avR,svR,rIs,rnm,kEq_refl,eqF_refl,hpR,blkR,ndR,e]
theorem rt_same2 {f g:Nat → Int} (h:∀ d,d < 5 → f d=g d):stR (rnm 5 []) (rtT2 f) (rtT2 g)=true:=by
 have e:eqF 1 5 (fun _ d=>f d) (fun _ d=>g d)=true:=eqF_of fun r _ d hd=>h d hd
 simp [stR,rtT2,tmOf,tmR,avR,svR,rIs,rnm,kEq_refl,eqF_refl,hpR,blkR,ndR,e]
 decide
def rtW (u v:Nat → Int) (k:Nat):St:=rtS u v k (lf (rxk (l5 u) (l5 v) k))
def rtCd (u v:Nat → Int):Bool:=bd5 (l5 u) && bd5 (l5 v)
def rtM (u v:Nat → Int):Nat:=bif rok (l5 u) (l5 v) (r5 (rxk (l5 u) (l5 v) 0)) then 0 else bif rok (l5 u) (l5 v) (r5 (rxk (l5 u) (l5 v) 1)) then 1 else 2
def rtFr (u v:Nat → Int):LF:=famA 5 [] (rtW u v 0) (rtCd u v && Nat.ble (rtM u v) 1) .ret (rtT1 (lf (rxk (l5 u) (l5 v) (rtM u v))))
def rtFx (u v:Nat → Int):LF:=famA 5 [] (rtW u v 0) (rtCd u v && Nat.beq (rtM u v) 2) .normal (rtT2 (lf (rxk (l5 u) (l5 v) 2)))
theorem rt_body:f_edwards_root.body.map (bodiesOf 0)=some [.loop rtB]:=by kernel_rfl
theorem rt_ok:codeOK prog rtE.env.isW rtB=true:=by kernel_rfl
theorem rtCk_law {U V X:List Int} {g:Bool} (hu:bd5 U=true) (hv:bd5 V=true) (hx:bd5 X=true) (hg:rok U V X=g):rtCk U V X g=[true,true,true]:=by
 subst hg
 have h:=mR_bd hv (mR_bd hx hx)
 unfold rtCk
 rw [cQ_t hx,cM_t hv (mR_bd hx hx),show bd5 (r5 (mR V (mR X X)))=true from h,show bd5 (r5 U)=true from hu,beq_self_eq_true]; rfl
theorem rt_not (u v:Nat → Int) (k:Nat) (hk:k < rtM u v):rok (l5 u) (l5 v) (r5 (rxk (l5 u) (l5 v) k))=false:=by
 unfold rtM at hk
 cases h0:rok (l5 u) (l5 v) (r5 (rxk (l5 u) (l5 v) 0)) with
 | true=>rw [h0] at hk; exact absurd hk (Nat.not_lt_zero _)
 | false =>
  rw [h0] at hk
  cases h1:rok (l5 u) (l5 v) (r5 (rxk (l5 u) (l5 v) 1)) with
  | true =>
   rw [h1] at hk
   obtain rfl:k=0:=by have:k < 1:=hk; omega
   exact h0
  | false =>
   rw [h1] at hk
   have:k < 2:=hk
   match k,this with
   | 0,_=>exact h0
   | 1,_=>exact h1
theorem rtM_le (u v:Nat → Int):rtM u v ≤ 2:=by
 unfold rtM
 cases rok (l5 u) (l5 v) (r5 (rxk (l5 u) (l5 v) 0)) <;> cases rok (l5 u) (l5 v) (r5 (rxk (l5 u) (l5 v) 1)) <;> decide
theorem rt_yes (u v:Nat → Int) (h:rtM u v ≤ 1):rok (l5 u) (l5 v) (r5 (rxk (l5 u) (l5 v) (rtM u v)))=true:=by
 unfold rtM at h ⊢
 cases h0:rok (l5 u) (l5 v) (r5 (rxk (l5 u) (l5 v) 0)) with
 | true=>exact h0
 | false =>
  rw [h0] at h
  cases h1:rok (l5 u) (l5 v) (r5 (rxk (l5 u) (l5 v) 1)) with
  | true=>exact h1
  | false=>rw [h1] at h; exact absurd h (by decide)
theorem rt_step {u v:Nat → Int} (hu:bd5 (l5 u)=true) (hv:bd5 (l5 v)=true) (k:Nat) (hk:k < rtM u v):∃ s1 r,am rtE.env 5 rtB (rtW u v k)=some (.normal,s1) ∧ StLeR r s1 (rtW u v (k+1)) ∧ ∀ i,i < 5 → r i=some i:=by
 have hm:=rtM_le u v
 refine roundR_toR (rt_round u v k ((k+1:Nat):Int) (lf (rxk (l5 u) (l5 v) k)) (lf (rxk (l5 u) (l5 v) (k+1)))) ?_
 refine and_t.2 ⟨?_,rt_same ((wr_i64 (by omega) (by omega)).trans (by omega)) fun d _=>rfl⟩
 have hx:bd5 (r5 (rxk (l5 u) (l5 v) k))=true:=rxk_bd hu hv k
 rw [show l5 (lf (rxk (l5 u) (l5 v) k))=r5 (rxk (l5 u) (l5 v) k) from rfl,rtCk_law hu hv hx (rt_not u v k hk),cM_t hx rm_law.1,decide_eq_true (show (k:Int) < 2 by omega)]
 rfl
theorem l_rtr (u v:Nat → Int):LRow prog f_edwards_root 0 (rtFr u v):=by
 refine LRow.famA (N:=5) (S:=rtW u v) (X7.env []) mix (rtM u v) (loop_of rt_body) rt_ok (fun w0 own0=>accOK_none (fun id=>rfl) rtB) (fun _ _=>Nat.le_refl _) (Nat.le_refl _) fun hck=>?_
 simp only [Bool.and_eq_true,rtCd,ble_t] at hck
 obtain ⟨⟨hu,hv⟩,hm⟩:=hck
 refine ⟨fun k hk=>rt_step hu hv k hk,?_⟩
 have hx:bd5 (r5 (rxk (l5 u) (l5 v) (rtM u v)))=true:=rxk_bd hu hv _
 obtain ⟨s1,r,q1,q2,q3⟩:=roundR_toR (n:=5) (rt_ret u v (rtM u v) (lf (rxk (l5 u) (l5 v) (rtM u v))) (lf (rxk (l5 u) (l5 v) (rtM u v)))) (by
  refine and_t.2 ⟨?_,rt_same1 fun d _=>rfl⟩
  rw [show l5 (lf (rxk (l5 u) (l5 v) (rtM u v)))=r5 (rxk (l5 u) (l5 v) (rtM u v)) from rfl,rtCk_law hu hv hx (rt_yes u v hm),decide_eq_true (show ((rtM u v:Nat):Int) < 2 by omega)]
  rfl)
 exact ⟨_,s1,r,q1,rfl,q2,q3⟩
theorem l_rtx (u v:Nat → Int):LRow prog f_edwards_root 0 (rtFx u v):=by
 refine LRow.famA (N:=5) (S:=rtW u v) (X7.env []) mix (rtM u v) (loop_of rt_body) rt_ok (fun w0 own0=>accOK_none (fun id=>rfl) rtB) (fun _ _=>Nat.le_refl _) (Nat.le_refl _) fun hck=>?_
 simp only [Bool.and_eq_true,rtCd,beq_t] at hck
 obtain ⟨⟨hu,hv⟩,hm⟩:=hck
 refine ⟨fun k hk=>rt_step hu hv k hk,?_⟩
 rw [hm]
 obtain ⟨s1,r,q1,q2,q3⟩:=roundR_toR (n:=5) (rt_exit u v 2 (lf (rxk (l5 u) (l5 v) 2)) (lf (rxk (l5 u) (l5 v) 2))) (by
  refine and_t.2 ⟨rfl,rt_same2 fun d _=>rfl⟩)
 exact ⟨_,s1,r,q1,rfl,q2,q3⟩
def rtCk0 (U V:List Int):List Bool:=[cQ V,cM (mR V V) V,cM U (rv3 V),cQ (rv3 V),cM (mR (rv3 V) (rv3 V)) V,cM U (mR (mR (rv3 V) (rv3 V)) V),bd5 (r5 (rw7 U V)),cM (mR U (rv3 V)) (r5 (e8V (r5 (rw7 U V))))]
theorem c_rtr (u v:Nat → Int):fnChk prog (envL tt ex7 [] [(0,rtFr u v)]) f_edwards_root=true:=by kernel_rfl
theorem c_rtx (u v:Nat → Int):fnChk prog (envL tt ex7 [] [(0,rtFx u v)]) f_edwards_root=true:=by kernel_rfl
theorem k_rtr (u v:Nat → Int):outP (apFunc (envL tt ex7 [] [(0,rtFr u v)]) [] 5 f_edwards_root [u5 u,u5 v] []) =
  some (ckL (rtCk0 (l5 u) (l5 v) ++ [(rtCd u v && Nat.ble (rtM u v) 1) && stR (rnm 5 []) (rtS u v 0 (lf (rx0 (l5 u) (l5 v)))) (rtW u v 0)]),.tup [u5 (lf (r5 (rxk (l5 u) (l5 v) (rtM u v)))),.sc (.bool true)]):=by kernel_rfl
theorem k_rtx (u v:Nat → Int):outP (apFunc (envL tt ex7 [] [(0,rtFx u v)]) [] 5 f_edwards_root [u5 u,u5 v] []) =
  some (ckL (rtCk0 (l5 u) (l5 v) ++ [(rtCd u v && Nat.beq (rtM u v) 2) && stR (rnm 5 []) (rtS u v 0 (lf (rx0 (l5 u) (l5 v)))) (rtW u v 0)]),.tup [u5 (lf (r5 (rxk (l5 u) (l5 v) 2))),.sc (.bool false)]):=by kernel_rfl
theorem rtCk0_law {U V:List Int} (hu:bd5 U=true) (hv:bd5 V=true):rtCk0 U V=List.replicate 8 true:=by
 obtain ⟨h3,h7,hx⟩:=rx0_bd hu hv
 unfold rtCk0
 rw [cQ_t hv,cM_t (mR_bd hv hv) hv,cM_t hu h3,cQ_t h3,cM_t (mR_bd h3 h3) hv,cM_t hu (mR_bd (mR_bd h3 h3) hv),show bd5 (r5 (rw7 U V))=true from h7,cM_t (mR_bd hu h3) (b:=r5 (e8V (r5 (rw7 U V)))) (e8V_law (a:=r5 (rw7 U V)) h7).1]
 rfl
def tRoot:TF:=fun args=>match args with
 | [.agg [.ints .u64 5 u],.agg [.ints .u64 5 v]]=>some (rtCd u v,.tup [u5 (lf (r5 (rxk (l5 u) (l5 v) (rtM u v)))),.sc (.bool (Nat.ble (rtM u v) 1))])
 | _=>none
theorem r_root:TRow prog F_edwards_root tRoot:=by
 intro args r h
 unfold tRoot at h
 split at h
 case h_2=>simp at h
 rename_i u v
 simp only [Option.some.injEq,Prod.mk.injEq] at h
 obtain ⟨hc,rfl⟩:=h
 have hc':=hc
 simp only [Bool.and_eq_true,rtCd] at hc'
 obtain ⟨hu,hv⟩:=hc'
 have hs:stR (rnm 5 []) (rtS u v 0 (lf (rx0 (l5 u) (l5 v)))) (rtW u v 0)=true:=rt_same rfl fun d _=>rfl
 have hm:=rtM_le u v
 by_cases e:rtM u v ≤ 1
 ·refine pure_of_outL X7 at_edwards_root (LsOK.nil.cons (l_rtr u v)) (c_rtr u v) (N:=5) (gs:=[]) ?_
  have k:=k_rtr u v
  have hb:Nat.ble (rtM u v) 1=true:=Nat.ble_eq_true_of_le e
  rw [rtCk0_law hu hv,hc,hb,hs] at k
  rw [hb]
  exact k
 ·have e2:rtM u v=2:=by omega
  refine pure_of_outL X7 at_edwards_root (LsOK.nil.cons (l_rtx u v)) (c_rtx u v) (N:=5) (gs:=[]) ?_
  have k:=k_rtx u v
  rw [rtCk0_law hu hv,hc,e2,hs] at k
  rw [e2]
  exact k
noncomputable def ex8:List (Nat × TF):=(F_edwards_root,tRoot) :: ex7
theorem X8:LibOK prog tt ex8 []:=X7.addT r_root
end Go.Proofs.YtfpkegodflloiaaGreat
namespace Go.Proofs.YtfpkegodflloiaaGreat
open Go.Proofs.Tryz
open Go Go.AM
def idP:List Int:=[0,0,0,0,0,1,0,0,0,0,1,0,0,0,0,0,0,0,0,0]
theorem idP_law:bdP (lf idP)=true ∧ vP (lf idP)=idS4:=by decide
def tIdent:TF:=fun args=>match args with
 | []=>some (true,pt (lf idP))
 | _=>none
theorem c_ident:fnChk prog (envP tt ex8 []) f_edwards_identity=true:=by kernel_rfl
theorem r_ident:TRow prog F_edwards_identity tIdent:=by
 intro args r h
 unfold tIdent at h
 split at h
 case h_2=>simp at h
 simp only [Option.some.injEq,Prod.mk.injEq,true_and] at h
 subst h
 exact pure_of_out X8 at_edwards_identity c_ident (N:=60) (gs:=[]) (by kernel_rfl)
noncomputable def ex9:List (Nat × TF):=(F_edwards_identity,tIdent) :: ex8
theorem X9:LibOK prog tt ex9 []:=X8.addT r_ident
def tbV (p:Nat → Int):Nat → List Int
 | 0=>idP
 | j+1=>ptAdd (lf (tbV p j)) p
theorem tbV_bd {p:Nat → Int} (h:bdP p=true):∀ j,bdP (lf (tbV p j))=true
 | 0=>idP_law.1
 | j+1=>(ptAdd_law (tbV_bd h j) h).1
def tbS (p:Q4):Nat → Q4
 | 0=>idS4
 | j+1=>addS (tbS p j) p
theorem tbV_law {p:Nat → Int} (h:bdP p=true):∀ j,vP (lf (tbV p j))=tbS (vP p) j
 | 0=>idP_law.2
 | j+1=>by
  show vP (lf (ptAdd (lf (tbV p j)) p))=_
  rw [(ptAdd_law (tbV_bd h j) h).2,tbV_law h j]; rfl
noncomputable abbrev tmE:EnvP:=envP tt ex9 []
noncomputable def tm0B:Code:=match f_edwards_point_times.body with | some c=>(match bodiesOf 0 c with | [.loop b]=>b | _=>.skip) | none=>.skip
noncomputable def tm2B:Code:=match f_edwards_point_times.body with | some c=>(match bodiesOf 2 c with | [.loop b]=>b | _=>.skip) | none=>.skip
def tm0S (p s:Nat → Int) (v:Int) (T:Nat → Int):St:=⟨tmOf [(2,.sc (.ptr 0 20 0 0 20)),(3,.sc (.ptr 1 32 0 0 32)),(4,.sc (.ptr 2 20 0 0 20)),(5,.sc (.ptr 3 320 0 0 320)),(12,.sc (.int .i64 v))] 51 0,
 [some (.ints .u64 20 1 (fun _ d=>p d)),some (.ints .u8 32 1 (fun _ d=>s d)),some (.ints .u64 20 1 (fun _ _=>0)),some (.ints .u64 320 1 (fun _ d=>T d))]⟩
def tm0T (p s:Nat → Int) (T:Nat → Int):St:=⟨tmOf [(2,.sc (.ptr 0 20 0 0 20)),(3,.sc (.ptr 1 32 0 0 32)),(4,.sc (.ptr 2 20 0 0 20)),(5,.sc (.ptr 3 320 0 0 320))] 51 0,
 [some (.ints .u64 20 1 (fun _ d=>p d)),some (.ints .u8 32 1 (fun _ d=>s d)),some (.ints .u64 20 1 (fun _ _=>0)),some (.ints .u64 320 1 (fun _ d=>T d))]⟩
def put20 (T g:Nat → Int) (c:Nat):Nat → Int:=fun d=>bif Nat.ble c d && Nat.ble (d+1) (c+20) then g (d - c) else T d
def tmA (v:Int):Nat:=0+(wr .i64 (v+1)).toNat * 20
def tmG (p T:Nat → Int) (v:Int):List Int:=ptAdd (fun j=>T (0+v.toNat * 20+j)) (fun j=>p (0+j))
theorem tm0_round (p s:Nat → Int) (v v':Int) (T T':Nat → Int):roundR tmE [(13,true)] 5 4 [] tm0B (tm0S p s v T) .normal (tm0S p s v' T') =
  some (ckL [decide (v < 15) == true,inR v 16,chkP (fun j=>T (0+v.toNat * 20+j)) && chkP (fun j=>p (0+j)),inR (wr .i64 (v+1)) 16] && stR (rnm 4 []) (tm0S p s (wr .i64 (v+1)) (put20 T (lf (tmG p T v)) (tmA v))) (tm0S p s v' T')):=by kernel_rfl
theorem tm0_exit (p s:Nat → Int) (v:Int) (T T':Nat → Int):roundR tmE [(13,false)] 5 4 [] tm0B (tm0S p s v T) (.exit 0) (tm0T p s T') =
  some (ckL [decide (v < 15) == false] && stR (rnm 4 []) (tm0T p s T) (tm0T p s T')):=by kernel_rfl
def tbF (p:Nat → Int) (k:Nat):Nat → Int:=fun d=>bif Nat.ble (d+1) (20 * (k+1)) then lf (tbV p (d / 20)) (d % 20) else 0
theorem ble_ff {a b:Nat} (h:b < a):Nat.ble a b=false:=by
 cases hb:Nat.ble a b with
 | false=>rfl
 | true=>have:=Nat.le_of_ble_eq_true hb; omega
theorem tbF_lt {p:Nat → Int} {k d:Nat} (h:d < 20 * (k+1)):tbF p k d=lf (tbV p (d / 20)) (d % 20):=by
 unfold tbF; rw [Nat.ble_eq_true_of_le h]; rfl
theorem tbF_ge {p:Nat → Int} {k d:Nat} (h:20 * (k+1) ≤ d):tbF p k d=0:=by
 unfold tbF; rw [ble_ff (by omega)]; rfl
theorem tb_ext {p q:Nat → Int} (h:∀ d,d < 20 → p d=q d):px p=px q ∧ py p=py q ∧ pz p=pz q ∧ pT p=pT q:=by
 simp only [px,py,pz,pT,h 0 (by omega),h 1 (by omega),h 2 (by omega),h 3 (by omega),h 4 (by omega),h 5 (by omega),h 6 (by omega),h 7 (by omega),h 8 (by omega),h 9 (by omega),h 10 (by omega),h 11 (by omega),h 12 (by omega),h 13 (by omega),h 14 (by omega),h 15 (by omega),h 16 (by omega),h 17 (by omega),h 18 (by omega),h 19 (by omega),and_self]
theorem ptAdd_ext {p q p' q':Nat → Int} (h:∀ d,d < 20 → p d=p' d) (h':∀ d,d < 20 → q d=q' d):ptAdd p q=ptAdd p' q':=by
 obtain ⟨e1,e2,e3,e4⟩:=tb_ext h
 obtain ⟨f1,f2,f3,f4⟩:=tb_ext h'
 unfold ptAdd
 rw [e1,e2,e3,e4,f1,f2,f3,f4]
theorem chkP_ext {p p':Nat → Int} (h:∀ d,d < 20 → p d=p' d):chkP p=chkP p':=by
 obtain ⟨e1,e2,e3,e4⟩:=tb_ext h
 unfold chkP
 rw [e1,e2,e3,e4]
theorem tm_row {p:Nat → Int} {k j:Nat} (hj:j ≤ k):∀ d,d < 20 → tbF p k (20 * j+d)=lf (tbV p j) d:=fun d hd=>by
 rw [tbF_lt (by omega),show (20 * j+d) / 20=j by omega,show (20 * j+d) % 20=d by omega]
theorem tm0_same {p s:Nat → Int} {v v':Int} {T T':Nat → Int} (hv:v=v') (h:∀ d,d < 320 → T d=T' d):stR (rnm 4 []) (tm0S p s v T) (tm0S p s v' T')=true:=by
 subst hv
 have e:eqF 1 320 (fun _ d=>T d) (fun _ d=>T' d)=true:=eqF_of fun r _ d hd=>h d hd
 simp [stR,tm0S,tmOf,tmR,avR,svR,rIs,rnm,kEq_refl,eqF_refl,hpR,blkR,ndR,e]
 decide
theorem tm0_sameT {p s:Nat → Int} {T T':Nat → Int} (h:∀ d,d < 320 → T d=T' d):stR (rnm 4 []) (tm0T p s T) (tm0T p s T')=true:=by
 have e:eqF 1 320 (fun _ d=>T d) (fun _ d=>T' d)=true:=eqF_of fun r _ d hd=>h d hd
 simp [stR,tm0T,tmOf,tmR,avR,svR,rIs,rnm,kEq_refl,eqF_refl,hpR,blkR,ndR,e]
 decide
def tm0W (p s:Nat → Int) (k:Nat):St:=tm0S p s k (tbF p k)
def tm0F (p s:Nat → Int):LF:=famA 4 [] (tm0W p s 0) (bdP p) .normal (tm0T p s (tbF p 15))
theorem tm0_body:f_edwards_point_times.body.map (bodiesOf 0)=some [.loop tm0B]:=by kernel_rfl
theorem tm0_ok:codeOK prog tmE.env.isW tm0B=true:=by kernel_rfl
theorem l_tm0 (p s:Nat → Int):LRow prog f_edwards_point_times 0 (tm0F p s):=by
 refine LRow.famA (N:=5) (S:=tm0W p s) (X9.env []) mix 15 (loop_of tm0_body) tm0_ok (fun w0 own0=>accOK_none (fun id=>rfl) tm0B) (fun _ _=>Nat.le_refl _) (Nat.le_refl _) fun hp=>?_
 refine ⟨fun k hk=>?_,?_⟩
 ·refine roundR_toR (tm0_round p s k ((k+1:Nat):Int) (tbF p k) (tbF p (k+1))) ?_
  have e1:wr .i64 ((k:Int)+1)=((k+1:Nat):Int):=(wr_i64 (by omega) (by omega)).trans (by omega)
  have hrow:∀ d,d < 20 → tbF p k (0+(k:Int).toNat * 20+d)=lf (tbV p k) d:=fun d hd=>by
   rw [show 0+(k:Int).toNat * 20+d=20 * k+d by omega]; exact tm_row (Nat.le_refl k) d hd
  have hp0:∀ d,d < 20 → p (0+d)=p d:=fun d _=>by rw [Nat.zero_add]
  refine and_t.2 ⟨?_,tm0_same e1 fun d hd=>?_⟩
  ·rw [chkP_ext hrow,bdP_chk (tbV_bd hp k),chkP_ext hp0,bdP_chk hp,e1,inR_lt (show k < 16 by omega),inR_lt (show k+1 < 16 by omega),decide_eq_true (show (k:Int) < 15 by omega)]
   rfl
  ·have eA:tmA (k:Int)=20 * (k+1):=by unfold tmA; rw [e1]; omega
   have eG:tmG p (tbF p k) (k:Int)=tbV p (k+1):=ptAdd_ext hrow hp0
   unfold put20
   rw [eA,eG]
   by_cases h1:d < 20 * (k+1)
   ·rw [ble_ff (by omega),tbF_lt h1,tbF_lt (k:=k+1) (by omega)]; rfl
   ·rw [Nat.ble_eq_true_of_le (by omega)]
    by_cases h2:d < 20 * (k+1)+20
    ·rw [Nat.ble_eq_true_of_le h2,tbF_lt (k:=k+1) (by omega),show d / 20=k+1 by omega,show d % 20=d - 20 * (k+1) by omega]; rfl
    ·rw [ble_ff (a:=d+1) (by omega),tbF_ge (k:=k) (by omega),tbF_ge (k:=k+1) (by omega)]; rfl
 ·obtain ⟨s1,r,q1,q2,q3⟩:=roundR_toR (n:=4) (tm0_exit p s 15 (tbF p 15) (tbF p 15)) (and_t.2 ⟨rfl,tm0_sameT fun _ _=>rfl⟩)
  exact ⟨_,s1,r,q1,rfl,q2,q3⟩
def nbI (s:Nat → Int) (v:Int):Int:=iand .u8 (ishr .u8 (s (0+(wr .i64 (v.tdiv 2)).toNat * 1)) (wr .i64 (4 * v.tmod 2))) 15
def tm2S (p s T:Nat → Int) (v:Int) (x:Nat → Int):St:=⟨tmOf [(3,.sc (.ptr 1 32 0 0 32)),(4,.sc (.ptr 2 20 0 0 20)),(5,.sc (.ptr 3 320 0 0 320)),(7,.sc (.ptr 4 20 0 0 20)),(8,.sc (.int .i64 v))] 51 0,
 [none,some (.ints .u8 32 1 (fun _ d=>s d)),some (.ints .u64 20 1 (fun _ _=>0)),some (.ints .u64 320 1 (fun _ d=>T d)),some (.ints .u64 20 1 (fun _ d=>x d))]⟩
def tm2T (x:Nat → Int):St:=⟨tmOf [(4,.sc (.ptr 2 20 0 0 20)),(7,.sc (.ptr 4 20 0 0 20))] 51 0,[none,none,some (.ints .u64 20 1 (fun _ _=>0)),none,some (.ints .u64 20 1 (fun _ d=>x d))]⟩
def dbK (x:Nat → Int):Nat → Nat → Int
 | 0=>x
 | k+1=>lf (ptDbl (dbK x k))
def tm2Ck (s x:Nat → Int) (v:Int):List Bool:=[decide (v ≥ 0) == true,chkP (dbK x 0),chkP (dbK x 1),chkP (dbK x 2),chkP (dbK x 3),!decide ((2:Int)=0),inR (wr .i64 (v.tdiv 2)) 32,!decide ((2:Int)=0),!decide (wr .i64 (4 * v.tmod 2) < 0)]
theorem tm2_roundf (p s T:Nat → Int) (v v':Int) (x x':Nat → Int):roundR tmE [(26,true),(44,false)] 5 5 [] tm2B (tm2S p s T v x) .normal (tm2S p s T v' x') =
  some (ckL (tm2Ck s x v ++ [decide (nbI s v > 0) == false]) && stR (rnm 5 []) (tm2S p s T (wr .i64 (v - 1)) (dbK x 4)) (tm2S p s T v' x')):=by kernel_rfl
theorem tm2_roundt (p s T:Nat → Int) (v v':Int) (x x':Nat → Int):roundR tmE [(26,true),(44,true)] 5 5 [] tm2B (tm2S p s T v x) .normal (tm2S p s T v' x') =
  some (ckL (tm2Ck s x v ++ [decide (nbI s v > 0) == true,inR (nbI s v) 16,chkP (dbK x 4) && chkP (fun j=>T (0+(nbI s v).toNat * 20+j))]) && stR (rnm 5 []) (tm2S p s T (wr .i64 (v - 1)) (lf (ptAdd (dbK x 4) (fun j=>T (0+(nbI s v).toNat * 20+j))))) (tm2S p s T v' x')):=by kernel_rfl
theorem tm2_exit (p s T:Nat → Int) (v:Int) (x x':Nat → Int):roundR tmE [(26,false)] 5 5 [] tm2B (tm2S p s T v x) (.exit 2) (tm2T x') =
  some (ckL [decide (v ≥ 0) == false] && stR (rnm 5 []) (tm2T x) (tm2T x')):=by kernel_rfl
theorem and15 {x:Int} (h:0 ≤ x ∧ x < 256):iand .u8 x 15=x % 16:=by
 have key:∀ n:Nat,n < 256 → iand .u8 (n:Int) 15=(n:Int) % 16:=by decide +kernel
 have:=key x.toNat (by omega)
 rwa [Int.toNat_of_nonneg h.1] at this
def nib (s:Nat → Int) (i:Nat):Int:=s (i / 2) / 2 ^ (4 * (i % 2)) % 16
def tmV (p s:Nat → Int):Nat → List Int
 | 0=>idP
 | k+1=>bif decide (nib s (63 - k) > 0) then ptAdd (dbK (lf (tmV p s k)) 4) (lf (tbV p (nib s (63 - k)).toNat)) else ptDbl (dbK (lf (tmV p s k)) 3)
def tmSp (q:Q4) (s:Nat → Int):Nat → Q4
 | 0=>idS4
 | k+1=>bif decide (nib s (63 - k) > 0) then addS (dblS (dblS (dblS (dblS (tmSp q s k))))) (tbS q (nib s (63 - k)).toNat) else dblS (dblS (dblS (dblS (tmSp q s k))))
theorem dbK_law {x:Nat → Int} (h:bdP x=true):∀ k,bdP (dbK x k)=true
 | 0=>h
 | k+1=>(ptDbl_law (dbK_law h k)).1
theorem dbK_v {x:Nat → Int} (h:bdP x=true) (k:Nat):vP (dbK x (k+1))=dblS (vP (dbK x k)):=(ptDbl_law (dbK_law h k)).2
theorem tmV_law {p:Nat → Int} (hp:bdP p=true) (s:Nat → Int):∀ k,bdP (lf (tmV p s k))=true ∧ vP (lf (tmV p s k))=tmSp (vP p) s k
 | 0=>idP_law
 | k+1=>by
  obtain ⟨h1,h2⟩:=tmV_law hp s k
  have e4:vP (dbK (lf (tmV p s k)) 4)=dblS (dblS (dblS (dblS (tmSp (vP p) s k)))):=by
   rw [dbK_v h1,dbK_v h1,dbK_v h1,dbK_v h1]
   show dblS (dblS (dblS (dblS (vP (lf (tmV p s k))))))=_
   rw [h2]
  unfold tmV tmSp
  cases decide (nib s (63 - k) > 0) with
  | true =>
   obtain ⟨q1,q2⟩:=ptAdd_law (dbK_law h1 4) (tbV_bd hp (nib s (63 - k)).toNat)
   exact ⟨q1,by show vP (lf (ptAdd _ _))=_; rw [q2,e4,tbV_law hp]; rfl⟩
  | false=>exact ⟨dbK_law h1 4,e4⟩
theorem nbI_law {s:Nat → Int} (hs:areB s 32 0=true) {i:Nat} (hi:i < 64):nbI s (i:Int)=nib s i ∧ inR (wr .i64 ((i:Int).tdiv 2)) 32=true ∧ (!decide (wr .i64 (4 * (i:Int).tmod 2) < 0))=true ∧ 0 ≤ nib s i ∧ nib s i < 16:=by
 have e1:(i:Int).tdiv 2=((i / 2:Nat):Int):=by rw [Int.tdiv_eq_ediv_of_nonneg (by omega)]; omega
 have e2:(i:Int).tmod 2=((i % 2:Nat):Int):=by rw [Int.tmod_eq_emod_of_nonneg (by omega)]; omega
 have e3:wr .i64 ((i / 2:Nat):Int)=((i / 2:Nat):Int):=wr_i64 (by omega) (by omega)
 have e4:wr .i64 (4 * ((i % 2:Nat):Int))=((4 * (i % 2):Nat):Int):=(wr_i64 (by omega) (by omega)).trans (by omega)
 have hb:=areB_t hs (i / 2) (by omega)
 rw [Nat.zero_add] at hb
 have hsh:ishr .u8 (s (i / 2)) ((4 * (i % 2):Nat):Int)=s (i / 2) / 2 ^ (4 * (i % 2)):=by
  unfold ishr
  rw [Int.toNat_natCast,show min (4 * (i % 2)) IntKind.u8.bits=4 * (i % 2) by show min (4 * (i % 2)) 8=_; omega,Int.fdiv_eq_ediv_of_nonneg _ (Int.le_of_lt (Int.pow_pos (by decide)))]
 have hx:∀ x:Int,0 ≤ x ∧ x < 256 → iand .u8 x 15=x % 16:=fun x hx=>and15 hx
 have hr:0 ≤ s (i / 2) / 2 ^ (4 * (i % 2)) ∧ s (i / 2) / 2 ^ (4 * (i % 2)) < 256:=by
  have hm:i % 2=0 ∨ i % 2=1:=by omega
  rcases hm with h | h <;> rw [h] <;> simp only [Nat.mul_zero,Nat.mul_one] <;> omega
 refine ⟨?_,?_,?_,?_⟩
 ·unfold nbI nib
  rw [e1,e2,e3,e4,show 0+((i / 2:Nat):Int).toNat * 1=i / 2 by omega,hsh,hx _ hr]
 ·rw [e1,e3]; exact inR_lt (by omega)
 ·rw [e2,e4,decide_eq_false (by omega)]; rfl
 ·unfold nib
  generalize s (i / 2) / 2 ^ (4 * (i % 2))=y
  omega
theorem tm2_same {p s T:Nat → Int} {v v':Int} {x x':Nat → Int} (hv:v=v') (h:∀ d,d < 20 → x d=x' d):stR (rnm 5 []) (tm2S p s T v x) (tm2S p s T v' x')=true:=by
 subst hv
 have e:eqF 1 20 (fun _ d=>x d) (fun _ d=>x' d)=true:=eqF_of fun r _ d hd=>h d hd
 simp [stR,tm2S,tmOf,tmR,avR,svR,rIs,rnm,kEq_refl,eqF_refl,hpR,blkR,ndR,e]
 decide
theorem tm2_sameT {x x':Nat → Int} (h:∀ d,d < 20 → x d=x' d):stR (rnm 5 []) (tm2T x) (tm2T x')=true:=by
 have e:eqF 1 20 (fun _ d=>x d) (fun _ d=>x' d)=true:=eqF_of fun r _ d hd=>h d hd
 simp [stR,tm2T,tmOf,tmR,avR,svR,rIs,rnm,kEq_refl,eqF_refl,hpR,blkR,ndR,e]
 decide
def tm2W (p s:Nat → Int) (k:Nat):St:=tm2S p s (tbF p 15) (63 - (k:Int)) (lf (tmV p s k))
def tm2F (p s:Nat → Int):LF:=famA 5 [] (tm2W p s 0) (bdP p && areB s 32 0) .normal (tm2T (lf (tmV p s 64)))
theorem tm2_body:f_edwards_point_times.body.map (bodiesOf 2)=some [.loop tm2B]:=by kernel_rfl
theorem tm2_ok:codeOK prog tmE.env.isW tm2B=true:=by kernel_rfl
theorem l_tm2 (p s:Nat → Int):LRow prog f_edwards_point_times 2 (tm2F p s):=by
 refine LRow.famA (N:=5) (S:=tm2W p s) (X9.env []) mix 64 (loop_of tm2_body) tm2_ok (fun w0 own0=>accOK_none (fun id=>rfl) tm2B) (fun _ _=>Nat.le_refl _) (Nat.le_refl _) fun hck=>?_
 obtain ⟨hp,hs⟩:=and_t.1 hck
 refine ⟨fun k hk=>?_,?_⟩
 ·have hv:(63 - (k:Int))=((63 - k:Nat):Int):=by omega
  obtain ⟨n1,n2,n3,n4,n5⟩:=nbI_law hs (i:=63 - k) (by omega)
  have hx:=(tmV_law hp s k).1
  have e1:wr .i64 (63 - (k:Int) - 1)=63 - ((k+1:Nat):Int):=(wr_i64 (by omega) (by omega)).trans (by omega)
  have hck:∀ l,ckL (tm2Ck s (lf (tmV p s k)) (63 - (k:Int)) ++ l)=ckL l:=fun l=>by
   unfold tm2Ck
   rw [hv,n2,n3,bdP_chk (dbK_law hx 0),bdP_chk (dbK_law hx 1),bdP_chk (dbK_law hx 2),bdP_chk (dbK_law hx 3),decide_eq_true (show ((63 - k:Nat):Int) ≥ 0 by omega)]
   rfl
  cases hn:decide (nib s (63 - k) > 0) with
  | false =>
   refine roundR_toR (tm2_roundf p s (tbF p 15) (63 - (k:Int)) (63 - ((k+1:Nat):Int)) (lf (tmV p s k)) (lf (tmV p s (k+1)))) ?_
   refine and_t.2 ⟨?_,tm2_same e1 fun d _=>?_⟩
   ·rw [hck,hv,n1,hn]; rfl
   ·show _=lf (bif decide (nib s (63 - k) > 0) then _ else _) d
    rw [hn]; rfl
  | true =>
   have hrow:∀ d,d < 20 → tbF p 15 (0+(nib s (63 - k)).toNat * 20+d)=lf (tbV p (nib s (63 - k)).toNat) d:=fun d hd=>by
    rw [show 0+(nib s (63 - k)).toNat * 20+d=20 * (nib s (63 - k)).toNat+d by omega]; exact tm_row (by omega) d hd
   refine roundR_toR (tm2_roundt p s (tbF p 15) (63 - (k:Int)) (63 - ((k+1:Nat):Int)) (lf (tmV p s k)) (lf (tmV p s (k+1)))) ?_
   refine and_t.2 ⟨?_,tm2_same e1 fun d _=>?_⟩
   ·rw [hck,hv,n1,hn,bdP_chk (dbK_law hx 4),chkP_ext hrow,bdP_chk (tbV_bd hp _)]
    have:inR (nib s (63 - k)) 16=true:=by simp [inR]; omega
    rw [this]; rfl
   ·show _=lf (bif decide (nib s (63 - k) > 0) then _ else _) d
    rw [hn,hv,n1]
    show lf (ptAdd _ _) d=lf (ptAdd _ _) d
    rw [ptAdd_ext (p:=dbK (lf (tmV p s k)) 4) (fun _ _=>rfl) hrow]
 ·obtain ⟨s1,r,q1,q2,q3⟩:=roundR_toR (n:=5) (tm2_exit p s (tbF p 15) (-1) (lf (tmV p s 64)) (lf (tmV p s 64))) (and_t.2 ⟨rfl,tm2_sameT fun _ _=>rfl⟩)
  exact ⟨_,s1,r,q1,rfl,q2,q3⟩
noncomputable abbrev tmL (p s:Nat → Int):EnvP:=envL tt ex9 [] [(2,tm2F p s),(0,tm0F p s)]
theorem c_times2 (p s:Nat → Int):fnChk prog (tmL p s) f_edwards_point_times=true:=by kernel_rfl
def r20 (l:List Int):List Int:=tabL (lf l) 20 0
theorem k_times2 (p s:Nat → Int):outP (apFunc (tmL p s) [] 5 f_edwards_point_times [pt p,u8s 32 s] []) =
  some (ckL [bdP p && stR (rnm 4 []) (tm0S p s 0 (put20 (fun _=>0) (lf idP) 0)) (tm0W p s 0),(bdP p && areB s 32 0) && stR (rnm 5 []) (tm2S p s (tbF p 15) 63 (lf idP)) (tm2W p s 0)],pt (lf (r20 (tmV p s 64)))):=by kernel_rfl
theorem tbV_ext {p p':Nat → Int} (h:∀ d,d < 20 → p d=p' d):∀ j,tbV p j=tbV p' j
 | 0=>rfl
 | j+1=>by
  show ptAdd (lf (tbV p j)) p=ptAdd (lf (tbV p' j)) p'
  rw [tbV_ext h j]
  exact ptAdd_ext (fun _ _=>rfl) h
theorem nib_ext {s s':Nat → Int} (h:∀ d,d < 32 → s d=s' d) {i:Nat} (hi:i < 64):nib s i=nib s' i:=by unfold nib; rw [h (i / 2) (by omega)]
theorem tmV_ext {p p' s s':Nat → Int} (h:∀ d,d < 20 → p d=p' d) (h':∀ d,d < 32 → s d=s' d):∀ k,tmV p s k=tmV p' s' k
 | 0=>rfl
 | k+1=>by
  unfold tmV
  rw [tmV_ext h h' k,nib_ext h' (i:=63 - k) (by omega),tbV_ext h]
def n20 (p:Nat → Int):Nat → Int:=lf (tabL p 20 0)
def n32 (s:Nat → Int):Nat → Int:=lf (tabL s 32 0)
theorem n20_at (p:Nat → Int) (d:Nat) (h:d < 20):p d=n20 p d:=by
 have:=lf_tab p 20 0 d h
 rw [Nat.zero_add] at this
 exact this.symm
theorem n32_at (s:Nat → Int) (d:Nat) (h:d < 32):s d=n32 s d:=by
 have:=lf_tab s 32 0 d h
 rw [Nat.zero_add] at this
 exact this.symm
def tTimes2:TF:=fun args=>match args with
 | [.agg [.ints .u64 20 p],.agg [.ints .u8 32 s]]=>some (bdP p && areB s 32 0,pt (lf (r20 (tmV (n20 p) (n32 s) 64))))
 | _=>none
theorem r_times2:TRow prog F_edwards_point_times tTimes2:=by
 intro args r h
 unfold tTimes2 at h
 split at h
 case h_2=>simp at h
 rename_i p s
 simp only [Option.some.injEq,Prod.mk.injEq] at h
 obtain ⟨hc,rfl⟩:=h
 obtain ⟨hp,hs⟩:=and_t.1 hc
 rw [← tmV_ext (n20_at p) (n32_at s)]
 refine pure_of_outL X9 at_edwards_point_times ((LsOK.nil.cons (l_tm0 p s)).cons (l_tm2 p s)) (c_times2 p s) (N:=5) (gs:=[]) ?_
 have e:=k_times2 p s
 have h0:stR (rnm 4 []) (tm0S p s 0 (put20 (fun _=>0) (lf idP) 0)) (tm0W p s 0)=true:=tm0_same rfl fun d hd=>by
  unfold put20
  by_cases h:d < 20
  ·rw [Nat.ble_eq_true_of_le (Nat.zero_le d),Nat.ble_eq_true_of_le (show d+1 ≤ 0+20 by omega),tbF_lt (k:=0) (by omega),show d / 20=0 by omega,show d % 20=d by omega]; rfl
  ·rw [ble_ff (a:=d+1) (by omega),tbF_ge (k:=0) (by omega),Bool.and_false]; rfl
 rw [hp,hs,h0,show stR (rnm 5 []) (tm2S p s (tbF p 15) 63 (lf idP)) (tm2W p s 0)=true from tm2_same rfl fun _ _=>rfl] at e
 exact e
theorem tm_law {p s:Nat → Int} (hp:bdP p=true):bdP (lf (r20 (tmV (n20 p) (n32 s) 64)))=true ∧ vP (lf (r20 (tmV (n20 p) (n32 s) 64)))=tmSp (vP p) s 64:=by
 rw [← tmV_ext (n20_at p) (n32_at s)]
 exact tmV_law hp s 64
noncomputable def ex10:List (Nat × TF):=(F_edwards_point_times,tTimes2) :: ex9
theorem X10:LibOK prog tt ex10 []:=X9.addT r_times2
end Go.Proofs.YtfpkegodflloiaaGreat
namespace Go.Proofs.YtfpkegodflloiaaGreat
open Go.Proofs.Tryz
open Go Go.AM
def bxI:Int:=15112221349535400772501151409588531511454012693041857206046113283949847762202
def byI:Int:=46316835694926478169428394003475163141307993866256225615783033603165251855960
def basL:List Int:=loadL bxI ++ (loadL byI ++ ([1,0,0,0,0] ++ r5 (mulV (r5 (loadL bxI)) (r5 (loadL byI)))))
def baseS:Q4:=(bxI,byI,1,mM bxI byI)
set_option maxRecDepth 20000 in
theorem bas_law:bdP (lf basL)=true ∧ vP (lf basL)=baseS:=by decide +kernel
def tBase:TF:=fun args=>match args with
 | []=>some (true,pt (lf basL))
 | _=>none
theorem c_base:fnChk prog (envP tt ex10 []) f_edwards_base=true:=by kernel_rfl
theorem r_base:TRow prog F_edwards_base tBase:=by
 intro args r h
 unfold tBase at h
 split at h
 case h_2=>simp at h
 simp only [Option.some.injEq,Prod.mk.injEq,true_and] at h
 subst h
 exact pure_of_out X10 at_edwards_base c_base (N:=60) (gs:=[]) (by kernel_rfl)
def xzV (p:Nat → Int):List Int:=mR (px p) (r5 (invV (pz p)))
def yzV (p:Nat → Int):List Int:=mR (py p) (r5 (invV (pz p)))
def tXY:TF:=fun args=>match args with
 | [.agg [.ints .u64 20 p]]=>some (bdP p,.tup [u5 (lf (r5 (xzV p))),u5 (lf (r5 (yzV p)))])
 | _=>none
theorem c_xy:fnChk prog (envP tt ex10 []) f_edwards_point_xy=true:=by kernel_rfl
theorem k_xy (p:Nat → Int):outP (apFunc (envP tt ex10 []) [] 5 f_edwards_point_xy [pt p] [])=some (ckL [bd5 (pz p),cM (px p) (r5 (invV (pz p))),cM (py p) (r5 (invV (pz p)))],.tup [u5 (lf (r5 (xzV p))),u5 (lf (r5 (yzV p)))]):=by kernel_rfl
theorem r_xy:TRow prog F_edwards_point_xy tXY:=by
 intro args r h
 unfold tXY at h
 split at h
 case h_2=>simp at h
 rename_i p
 simp only [Option.some.injEq,Prod.mk.injEq] at h
 obtain ⟨hp,rfl⟩:=h
 obtain ⟨h1,h2,h3,h4⟩:=bdP_t.1 hp
 refine pure_of_out X10 at_edwards_point_xy c_xy (N:=5) (gs:=[]) ?_
 have e:=k_xy p
 rw [h3,cM_t h1 (b:=r5 (invV (pz p))) (invV_law h3).1,cM_t h2 (b:=r5 (invV (pz p))) (invV_law h3).1] at e
 exact e
noncomputable def ex11:List (Nat × TF):=(F_edwards_point_xy,tXY) :: (F_edwards_base,tBase) :: ex10
theorem X11:LibOK prog tt ex11 []:=(X10.addT r_base).addT r_xy
def invM (x:Int):Int:=powM x 57896044618658097711785492504343953926634992332820282019728792003956564819947
def formS (q:Q4):Int:=mM q.2.1 (invM q.2.2.1)+mM q.1 (invM q.2.2.1) % 2 * 57896044618658097711785492504343953926634992332820282019728792003956564819968
theorem xy_law {p:Nat → Int} (h:bdP p=true):bd5 (xzV p)=true ∧ bd5 (yzV p)=true ∧ fm (xzV p)=mM (vP p).1 (invM (vP p).2.2.1) ∧ fm (yzV p)=mM (vP p).2.1 (invM (vP p).2.2.1):=by
 obtain ⟨h1,h2,h3,h4⟩:=bdP_t.1 h
 obtain ⟨i1,i2⟩:=invV_law h3
 refine ⟨mR_bd h1 (b:=r5 (invV (pz p))) i1,mR_bd h2 (b:=r5 (invV (pz p))) i1,?_,?_⟩
 ·show fm (mR (px p) (r5 (invV (pz p))))=_
  rw [mR_fm h1 (b:=r5 (invV (pz p))) i1,r5_fm,i2]; rfl
 ·show fm (mR (py p) (r5 (invV (pz p))))=_
  rw [mR_fm h2 (b:=r5 (invV (pz p))) i1,r5_fm,i2]; rfl
theorem c_form:fnChk prog (envP tt ex11 []) f_edwards_point_form=true:=by kernel_rfl
def top128 (l:List Int) (j:Nat):Int:=bif Nat.beq j 31 then ior .u8 (lf l 31) 128 else lf l j
theorem k_formt (p:Nat → Int):outP (apFunc (envP tt ex11 []) [(14,true)] 5 f_edwards_point_form [pt p] []) =
  some (ckL [bdP (fun j=>p (0+j)),bd5 (r5 (yzV p)),bd5 (r5 (xzV p)) && (decide (fm (r5 (xzV p)) % 2=1) == true)],u8s 32 (lf (tabL (top128 (byL 32 (fm (r5 (yzV p))))) 32 0))):=by kernel_rfl
theorem k_formf (p:Nat → Int):outP (apFunc (envP tt ex11 []) [(14,false)] 5 f_edwards_point_form [pt p] []) =
  some (ckL [bdP (fun j=>p (0+j)),bd5 (r5 (yzV p)),bd5 (r5 (xzV p)) && (decide (fm (r5 (xzV p)) % 2=1) == false)],u8s 32 (lf (byL 32 (fm (r5 (yzV p)))))):=by kernel_rfl
theorem or128 {x:Int} (h:0 ≤ x ∧ x < 128):ior .u8 x 128=x+128:=by
 have key:∀ n:Nat,n < 128 → ior .u8 (n:Int) 128=(n:Int)+128:=by decide +kernel
 have:=key x.toNat (by omega)
 rwa [Int.toNat_of_nonneg h.1] at this
theorem and127 {x:Int} (h:0 ≤ x ∧ x < 256):iand .u8 x 127=x % 128:=by
 have key:∀ n:Nat,n < 256 → iand .u8 (n:Int) 127=(n:Int) % 128:=by decide +kernel
 have:=key x.toNat (by omega)
 rwa [Int.toNat_of_nonneg h.1] at this
theorem last_byte {s:Nat → Int} (h:areB s 32 0=true):hval s 32 0=hval s 31 0+452312848583266388373324160190187140051835877600158453279131187530910662656 * s 31 ∧ 0 ≤ hval s 31 0 ∧ hval s 31 0 < 452312848583266388373324160190187140051835877600158453279131187530910662656 ∧ 0 ≤ s 31 ∧ s 31 < 256:=by
 have e:=hval_add s 31 1 0
 have e1:hval s 1 (0+31)=s 31:=by simp [hval]
 rw [e1] at e
 have h1:=hval_range (areB_sub (m:=31) (i:=0) h (by omega))
 have h2:=areB_t h 31 (by omega)
 rw [Nat.zero_add] at h2
 rw [show (256:Int) ^ 31=452312848583266388373324160190187140051835877600158453279131187530910662656 by decide] at e
 have h3:hval s 31 (0+0) < 256 ^ 31:=h1.2
 rw [show (256:Int) ^ 31=452312848583266388373324160190187140051835877600158453279131187530910662656 by decide] at h3
 exact ⟨e,h1.1,h3,h2⟩
theorem top_law {y:Int} (h0:0 ≤ y) (h1:y < 57896044618658097711785492504343953926634992332820282019728792003956564819968):tabL (top128 (byL 32 y)) 32 0=byL 32 (y+57896044618658097711785492504343953926634992332820282019728792003956564819968):=by
 have hb:=areB_b32 y
 have hv:hval (lf (byL 32 y)) 32 0=y:=hval_b32 h0 (by omega)
 obtain ⟨e1,e2,e3,e4,e5⟩:=last_byte hb
 rw [hv] at e1
 have ht:∀ d,d < 31 → top128 (byL 32 y) d=lf (byL 32 y) d:=fun d hd=>by
  unfold top128
  have:Nat.beq d 31=false:=by
   cases hb:Nat.beq d 31 with
   | false=>rfl
   | true=>have:=Nat.eq_of_beq_eq_true hb; omega
  rw [this]; rfl
 have ht31:top128 (byL 32 y) 31=lf (byL 32 y) 31+128:=by
  show ior .u8 (lf (byL 32 y) 31) 128=_
  exact or128 ⟨e4,by omega⟩
 have ha:areB (top128 (byL 32 y)) 32 0=true:=areB_mk fun i hi=>by
  rw [Nat.zero_add]
  by_cases q:i=31
  ·rw [q,ht31]; omega
  ·rw [ht i (by omega)]
   have:=areB_t hb i hi
   rwa [Nat.zero_add] at this
 obtain ⟨f1,f2,f3,f4,f5⟩:=last_byte ha
 have e:hval (top128 (byL 32 y)) 31 0=hval (lf (byL 32 y)) 31 0:=hval_congr fun i hi=>by rw [Nat.zero_add]; exact ht i hi
 rw [e,ht31] at f1
 rw [← byL_self ha,f1]
 congr 1
 omega
theorem mM_lt (x y:Int):0 ≤ mM x y ∧ mM x y < pP:=⟨Int.emod_nonneg _ (by decide),Int.emod_lt_of_pos _ pP_pos⟩
def tForm:TF:=fun args=>match args with
 | [.agg [.ints .u64 20 p]]=>some (bdP p,b32 (formS (vP p)))
 | _=>none
theorem bdP_ext {p p':Nat → Int} (h:∀ d,d < 20 → p d=p' d):bdP p=bdP p':=by
 obtain ⟨e1,e2,e3,e4⟩:=tb_ext h
 unfold bdP
 rw [e1,e2,e3,e4]
theorem r_form:TRow prog F_edwards_point_form tForm:=by
 intro args r h
 unfold tForm at h
 split at h
 case h_2=>simp at h
 rename_i p
 simp only [Option.some.injEq,Prod.mk.injEq] at h
 obtain ⟨hp,rfl⟩:=h
 obtain ⟨x1,x2,x3,x4⟩:=xy_law hp
 have hp0:bdP (fun j=>p (0+j))=true:=by rw [bdP_ext (p':=p) fun d _=>by rw [Nat.zero_add]]; exact hp
 have hy:=mM_lt (vP p).2.1 (invM (vP p).2.2.1)
 have c1:bd5 (r5 (yzV p))=true:=x2
 have c2:bd5 (r5 (xzV p))=true:=x1
 have v1:fm (r5 (xzV p))=mM (vP p).1 (invM (vP p).2.2.1):=x3
 have v2:fm (r5 (yzV p))=mM (vP p).2.1 (invM (vP p).2.2.1):=x4
 have hx:=mM_lt (vP p).1 (invM (vP p).2.2.1)
 unfold formS
 cases ho:decide (mM (vP p).1 (invM (vP p).2.2.1) % 2=1) with
 | true =>
  refine pure_of_out X11 at_edwards_point_form c_form (N:=5) (gs:=[(14,true)]) ?_
  have e:=k_formt p
  rw [hp0,c1,c2,v1,v2,ho,top_law hy.1 (Int.lt_trans hy.2 (by decide))] at e
  rw [of_decide_eq_true ho,Int.one_mul]
  exact e
 | false =>
  refine pure_of_out X11 at_edwards_point_form c_form (N:=5) (gs:=[(14,false)]) ?_
  have e:=k_formf p
  rw [hp0,c1,c2,v1,v2,ho] at e
  have h0:mM (vP p).1 (invM (vP p).2.2.1) % 2=0:=by
   have:=of_decide_eq_false ho
   omega
  rw [h0,Int.zero_mul,Int.add_zero]
  exact e
noncomputable def ex12:List (Nat × TF):=(F_edwards_point_form,tForm) :: ex11
theorem X12:LibOK prog tt ex12 []:=X11.addT r_form
def bb (b:Nat → Int):Nat → Int:=fun j=>bif Nat.beq (0+j) 31 then iand .u8 (b 31) 127 else b (0+j)
def one5L:List Int:=[1,0,0,0,0]
def zer5L:List Int:=[0,0,0,0,0]
def oY (b:Nat → Int):List Int:=loadL (hval (bb b) 32 0)
def oYY (b:Nat → Int):List Int:=mR (oY b) (oY b)
def oU (b:Nat → Int):List Int:=subV (r5 (oYY b)) (r5 one5L)
def oV (b:Nat → Int):List Int:=addV (r5 (mR cvL (oYY b))) (r5 one5L)
def oM (b:Nat → Int):Nat:=rtM (lf (oU b)) (lf (oV b))
def oX (b:Nat → Int):List Int:=r5 (rxk (r5 (oU b)) (r5 (oV b)) (oM b))
def oN (b:Nat → Int):List Int:=subV (r5 zer5L) (r5 (oX b))
def oP (X Y:List Int):List Int:=tabL (lf (r5 X ++ (r5 Y ++ (one5L ++ r5 (mR X Y))))) 20 0
def oA (b:Nat → Int) (g:Bool):List Bool:=[areB (bb b) 32 0,bd5 (r5 (oY b)),(!(eqN 32 (lf (byL 32 (fm (r5 (oY b))))) (bb b) && true)) == g]
def oB (b:Nat → Int) (g:Bool):List Bool:=[chk5 (r5 (oY b)),cM cvL (oYY b),rtCd (lf (oU b)) (lf (oV b)),(!Nat.ble (oM b) 1) == g]
def oO (b:Nat → Int) (g:Bool):Bool:=(ishr .u8 (b 31) 7 == 1) == g
def oZ (b:Nat → Int) (g:Bool):List Bool:=[bd5 (r5 (oX b)),(eqN 32 (lf (byL 32 (fm (r5 (oX b))))) (fun _=>0) && true) == g]
def oD (b:Nat → Int) (o g:Bool):List Bool:=[bd5 (r5 (oX b)),(decide (fm (r5 (oX b)) % 2=1) != o) == g]
theorem c_open:fnChk prog (envP tt ex12 []) f_edwards_open=true:=by kernel_rfl
theorem k_openA (b:Nat → Int):outP (apFunc (envP tt ex12 []) [(22,true)] 5 f_edwards_open [u8s 32 b] [])=some (ckL (oA b true),.tup [pt (lf (tabL (fun _=>0) 20 0)),.sc (.bool false)]):=by kernel_rfl
theorem k_openB (b:Nat → Int):outP (apFunc (envP tt ex12 []) [(22,false),(39,true)] 5 f_edwards_open [u8s 32 b] [])=some (ckL (oA b false ++ oB b true),.tup [pt (lf (tabL (fun _=>0) 20 0)),.sc (.bool false)]):=by kernel_rfl
theorem k_openC (b:Nat → Int):outP (apFunc (envP tt ex12 []) [(12,true),(22,false),(39,false),(46,true)] 5 f_edwards_open [u8s 32 b] [])=some (ckL (oO b true :: (oA b false ++ (oB b false ++ oZ b true))),.tup [pt (lf (tabL (fun _=>0) 20 0)),.sc (.bool false)]):=by kernel_rfl
theorem k_openC1 (b:Nat → Int):outP (apFunc (envP tt ex12 []) [(12,true),(22,false),(39,false),(46,false),(53,true)] 5 f_edwards_open [u8s 32 b] []) =
  some (ckL (oO b true :: (oA b false ++ (oB b false ++ (oZ b false ++ (oD b true true ++ [cM (oN b) (oY b)]))))),.tup [pt (lf (oP (oN b) (oY b))),.sc (.bool true)]):=by kernel_rfl
theorem k_openC2 (b:Nat → Int):outP (apFunc (envP tt ex12 []) [(12,true),(22,false),(39,false),(46,false),(53,false)] 5 f_edwards_open [u8s 32 b] []) =
  some (ckL (oO b true :: (oA b false ++ (oB b false ++ (oZ b false ++ (oD b true false ++ [cM (oX b) (oY b)]))))),.tup [pt (lf (oP (oX b) (oY b))),.sc (.bool true)]):=by kernel_rfl
theorem k_openD1 (b:Nat → Int):outP (apFunc (envP tt ex12 []) [(12,false),(22,false),(39,false),(53,true)] 5 f_edwards_open [u8s 32 b] []) =
  some (ckL (oO b false :: (oA b false ++ (oB b false ++ (oD b false true ++ [cM (oN b) (oY b)])))),.tup [pt (lf (oP (oN b) (oY b))),.sc (.bool true)]):=by kernel_rfl
theorem k_openD2 (b:Nat → Int):outP (apFunc (envP tt ex12 []) [(12,false),(22,false),(39,false),(53,false)] 5 f_edwards_open [u8s 32 b] []) =
  some (ckL (oO b false :: (oA b false ++ (oB b false ++ (oD b false false ++ [cM (oX b) (oY b)])))),.tup [pt (lf (oP (oX b) (oY b))),.sc (.bool true)]):=by kernel_rfl
end Go.Proofs.YtfpkegodflloiaaGreat
namespace Go.Proofs.YtfpkegodflloiaaGreat
open Go.Proofs.Tryz
open Go Go.AM
def rootX (u v:Int):Nat → Int
 | 0=>mM (mM u (mM (mM v v) v)) (powM (mM u (mM (mM (mM (mM v v) v) (mM (mM v v) v)) v)) 7237005577332262213973186563042994240829374041602535252466099000494570602493)
 | k+1=>mM (rootX u v k) iM
def rootOk (u v x:Int):Bool:=decide (mM v (mM x x)=u)
def rootM (u v:Int):Nat:=bif rootOk u v (rootX u v 0) then 0 else bif rootOk u v (rootX u v 1) then 1 else 2
def opY (w:Int):Int:=w % 57896044618658097711785492504343953926634992332820282019728792003956564819968
def opU (w:Int):Int:=mS (mM (opY w) (opY w)) 1
def opV (w:Int):Int:=mA (mM eD (mM (opY w) (opY w))) 1
def opM (w:Int):Nat:=rootM (opU w) (opV w)
def opX (w:Int):Int:=rootX (opU w) (opV w) (opM w)
def opOdd (w:Int):Bool:=decide (w / 57896044618658097711785492504343953926634992332820282019728792003956564819968=1)
def opOk (w:Int):Bool:=decide (opY w < pP) && (Nat.ble (opM w) 1 && !(opOdd w && decide (opX w=0)))
def opXs (w:Int):Int:=bif decide (opX w % 2=1) != opOdd w then mS 0 (opX w) else opX w
def openS (w:Int):Q4:=(opXs w,opY w,1,mM (opXs w) (opY w))
theorem rxk_fm {U V:List Int} (hu:bd5 U=true) (hv:bd5 V=true):∀ k,fm (rxk U V k)=rootX (fm U) (fm V) k
 | 0=>by
  obtain ⟨h3,h7,hx⟩:=rx0_bd hu hv
  show fm (mR (mR U (rv3 V)) (r5 (e8V (r5 (rw7 U V)))))=_
  rw [mR_fm (mR_bd hu h3) (b:=r5 (e8V (r5 (rw7 U V)))) (e8V_law (a:=r5 (rw7 U V)) h7).1,r5_fm,(e8V_law (a:=r5 (rw7 U V)) h7).2,r5_fm]
  show mM (fm (mR U (rv3 V))) (powM (fm (mR U (mR (mR (rv3 V) (rv3 V)) V))) _)=_
  rw [mR_fm hu h3,mR_fm hu (mR_bd (mR_bd h3 h3) hv),mR_fm (mR_bd h3 h3) hv,mR_fm h3 h3]
  show mM (mM (fm U) (fm (mR (mR V V) V))) (powM (mM (fm U) (mM (mM (fm (mR (mR V V) V)) (fm (mR (mR V V) V))) (fm V))) _)=_
  rw [mR_fm (mR_bd hv hv) hv,mR_fm hv hv]; rfl
 | k+1=>by
  show fm (mR (rxk U V k) rmL)=_
  rw [mR_fm (rxk_bd hu hv k) rm_law.1,rxk_fm hu hv k,rm_law.2]; rfl
theorem rok_fm {U V X:List Int} (_hu:bd5 U=true) (hv:bd5 V=true) (hx:bd5 X=true):rok U V X=rootOk (fm U) (fm V) (fm X):=by
 unfold rok rootOk
 rw [r5_fm,r5_fm,mR_fm hv (mR_bd hx hx),mR_fm hx hx]
theorem rtM_fm {u v:Nat → Int} (hu:bd5 (l5 u)=true) (hv:bd5 (l5 v)=true):rtM u v=rootM (fm (l5 u)) (fm (l5 v)):=by
 unfold rtM rootM
 rw [rok_fm hu hv (X:=r5 (rxk (l5 u) (l5 v) 0)) (rxk_bd hu hv 0),rok_fm hu hv (X:=r5 (rxk (l5 u) (l5 v) 1)) (rxk_bd hu hv 1),r5_fm,r5_fm,rxk_fm hu hv,rxk_fm hu hv]
theorem bb_law {b:Nat → Int} (h:areB b 32 0=true):areB (bb b) 32 0=true ∧ hval (bb b) 32 0=opY (hval b 32 0) ∧ (ishr .u8 (b 31) 7 == 1)=opOdd (hval b 32 0):=by
 obtain ⟨e1,e2,e3,e4,e5⟩:=last_byte h
 have h31:bb b 31=b 31 % 128:=and127 ⟨e4,e5⟩
 have hlt:∀ d,d < 31 → bb b d=b d:=fun d hd=>by
  unfold bb
  have:Nat.beq (0+d) 31=false:=by
   cases hb:Nat.beq (0+d) 31 with
   | false=>rfl
   | true=>have:=Nat.eq_of_beq_eq_true hb; omega
  rw [this,Nat.zero_add]; rfl
 have ha:areB (bb b) 32 0=true:=areB_mk fun i hi=>by
  rw [Nat.zero_add]
  by_cases q:i=31
  ·rw [q,h31]; omega
  ·rw [hlt i (by omega)]
   have:=areB_t h i hi
   rwa [Nat.zero_add] at this
 obtain ⟨f1,f2,f3,f4,f5⟩:=last_byte ha
 have e:hval (bb b) 31 0=hval b 31 0:=hval_congr fun i hi=>by rw [Nat.zero_add]; exact hlt i hi
 rw [e,h31] at f1
 refine ⟨ha,?_,?_⟩
 ·rw [f1,e1]
  unfold opY
  generalize hval b 31 0=A at *
  generalize b 31=B at *
  omega
 ·have e7:ishr .u8 (b 31) 7=b 31 / 128:=by
   show (b 31).fdiv (2 ^ (min (7:Int).toNat 8))=_
   rw [Int.fdiv_eq_ediv_of_nonneg _ (by decide)]; rfl
  unfold opOdd
  rw [e7,e1]
  have:(hval b 31 0+452312848583266388373324160190187140051835877600158453279131187530910662656 * b 31) / 57896044618658097711785492504343953926634992332820282019728792003956564819968=b 31 / 128:=by
   generalize hval b 31 0=A at *
   generalize b 31=B at *
   omega
  rw [this]; rfl
theorem one5_law:bd5 one5L=true ∧ fm one5L=1:=by decide
theorem zer5_law:bd5 zer5L=true ∧ fm zer5L=0:=by decide
structure OpF (b:Nat → Int):Prop where
 y:bd5 (oY b)=true
 yv:opY (hval b 32 0) < pP → fm (oY b)=opY (hval b 32 0)
 u:bd5 (oU b)=true
 v:bd5 (oV b)=true
 yy:bd5 (oYY b)=true
 x:bd5 (oX b)=true
 n:bd5 (oN b)=true
theorem opY_range (w:Int):0 ≤ opY w ∧ opY w < 57896044618658097711785492504343953926634992332820282019728792003956564819968:=by unfold opY; omega
theorem opF {b:Nat → Int} (h:areB b 32 0=true):OpF b:=by
 obtain ⟨h1,h2,h3⟩:=bb_law h
 have hr:=opY_range (hval b 32 0)
 have hy:=loadL_law (v:=hval (bb b) 32 0) (by rw [h2]; omega)
 have y:bd5 (oY b)=true:=hy.1
 have yy:=mR_bd y y
 have u:bd5 (oU b)=true:=subV_bd (a:=r5 (oYY b)) yy (b:=r5 one5L) one5_law.1
 have v:bd5 (oV b)=true:=addV_bd (a:=r5 (mR cvL (oYY b))) (mR_bd cv_bd yy) (b:=r5 one5L) one5_law.1
 have x:bd5 (oX b)=true:=rxk_bd (U:=r5 (oU b)) u (V:=r5 (oV b)) v _
 exact ⟨y,fun hl=>by show fm (loadL (hval (bb b) 32 0))=_; rw [hy.2,h2]; exact md_id ⟨hr.1,hl⟩,u,v,yy,x,subV_bd (a:=r5 zer5L) zer5_law.1 (b:=r5 (oX b)) x⟩
theorem op_vals {b:Nat → Int} (h:areB b 32 0=true) (hl:opY (hval b 32 0) < pP):oM b=opM (hval b 32 0) ∧ fm (oX b)=opX (hval b 32 0) ∧ fm (oN b)=mS 0 (opX (hval b 32 0)):=by
 have F:=opF h
 have eu:fm (oU b)=opU (hval b 32 0):=by
  show fm (subV (r5 (oYY b)) (r5 one5L))=_
  rw [subV_fm (a:=r5 (oYY b)) F.yy (b:=r5 one5L) one5_law.1,r5_fm,r5_fm,one5_law.2]
  show mS (fm (mR (oY b) (oY b))) 1=_
  rw [mR_fm F.y F.y,F.yv hl]; rfl
 have ev:fm (oV b)=opV (hval b 32 0):=by
  show fm (addV (r5 (mR cvL (oYY b))) (r5 one5L))=_
  rw [addV_fm (a:=r5 (mR cvL (oYY b))) (mR_bd cv_bd F.yy) (b:=r5 one5L) one5_law.1,r5_fm,r5_fm,one5_law.2,mR_fm cv_bd F.yy,cv_fm]
  show mA (mM eD (fm (mR (oY b) (oY b)))) 1=_
  rw [mR_fm F.y F.y,F.yv hl]; rfl
 have em:oM b=opM (hval b 32 0):=by
  show rtM (lf (oU b)) (lf (oV b))=_
  rw [rtM_fm (u:=lf (oU b)) (v:=lf (oV b)) F.u F.v]
  show rootM (fm (oU b)) (fm (oV b))=_
  rw [eu,ev]; rfl
 have ex:fm (oX b)=opX (hval b 32 0):=by
  show fm (rxk (r5 (oU b)) (r5 (oV b)) (oM b))=_
  rw [rxk_fm (U:=r5 (oU b)) F.u (V:=r5 (oV b)) F.v,r5_fm,r5_fm,eu,ev,em]; rfl
 refine ⟨em,ex,?_⟩
 show fm (subV (r5 zer5L) (r5 (oX b)))=_
 rw [subV_fm (a:=r5 zer5L) zer5_law.1 (b:=r5 (oX b)) F.x,r5_fm,r5_fm,zer5_law.2,ex]
theorem oP_law {X Y:List Int} (hx:bd5 X=true) (hy:bd5 Y=true):bdP (lf (oP X Y))=true ∧ vP (lf (oP X Y))=(fm X,fm Y,1,mM (fm X) (fm Y)):=by
 have hm:=mR_bd hx hy
 obtain ⟨x1,x2,x3,x4⟩:=four_v (a:=r5 X) (b:=r5 Y) (c:=one5L) (d:=r5 (mR X Y)) rfl rfl rfl rfl
 have e:∀ d,d < 20 → lf (oP X Y) d=lf (r5 X ++ (r5 Y ++ (one5L ++ r5 (mR X Y)))) d:=fun d hd=>by
  have:=lf_tab (lf (r5 X ++ (r5 Y ++ (one5L ++ r5 (mR X Y))))) 20 0 d hd
  rwa [Nat.zero_add] at this
 obtain ⟨e1,e2,e3,e4⟩:=tb_ext e
 refine ⟨?_,?_⟩
 ·rw [bdP_ext e]
  exact bdP_t.2 ⟨by rw [x1]; exact hx,by rw [x2]; exact hy,by rw [x3]; exact one5_law.1,by rw [x4]; exact hm⟩
 ·unfold vP
  rw [e1,e2,e3,e4,x1,x2,x3,x4,r5_fm,r5_fm,r5_fm,one5_law.2,mR_fm hx hy]
def opLs (b:Nat → Int):List Int:=bif decide (fm (r5 (oX b)) % 2=1) != opOdd (hval b 32 0) then oP (oN b) (oY b) else oP (oX b) (oY b)
def opFs (b:Nat → Int):List Int:=bif opOk (hval b 32 0) then opLs b else tabL (fun _=>0) 20 0
def tOpen:TF:=fun args=>match args with
 | [.agg [.ints .u8 32 b]]=>some (areB b 32 0,.tup [pt (lf (opFs b)),.sc (.bool (opOk (hval b 32 0)))])
 | _=>none
theorem opLs_law {b:Nat → Int} (h:areB b 32 0=true) (hok:opOk (hval b 32 0)=true):bdP (lf (opFs b))=true ∧ vP (lf (opFs b))=openS (hval b 32 0):=by
 have F:=opF h
 have hl:opY (hval b 32 0) < pP:=of_decide_eq_true (and_t.1 hok).1
 obtain ⟨em,ex,en⟩:=op_vals h hl
 unfold opFs
 rw [hok]
 show bdP (lf (opLs b))=true ∧ vP (lf (opLs b))=_
 unfold opLs openS opXs
 rw [show fm (r5 (oX b))=opX (hval b 32 0) from ex]
 cases decide (opX (hval b 32 0) % 2=1) != opOdd (hval b 32 0) with
 | true =>
  obtain ⟨q1,q2⟩:=oP_law F.n F.y
  refine ⟨q1,?_⟩
  show vP (lf (oP (oN b) (oY b)))=_
  rw [q2,en,F.yv hl]; rfl
 | false =>
  obtain ⟨q1,q2⟩:=oP_law F.x F.y
  refine ⟨q1,?_⟩
  show vP (lf (oP (oX b) (oY b)))=_
  rw [q2,ex,F.yv hl]; rfl
theorem oA_law {b:Nat → Int} (h:areB b 32 0=true) (g:Bool) (hg:decide (opY (hval b 32 0) < pP)=!g):oA b g=[true,true,true]:=by
 obtain ⟨h1,h2,h3⟩:=bb_law h
 have F:=opF h
 have hr:=opY_range (hval b 32 0)
 have hy:=loadL_law (v:=hval (bb b) 32 0) (by rw [h2]; omega)
 have e:eqN 32 (lf (byL 32 (fm (r5 (oY b))))) (bb b)=decide (opY (hval b 32 0) < pP):=by
  rw [eqB_law h1 (fm_256 _).1 (fm_256 _).2,h2]
  show decide (_=fm (loadL (hval (bb b) 32 0)))=_
  rw [hy.2,h2]
  by_cases q:opY (hval b 32 0) < pP
  ·rw [decide_eq_true q,decide_eq_true (md_id ⟨hr.1,q⟩).symm]
  ·rw [decide_eq_false q,decide_eq_false (fun e=>q (by rw [e]; exact Int.emod_lt_of_pos _ pP_pos))]
 unfold oA
 rw [e,h1,show bd5 (r5 (oY b))=true from F.y,hg]
 cases g <;> rfl
theorem oB_law {b:Nat → Int} (h:areB b 32 0=true) (hl:opY (hval b 32 0) < pP) (g:Bool) (hg:Nat.ble (opM (hval b 32 0)) 1=!g):oB b g=[true,true,true,true]:=by
 have F:=opF h
 obtain ⟨em,ex,en⟩:=op_vals h hl
 unfold oB
 rw [show chk5 (r5 (oY b))=true from bd5_chk F.y,cM_t cv_bd F.yy,em,hg,show rtCd (lf (oU b)) (lf (oV b))=true from and_t.2 ⟨F.u,F.v⟩]
 cases g <;> rfl
theorem oO_law {b:Nat → Int} (h:areB b 32 0=true) (g:Bool) (hg:opOdd (hval b 32 0)=g):oO b g=true:=by
 obtain ⟨h1,h2,h3⟩:=bb_law h
 unfold oO
 rw [h3,hg]
 cases g <;> rfl
theorem oZ_law {b:Nat → Int} (h:areB b 32 0=true) (hl:opY (hval b 32 0) < pP) (g:Bool) (hg:decide (opX (hval b 32 0)=0)=g):oZ b g=[true,true]:=by
 have F:=opF h
 obtain ⟨em,ex,en⟩:=op_vals h hl
 unfold oZ
 rw [show bd5 (r5 (oX b))=true from F.x,eqN_zero32 (fm_256 _).1 (fm_256 _).2,show fm (r5 (oX b))=opX (hval b 32 0) from ex,hg]
 cases g <;> rfl
theorem oD_law {b:Nat → Int} (h:areB b 32 0=true) (hl:opY (hval b 32 0) < pP) (o g:Bool) (ho:opOdd (hval b 32 0)=o) (hg:(decide (fm (r5 (oX b)) % 2=1) != opOdd (hval b 32 0))=g):oD b o g=[true,true]:=by
 have F:=opF h
 subst ho
 unfold oD
 rw [show bd5 (r5 (oX b))=true from F.x,hg]
 cases g <;> rfl
theorem r_open:TRow prog F_edwards_open tOpen:=by
 intro args r h
 unfold tOpen at h
 split at h
 case h_2=>simp at h
 rename_i b
 simp only [Option.some.injEq,Prod.mk.injEq] at h
 obtain ⟨hb,rfl⟩:=h
 have F:=opF hb
 unfold opFs
 cases h1:decide (opY (hval b 32 0) < pP) with
 | false =>
  have hok:opOk (hval b 32 0)=false:=by unfold opOk; rw [h1]; rfl
  rw [hok]
  refine pure_of_out X12 at_edwards_open c_open (N:=5) (gs:=[(22,true)]) ?_
  have e:=k_openA b
  rw [oA_law hb true (by rw [h1]; rfl)] at e
  exact e
 | true =>
  have hl:=of_decide_eq_true h1
  have a:=oA_law hb false (by rw [h1]; rfl)
  cases h2:Nat.ble (opM (hval b 32 0)) 1 with
  | false =>
   have hok:opOk (hval b 32 0)=false:=by unfold opOk; rw [h1,h2]; rfl
   rw [hok]
   refine pure_of_out X12 at_edwards_open c_open (N:=5) (gs:=[(22,false),(39,true)]) ?_
   have e:=k_openB b
   rw [a,oB_law hb hl true (by rw [h2]; rfl)] at e
   exact e
  | true =>
   have bb':=oB_law hb hl false (by rw [h2]; rfl)
   cases h3:opOdd (hval b 32 0) with
   | true =>
    have o:=oO_law hb true h3
    cases h4:decide (opX (hval b 32 0)=0) with
    | true =>
     have hok:opOk (hval b 32 0)=false:=by unfold opOk; rw [h1,h2,h3,h4]; rfl
     rw [hok]
     refine pure_of_out X12 at_edwards_open c_open (N:=5) (gs:=[(12,true),(22,false),(39,false),(46,true)]) ?_
     have e:=k_openC b
     rw [a,bb',o,oZ_law hb hl true h4] at e
     exact e
    | false =>
     have hok:opOk (hval b 32 0)=true:=by unfold opOk; rw [h1,h2,h3,h4]; rfl
     rw [hok]
     unfold opLs
     have z:=oZ_law hb hl false h4
     cases h5:(decide (fm (r5 (oX b)) % 2=1) != opOdd (hval b 32 0)) with
     | true =>
      refine pure_of_out X12 at_edwards_open c_open (N:=5) (gs:=[(12,true),(22,false),(39,false),(46,false),(53,true)]) ?_
      have e:=k_openC1 b
      rw [a,bb',o,z,oD_law hb hl true true h3 h5,cM_t F.n F.y] at e
      exact e
     | false =>
      refine pure_of_out X12 at_edwards_open c_open (N:=5) (gs:=[(12,true),(22,false),(39,false),(46,false),(53,false)]) ?_
      have e:=k_openC2 b
      rw [a,bb',o,z,oD_law hb hl true false h3 h5,cM_t F.x F.y] at e
      exact e
   | false =>
    have o:=oO_law hb false h3
    have hok:opOk (hval b 32 0)=true:=by unfold opOk; rw [h1,h2,h3]; rfl
    rw [hok]
    unfold opLs
    cases h5:(decide (fm (r5 (oX b)) % 2=1) != opOdd (hval b 32 0)) with
    | true =>
     refine pure_of_out X12 at_edwards_open c_open (N:=5) (gs:=[(12,false),(22,false),(39,false),(53,true)]) ?_
     have e:=k_openD1 b
     rw [a,bb',o,oD_law hb hl false true h3 h5,cM_t F.n F.y] at e
     exact e
    | false =>
     refine pure_of_out X12 at_edwards_open c_open (N:=5) (gs:=[(12,false),(22,false),(39,false),(53,false)]) ?_
     have e:=k_openD2 b
     rw [a,bb',o,oD_law hb hl false false h3 h5,cM_t F.x F.y] at e
     exact e
noncomputable def ex13:List (Nat × TF):=(F_edwards_open,tOpen) :: ex12
theorem X13:LibOK prog tt ex13 []:=X12.addT r_open
end Go.Proofs.YtfpkegodflloiaaGreat
namespace Go.Proofs.YtfpkegodflloiaaGreat
open Go.Proofs.Tryz
open Go Go.AM
abbrev ld0 (b:Nat → Int):Nat → Int:=fun j=>b (0+j)
theorem ld0_eq (b:Nat → Int):ld0 b=b:=funext fun j=>by show b (0+j)=b j; rw [Nat.zero_add]
theorem tmSp_ext {q:Q4} {s s':Nat → Int} (h:∀ d,d < 32 → s d=s' d):∀ k,tmSp q s k=tmSp q s' k
 | 0=>rfl
 | k+1=>by
  unfold tmSp
  rw [tmSp_ext h k,nib_ext h (i:=63 - k) (by omega)]
def mulS (q:Q4) (k:Int):Q4:=tmSp q (lf (byL 32 k)) 64
theorem mulS_of {q:Q4} {s:Nat → Int} (h:areB s 32 0=true):tmSp q s 64=mulS q (hval s 32 0):=by
 refine tmSp_ext (fun d hd=>?_) 64
 rw [byL_self h]
 have:=lf_tab s 32 0 d hd
 rw [Nat.zero_add] at this
 exact this.symm
def tCheck:TF:=fun args=>match args with
 | [.agg [.ints .u8 32 b]]=>some (areB b 32 0,.sc (.int .i64 (bif opOk (hval b 32 0) then 0 else 41)))
 | _=>none
theorem c_check:fnChk prog (envP tt ex13 []) f_edwards_Check=true:=by kernel_rfl
theorem k_check (b:Nat → Int) (g:Bool):outP (apFunc (envP tt ex13 []) [(11,true)] 5 f_edwards_Check [u8s 32 b] [])=some (ckL [areB (ld0 b) 32 0,(!opOk (hval (ld0 b) 32 0)) == true],.sc (.int .i64 41)):=by kernel_rfl
theorem k_check2 (b:Nat → Int):outP (apFunc (envP tt ex13 []) [(11,false)] 5 f_edwards_Check [u8s 32 b] [])=some (ckL [areB (ld0 b) 32 0,(!opOk (hval (ld0 b) 32 0)) == false],.sc (.int .i64 0)):=by kernel_rfl
theorem r_check:TRow prog F_edwards_Check tCheck:=by
 intro args r h
 unfold tCheck at h
 split at h
 case h_2=>simp at h
 rename_i b
 simp only [Option.some.injEq,Prod.mk.injEq] at h
 obtain ⟨hb,rfl⟩:=h
 cases ho:opOk (hval b 32 0) with
 | true =>
  refine pure_of_out X13 at_edwards_Check c_check (N:=5) (gs:=[(11,false)]) ?_
  have e:=k_check2 b
  rw [ld0_eq,hb,ho] at e
  exact e
 | false =>
  refine pure_of_out X13 at_edwards_Check c_check (N:=5) (gs:=[(11,true)]) ?_
  have e:=k_check b true
  rw [ld0_eq,hb,ho] at e
  exact e
def tIdentity:TF:=fun args=>match args with
 | []=>some (true,b32 1)
 | _=>none
theorem c_identity:fnChk prog (envP tt ex13 []) f_edwards_Identity=true:=by kernel_rfl
theorem k_identity:outP (apFunc (envP tt ex13 []) [] 5 f_edwards_Identity [] [])=some (bdP (lf idP) && true,b32 (formS (vP (lf idP)))):=by kernel_rfl
theorem form_id:formS idS4=1:=by
 have e:invM 1=1:=by unfold invM powM; rw [Int.one_pow]; decide
 unfold formS idS4
 simp only [e]
 decide
theorem r_identity:TRow prog F_edwards_Identity tIdentity:=by
 intro args r h
 unfold tIdentity at h
 split at h
 case h_2=>simp at h
 simp only [Option.some.injEq,Prod.mk.injEq,true_and] at h
 subst h
 refine pure_of_out X13 at_edwards_Identity c_identity (N:=5) (gs:=[]) ?_
 rw [k_identity,idP_law.1,idP_law.2,form_id]; rfl
def tMulBase:TF:=fun args=>match args with
 | [.agg [.ints .u8 32 s]]=>some (areB s 32 0,b32 (formS (mulS baseS (hval s 32 0))))
 | _=>none
theorem c_mulBase:fnChk prog (envP tt ex13 []) f_edwards_MulBase=true:=by kernel_rfl
theorem k_mulBase (s:Nat → Int):outP (apFunc (envP tt ex13 []) [] 5 f_edwards_MulBase [u8s 32 s] [])=some (ckL [bdP (lf basL) && areB (ld0 s) 32 0,bdP (lf (r20 (tmV (n20 (lf basL)) (n32 s) 64)))],b32 (formS (vP (lf (r20 (tmV (n20 (lf basL)) (n32 s) 64)))))):=by kernel_rfl
theorem r_mulBase:TRow prog F_edwards_MulBase tMulBase:=by
 intro args r h
 unfold tMulBase at h
 split at h
 case h_2=>simp at h
 rename_i s
 simp only [Option.some.injEq,Prod.mk.injEq] at h
 obtain ⟨hs,rfl⟩:=h
 refine pure_of_out X13 at_edwards_MulBase c_mulBase (N:=5) (gs:=[]) ?_
 obtain ⟨h3,h4⟩:=tm_law (s:=s) bas_law.1
 have e:=k_mulBase s
 rw [ld0_eq,bas_law.1,hs,h3,h4,bas_law.2,mulS_of hs] at e
 exact e
def isIdS (q:Q4):Bool:=decide (q.1=0) && decide (q.2.1=q.2.2.1)
def tIsId:TF:=fun args=>match args with
 | [.agg [.ints .u64 20 p]]=>some (bdP p,.sc (.bool (isIdS (vP p))))
 | _=>none
theorem c_isId:fnChk prog (envP tt ex13 []) f_edwards_point_isIdentity=true:=by kernel_rfl
theorem k_isIdt (p:Nat → Int):outP (apFunc (envP tt ex13 []) [(6,true)] 5 f_edwards_point_isIdentity [pt p] [])=some (ckL [(bd5 (px p) && true) && (decide (fm (px p)=0) == true),bd5 (py p) && bd5 (pz p)],.sc (.bool (decide (fm (py p)=fm (pz p))))):=by kernel_rfl
theorem k_isIdf (p:Nat → Int):outP (apFunc (envP tt ex13 []) [(6,false)] 5 f_edwards_point_isIdentity [pt p] [])=some (ckL [(bd5 (px p) && true) && (decide (fm (px p)=0) == false)],.sc (.bool false)):=by kernel_rfl
theorem r_isId:TRow prog F_edwards_point_isIdentity tIsId:=by
 intro args r h
 unfold tIsId at h
 split at h
 case h_2=>simp at h
 rename_i p
 simp only [Option.some.injEq,Prod.mk.injEq] at h
 obtain ⟨hp,rfl⟩:=h
 obtain ⟨h1,h2,h3,h4⟩:=bdP_t.1 hp
 have e:isIdS (vP p)=(decide (fm (px p)=0) && decide (fm (py p)=fm (pz p))):=rfl
 rw [e]
 cases h0:decide (fm (px p)=0) with
 | true =>
  refine pure_of_out X13 at_edwards_point_isIdentity c_isId (N:=5) (gs:=[(6,true)]) ?_
  have e:=k_isIdt p
  rw [h0,h1,h2,h3] at e
  exact e
 | false =>
  refine pure_of_out X13 at_edwards_point_isIdentity c_isId (N:=5) (gs:=[(6,false)]) ?_
  have e:=k_isIdf p
  rw [h0,h1] at e
  exact e
def tOrder4:TF:=fun args=>match args with
 | []=>some (true,b32 ordL)
 | _=>none
theorem c_order4:fnChk prog (envP tt ex13 []) f_edwards_order=true:=by kernel_rfl
theorem r_order4:TRow prog F_edwards_order tOrder4:=by
 intro args r h
 unfold tOrder4 at h
 split at h
 case h_2=>simp at h
 simp only [Option.some.injEq,Prod.mk.injEq,true_and] at h
 subst h
 exact pure_of_out X13 at_edwards_order c_order4 (N:=5) (gs:=[]) (by kernel_rfl)
noncomputable def ex14:List (Nat × TF):=(F_edwards_order,tOrder4) :: (F_edwards_point_isIdentity,tIsId) :: (F_edwards_MulBase,tMulBase) :: (F_edwards_Identity,tIdentity) :: (F_edwards_Check,tCheck) :: ex13
theorem X14:LibOK prog tt ex14 []:=((((X13.addT r_check).addT r_identity).addT r_mulBase).addT r_isId).addT r_order4
def prS (w:Int):Bool:=opOk w && isIdS (mulS (openS w) ordL)
def tIsPrime:TF:=fun args=>match args with
 | [.agg [.ints .u8 32 b]]=>some (areB b 32 0,.tup [.sc (.bool (prS (hval b 32 0))),.sc (.int .i64 (bif opOk (hval b 32 0) then 0 else 41))])
 | _=>none
theorem c_isPrime:fnChk prog (envP tt ex14 []) f_edwards_IsPrime=true:=by kernel_rfl
theorem k_isPrime1 (b:Nat → Int):outP (apFunc (envP tt ex14 []) [(12,true)] 5 f_edwards_IsPrime [u8s 32 b] [])=some (ckL [areB (ld0 b) 32 0,(!opOk (hval (ld0 b) 32 0)) == true],.tup [.sc (.bool false),.sc (.int .i64 41)]):=by kernel_rfl
def ldP_edw (b:Nat → Int):List Int:=tabL (lf (opFs b)) 20 0
set_option maxRecDepth 100000 in
theorem k_isPrime2 (b:Nat → Int):outP (apFunc (envP tt ex14 []) [(12,false)] 5 f_edwards_IsPrime [u8s 32 b] []) =
  some (ckL [areB (ld0 b) 32 0,(!opOk (hval (ld0 b) 32 0)) == false,bdP (lf (ldP_edw (ld0 b))) && areB (lf (byL 32 ordL)) 32 0,bdP (lf (r20 (tmV (n20 (lf (ldP_edw (ld0 b)))) (n32 (lf (byL 32 ordL))) 64)))],
   .tup [.sc (.bool (isIdS (vP (lf (r20 (tmV (n20 (lf (ldP_edw (ld0 b)))) (n32 (lf (byL 32 ordL))) 64)))))),.sc (.int .i64 0)]):=by kernel_rfl
theorem ldP_law {b:Nat → Int} (hb:areB b 32 0=true) (ho:opOk (hval b 32 0)=true):bdP (lf (ldP_edw b))=true ∧ vP (lf (ldP_edw b))=openS (hval b 32 0):=by
 obtain ⟨h1,h2⟩:=opLs_law hb ho
 exact ⟨h1,h2⟩
theorem ordB:areB (lf (byL 32 ordL)) 32 0=true ∧ hval (lf (byL 32 ordL)) 32 0=ordL:=⟨areB_b32 _,hval_b32 (by decide) (by decide)⟩
theorem r_isPrime:TRow prog F_edwards_IsPrime tIsPrime:=by
 intro args r h
 unfold tIsPrime at h
 split at h
 case h_2=>simp at h
 rename_i b
 simp only [Option.some.injEq,Prod.mk.injEq] at h
 obtain ⟨hb,rfl⟩:=h
 unfold prS
 cases ho:opOk (hval b 32 0) with
 | false =>
  refine pure_of_out X14 at_edwards_IsPrime c_isPrime (N:=5) (gs:=[(12,true)]) ?_
  have e:=k_isPrime1 b
  rw [ld0_eq,hb,ho] at e
  exact e
 | true =>
  refine pure_of_out X14 at_edwards_IsPrime c_isPrime (N:=5) (gs:=[(12,false)]) ?_
  obtain ⟨h1,h2⟩:=ldP_law hb ho
  obtain ⟨h3,h4⟩:=tm_law (s:=lf (byL 32 ordL)) h1
  have e:=k_isPrime2 b
  have hm:tmSp (openS (hval b 32 0)) (lf (byL 32 ordL)) 64=mulS (openS (hval b 32 0)) ordL:=rfl
  rw [ld0_eq,hb,ho,h1,ordB.1,h3,h4,h2,hm] at e
  generalize mulS (openS (hval b 32 0)) ordL=q at e ⊢
  exact e
end Go.Proofs.YtfpkegodflloiaaGreat
