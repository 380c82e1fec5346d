/-
  Texts of the claim: DGio.
-/
import Derived.Test.YtplaklpfeabhiaaGreatAe
import Derived.Test.YtplaklpfeabhiaaGreatBb
namespace Go.Proofs.YtplaklpfeabhiaaGreat
open Go.Proofs.Tryz
open Go Go.AM
def sTg (E:EnvP) (gs:Guess) (N:Nat) (fn:Func):TF:=fun args=>outP (apFunc E gs N fn args [])
theorem ztK {ts:List (Nat × TF)} {ws:List (Nat × WF)} (L:LibOK prog tt ts ws) {f:FuncId} {fn:Func} (hf:prog.funcs[f]?=some fn) (gs:Guess) (N:Nat) (hc:fnChk prog (envP tt ts ws) fn=true):TRow prog f (sTg (envP tt ts ws) gs N fn):=fun args r h=>zab L hf hc h
noncomputable def gx3:List (Nat × TF):=(F_rimeref04_bits,sTg (envP tt [] []) [] 5 f_rimeref04_bits)::gx2
theorem GX3:LibOK prog tt gx3 []:=GX2.addT (ztK L0 at_rimeref04_bits [] 5 (by kernel_rfl))
def tFromG:TF:=fun args=>match args with
 | [.agg [.ints .u8 32 b]]=>some (areB b 32 0,u10 (lf (carD (lf (fromL (hval b 32 0))))))
 | _=>none
theorem zv2:fnChk prog (envP tt gx3 []) f_rimeref04_From=true:=by kernel_rfl
theorem zuG (b:Nat→Int):outP (apFunc (envP tt gx3 []) [] 30 f_rimeref04_From [u8s 32 b] [])=some (ckL [gw10 (lf (fromRaw b))],u10 (lf (carD (lf (fromRaw b))))):=by kernel_rfl
theorem zt2:TRow prog F_rimeref04_From tFromG:=by
 intro args r h
 unfold tFromG at h
 split at h
 case h_2=>simp at h
 rename_i b
 simp only [Option.some.injEq,Prod.mk.injEq] at h
 obtain ⟨hb,rfl⟩:=h
 have hr:=zaQ hb
 refine zab GX3 at_rimeref04_From zv2 (N:=30) (gs:=[]) ?_
 have e:=zuG b
 rw [zjE hb,(ziq ⟨hr.1,by have:=hr.2;simpa using this⟩).1] at e
 exact e
def c3G (l:List Int):List Int:=carD (lf (carD (lf (carD (lf l)))))
def byCk (l:List Int) (g:Bool):List Bool:=[gw10 (lf l),gw10 (lf (carD (lf l))),gw10 (lf (carD (lf (carD (lf l))))),(xG (lf (c3G l))).g==g]
noncomputable abbrev byE:EnvP:=envP tt gx3 []
noncomputable def byB:Code:=match f_rimeref04_Bytes.body with | some c=>(match bodiesOf 2 c with | [.loop b]=>b | _=>.skip) | none=>.skip
def byS (D:Nat→Int) (i at_:Int) (f:Nat→Int):St:=⟨tmOf [(1,.sc (.ptr 0 10 0 0 10)),(2,.sc (.ptr 1 32 0 0 32)),(6,.sc (.ptr 3 32 0 0 32)),(7,.sc (.int .u64 at_)),(8,.sc (.int .i64 i))] 96 0,
 [some (.ints .i64 10 1 (fun _ d=>D d)),some (.ints .u8 32 1 (fun _ _=>0)),none,some (.ints .u8 32 1 (fun _ d=>f d))]⟩
def byT (f:Nat→Int):St:=⟨tmOf [(2,.sc (.ptr 1 32 0 0 32)),(6,.sc (.ptr 3 32 0 0 32))] 96 0,[none,some (.ints .u8 32 1 (fun _ _=>0)),none,some (.ints .u8 32 1 (fun _ d=>f d))]⟩
def cntB (n j:Nat):Nat:=bif Nat.ble (8*j+8) n then 8 else n - 8*j
def outK (D:Nat→Int) (n j:Nat):Int:=byteG D j (cntB n j)
theorem by_r0 (D f:Nat→Int):roundR byE [] 30 4 [] byB (byS D 0 0 (outK D 0)) .normal (byS D 1 26 f)=some (true&&stR (rnm 4 []) (byS D 1 26 (outK D 26)) (byS D 1 26 f)):=by kernel_rfl
theorem by_r1 (D f:Nat→Int):roundR byE [] 30 4 [] byB (byS D 1 26 (outK D 26)) .normal (byS D 2 51 f)=some (true&&stR (rnm 4 []) (byS D 2 51 (outK D 51)) (byS D 2 51 f)):=by kernel_rfl
theorem by_r2 (D f:Nat→Int):roundR byE [] 30 4 [] byB (byS D 2 51 (outK D 51)) .normal (byS D 3 77 f)=some (true&&stR (rnm 4 []) (byS D 3 77 (outK D 77)) (byS D 3 77 f)):=by kernel_rfl
theorem by_r3 (D f:Nat→Int):roundR byE [] 30 4 [] byB (byS D 3 77 (outK D 77)) .normal (byS D 4 102 f)=some (true&&stR (rnm 4 []) (byS D 4 102 (outK D 102)) (byS D 4 102 f)):=by kernel_rfl
theorem by_r4 (D f:Nat→Int):roundR byE [] 30 4 [] byB (byS D 4 102 (outK D 102)) .normal (byS D 5 128 f)=some (true&&stR (rnm 4 []) (byS D 5 128 (outK D 128)) (byS D 5 128 f)):=by kernel_rfl
theorem by_r5 (D f:Nat→Int):roundR byE [] 30 4 [] byB (byS D 5 128 (outK D 128)) .normal (byS D 6 153 f)=some (true&&stR (rnm 4 []) (byS D 6 153 (outK D 153)) (byS D 6 153 f)):=by kernel_rfl
theorem by_r6 (D f:Nat→Int):roundR byE [] 30 4 [] byB (byS D 6 153 (outK D 153)) .normal (byS D 7 179 f)=some (true&&stR (rnm 4 []) (byS D 7 179 (outK D 179)) (byS D 7 179 f)):=by kernel_rfl
theorem by_r7 (D f:Nat→Int):roundR byE [] 30 4 [] byB (byS D 7 179 (outK D 179)) .normal (byS D 8 204 f)=some (true&&stR (rnm 4 []) (byS D 8 204 (outK D 204)) (byS D 8 204 f)):=by kernel_rfl
theorem by_r8 (D f:Nat→Int):roundR byE [] 30 4 [] byB (byS D 8 204 (outK D 204)) .normal (byS D 9 230 f)=some (true&&stR (rnm 4 []) (byS D 9 230 (outK D 230)) (byS D 9 230 f)):=by kernel_rfl
theorem by_r9 (D f:Nat→Int):roundR byE [] 30 4 [] byB (byS D 9 230 (outK D 230)) .normal (byS D 10 255 f)=some (true&&stR (rnm 4 []) (byS D 10 255 (outK D 255)) (byS D 10 255 f)):=by kernel_rfl
theorem by_x (D f:Nat→Int):roundR byE [] 30 4 [] byB (byS D 10 255 (outK D 255)) (.exit 2) (byT f)=some (true&&stR (rnm 4 []) (byT (outK D 255)) (byT f)):=by kernel_rfl
end Go.Proofs.YtplaklpfeabhiaaGreat
