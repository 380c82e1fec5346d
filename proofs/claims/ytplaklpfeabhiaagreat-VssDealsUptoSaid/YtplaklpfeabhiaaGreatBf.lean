/-
  Texts of the claim: DGvScalars DGvInts VLD0 VLD.
-/
import Derived.Test.YtplaklpfeabhiaaGreatBd
import Derived.Test.YtplaklpfeabhiaaGreatBe
namespace Go.Proofs.YtplaklpfeabhiaaGreat
open Go.Proofs.Tryz
open Go Go.AM
def mkLScalars (i k:Int):List Int:=[wr .u8 i,wr .u8 (ishr .i64 i 8),wr .u8 k,wr .u8 (ishr .i64 k 8),77]++List.replicate 27 0
def mkScalars (i k:Int):Nat→Int:=lf (mkLScalars i k)
def tMarkScalars:TF:=fun args=>match args with
 | [.sc (.int .i64 i),.sc (.int .i64 k)]=>some (true,u8s 32 (mkScalars i k))
 | _=>none
theorem zgN:fnChk prog pE f_rimeplain_markScalars=true:=by kernel_rfl
theorem zhd:TRow prog F_rimeplain_markScalars tMarkScalars:=by
 intro args r h
 unfold tMarkScalars at h
 split at h
 case h_2=>simp at h
 rename_i i k
 simp only [Option.some.injEq,Prod.mk.injEq,true_and] at h
 subst h
 exact zab L0 at_rimeplain_markScalars zgN (N:=5) (gs:=[]) (by kernel_rfl)
def tCopyScalars:TF:=fun args=>match args with
 | [.sc (.vints _ .u8 32 n f)]=>some (fits (0+n) 32,.sc (.vints true .u8 32 n f))
 | _=>none
theorem zhk:fnChk prog pE f_rimeplain_CopyScalars=true:=by kernel_rfl
theorem zhf (t:Bool) (n:Nat) (f:Nat→Nat→Int):outP (apFunc pE [] 5 f_rimeplain_CopyScalars [.sc (.vints t .u8 32 n f)] [])=some (ckL [fits (0+n) 32&&true],.sc (.vints true .u8 32 (0+n) f)):=by kernel_rfl
theorem zha:TRow prog F_rimeplain_CopyScalars tCopyScalars:=by
 intro args r h
 unfold tCopyScalars at h
 split at h
 case h_2=>simp at h
 rename_i t n f
 simp only [Option.some.injEq,Prod.mk.injEq] at h
 obtain ⟨hb,rfl⟩:=h
 refine zhA (zab L0 at_rimeplain_CopyScalars zhk (N:=5) (gs:=[]) ?_) (Nat.zero_add n) (fun r _ d _=>rfl)
 rw [zhf,hb];rfl
def gsScalars:List (Nat × TF):=[(F_rimeplain_CopyScalars,tCopyScalars),(F_rimeplain_markScalars,tMarkScalars)]
theorem GScalars:LibOK prog tt gsScalars []:=(L0.addT zhd).addT zha
noncomputable abbrev gEScalars:EnvP:=envP tt gsScalars []
noncomputable def gBScalars0:Code:=match f_rimeplain_Given_Scalars.body with | some c=>(match bodiesOf 0 c with | [.loop b]=>b | _=>.skip) | none=>.skip
noncomputable def gBScalars2:Code:=match f_rimeplain_Given_Scalars.body with | some c=>(match bodiesOf 2 c with | [.loop b]=>b | _=>.skip) | none=>.skip
def gTScalars (p:Nat) (a:GV):List (Nat × AV):=[(0,.sc (.ptr a.q a.bs 0 0 a.bs)),(1,.sc (.vints a.t .u8 32 a.n a.f)),(5,.sc (.slice p 32 0 0 32 a.m))]
def gHScalars (p:Nat) (a:GV) (D:Nat→Nat→Int):Heap:=tabH a.x p++[some (.ints .u8 32 a.m D)]
def g0VScalars (p:Nat) (a:GV) (v:Int) (D:Nat→Nat→Int):St:=⟨tmOf ((6,.sc (.int .i64 v))::gTScalars p a) 61 0,gHScalars p a D⟩
def g2VScalars (p:Nat) (a:GV) (v:Int) (D:Nat→Nat→Int):St:=⟨tmOf ((7,.sc (.int .i64 v))::gTScalars p a) 61 0,gHScalars p a D⟩
def gXScalars (p:Nat) (a:GV) (D:Nat→Nat→Int):St:=⟨tmOf (gTScalars p a) 61 0,gHScalars p a D⟩
theorem g0rScalars:∀ (p:Nat),p<8→∀ (a:GV) (v v':Int) (D D':Nat→Nat→Int),roundP gEScalars [(15,true)] 5 p gBScalars0 (g0VScalars p a v D) .normal (g0VScalars p a v' D')=some (ckL [decide (v<(a.m:Int))==true,inR v a.m]&&stBp p (g0VScalars p a (wr .i64 (v+1)) (putR D v.toNat 32 (mkScalars 987 v))) (g0VScalars p a v' D'),(tabH a.x p,p+1))
 | 0,_=>by intros;kernel_rfl
 | 1,_=>by intros;kernel_rfl
 | 2,_=>by intros;kernel_rfl
 | 3,_=>by intros;kernel_rfl
 | 4,_=>by intros;kernel_rfl
 | 5,_=>by intros;kernel_rfl
 | 6,_=>by intros;kernel_rfl
 | 7,_=>by intros;kernel_rfl
 | p+8,h=>by omega
theorem g0sScalars:∀ (p:Nat),p<8→∀ (a:GV) (v:Int) (D:Nat→Nat→Int),roundP gEScalars [(15,false)] 5 p gBScalars0 (g0VScalars p a v D) (.exit 0) (gXScalars p a D)=some (ckL [decide (v<(a.m:Int))==false]&&stBp p (gXScalars p a D) (gXScalars p a D),(tabH a.x p,p+1))
 | 0,_=>by intros;kernel_rfl
 | 1,_=>by intros;kernel_rfl
 | 2,_=>by intros;kernel_rfl
 | 3,_=>by intros;kernel_rfl
 | 4,_=>by intros;kernel_rfl
 | 5,_=>by intros;kernel_rfl
 | 6,_=>by intros;kernel_rfl
 | 7,_=>by intros;kernel_rfl
 | p+8,h=>by omega
theorem g2rScalars:∀ (p:Nat),p<8→∀ (a:GV) (v v':Int) (D D':Nat→Nat→Int),roundP gEScalars [(26,true)] 5 p gBScalars2 (g2VScalars p a v D) .normal (g2VScalars p a v' D')=some (ckL [decide (v<(a.n:Int))==true,inR v a.n,inR v a.m]&&stBp p (g2VScalars p a (wr .i64 (v+1)) (putR D v.toNat 32 (a.f v.toNat))) (g2VScalars p a v' D'),(tabH a.x p,p+1))
 | 0,_=>by intros;kernel_rfl
 | 1,_=>by intros;kernel_rfl
 | 2,_=>by intros;kernel_rfl
 | 3,_=>by intros;kernel_rfl
 | 4,_=>by intros;kernel_rfl
 | 5,_=>by intros;kernel_rfl
 | 6,_=>by intros;kernel_rfl
 | 7,_=>by intros;kernel_rfl
 | p+8,h=>by omega
theorem g2sScalars:∀ (p:Nat),p<8→∀ (a:GV) (v:Int) (D:Nat→Nat→Int),roundP gEScalars [(26,false)] 5 p gBScalars2 (g2VScalars p a v D) (.exit 2) (gXScalars p a D)=some (ckL [decide (v<(a.n:Int))==false]&&stBp p (gXScalars p a D) (gXScalars p a D),(tabH a.x p,p+1))
 | 0,_=>by intros;kernel_rfl
 | 1,_=>by intros;kernel_rfl
 | 2,_=>by intros;kernel_rfl
 | 3,_=>by intros;kernel_rfl
 | 4,_=>by intros;kernel_rfl
 | 5,_=>by intros;kernel_rfl
 | 6,_=>by intros;kernel_rfl
 | 7,_=>by intros;kernel_rfl
 | p+8,h=>by omega
theorem g0eScalars (p:Nat) (a:GV) (hq:a.q≤p) (v:Int) {D D':Nat→Nat→Int} (h:eqF a.m 32 D D'=true):stBp p (g0VScalars p a v D) (g0VScalars p a v D')=true :=
 zdH (by simp [okT,okA,okV,gTScalars,gHScalars,tmOf,zah];omega) (by simp only [gHScalars,List.drop_left' (zah _ _)];simp [hpB,blkB,zaj,zan,h])
theorem g2eScalars (p:Nat) (a:GV) (hq:a.q≤p) (v:Int) {D D':Nat→Nat→Int} (h:eqF a.m 32 D D'=true):stBp p (g2VScalars p a v D) (g2VScalars p a v D')=true :=
 zdH (by simp [okT,okA,okV,gTScalars,gHScalars,tmOf,zah];omega) (by simp only [gHScalars,List.drop_left' (zah _ _)];simp [hpB,blkB,zaj,zan,h])
theorem gXeScalars (p:Nat) (a:GV) (hq:a.q≤p) (D:Nat→Nat→Int):stBp p (gXScalars p a D) (gXScalars p a D)=true :=
 zdH (by simp [okT,okA,okV,gTScalars,gHScalars,tmOf,zah];omega) (by simp only [gHScalars,List.drop_left' (zah _ _)];simp [hpB,blkB,zaj,zan,zam])
def gMScalars:Nat→Nat→Int:=fun r d=>mkScalars 987 (r:Int) d
def gDScalars (k:Nat):Nat→Nat→Int:=upto k gMScalars (fun _ _=>0)
def gGScalars (a:GV) (k:Nat):Nat→Nat→Int:=upto k a.f gMScalars
def gRdScalars (p:Nat) (s:St):Option GV:=match getA s.tm 0,getA s.tm 1,s.hp[p]? with
 | .sc (.ptr q bs _ _ _),.sc (.vints t _ _ n f),some (some (.ints _ _ m _))=>(match Nat.beq s.hp.length (p+1) with | true=>some ⟨q,bs,fun i=>(s.hp[i]?).getD none,t,n,f,m⟩ | false=>none)
 | _,_,_=>none
def g0FScalars (p:Nat):LF:=AM.famP p (gRdScalars p) (fun a k=>g0VScalars p a (k:Int) (gDScalars k)) (fun a=>big a.m&&(Nat.ble a.q p&&Nat.ble (p+1) 8)) (fun _=>.normal) (fun a=>gXScalars p a (gDScalars a.m))
def g2FScalars (p:Nat):LF:=AM.famP p (gRdScalars p) (fun a k=>g2VScalars p a (k:Int) (gGScalars a k)) (fun a=>big a.m&&(Nat.ble a.n a.m&&(Nat.ble a.q p&&Nat.ble (p+1) 8))) (fun _=>.normal) (fun a=>gXScalars p a (gGScalars a a.n))
theorem g0bScalars:f_rimeplain_Given_Scalars.body.map (bodiesOf 0)=some [.loop gBScalars0]:=by kernel_rfl
theorem g2bScalars:f_rimeplain_Given_Scalars.body.map (bodiesOf 2)=some [.loop gBScalars2]:=by kernel_rfl
theorem g0kScalars:codeOK prog gEScalars.env.isW gBScalars0=true:=by kernel_rfl
theorem g2kScalars:codeOK prog gEScalars.env.isW gBScalars2=true:=by kernel_rfl
theorem gRdOkScalars {p:Nat} {s:St} {a:GV} (h:gRdScalars p s=some a) (D D':Nat→Nat→Int):(gHScalars p a D).length=s.hp.length∧s.hp.take p=(gHScalars p a D).take p∧∀ (i:Nat),s.hp[i]?=some none→(gHScalars p a D')[i]?=some none:=by
 unfold gRdScalars at h
 split at h
 case h_2=>simp at h
 rename_i hb
 split at h
 case h_2=>simp at h
 rename_i hl
 simp only [Option.some.injEq] at h
 have hl:=beq_t.1 hl
 subst h
 refine ⟨by simp [gHScalars,zah,hl],?_,fun i hi=>?_⟩
 ·rw [gHScalars,List.take_left' (zah _ _)]
  exact zhE _ _ (by omega)
 ·have hip:i<p:=by
   have h1:=(List.getElem?_eq_some_iff.1 hi).1
   by_cases e:i=p
   ·subst e;rw [hb] at hi;simp at hi
   ·omega
  rw [gHScalars,List.getElem?_append_left (by rw [zah];exact hip),zcp _ _ _ hip]
  show some ((s.hp[i]?).getD none)=some none
  rw [hi];rfl
theorem ziU (p:Nat):LRow prog f_rimeplain_Given_Scalars 0 (g0FScalars p):=by
 refine LRow.famP (N:=5) (GScalars.env []) mix (fun a=>a.m) (zb8 g0bScalars) g0kScalars (fun w0 own0=>zat (fun id=>rfl) gBScalars0) (fun s a h=>gRdOkScalars h _ _) ?_ ?_
 ·intro a ha k hk
  simp only [Bool.and_eq_true] at ha
  have hb:a.m≤4611686018427387904:=Nat.le_of_ble_eq_true ha.1
  have hq:=Nat.le_of_ble_eq_true ha.2.1
  have hp:p<8:=Nat.le_of_ble_eq_true ha.2.2
  have ew:wr .i64 ((k:Int)+1)=((k+1:Nat):Int):=by rw [za8 (by omega) (by omega)];rfl
  refine za4 (g0rScalars p hp a (k:Int) ((k+1:Nat):Int) (gDScalars k) (gDScalars (k+1))) ?_ (by show _=(gHScalars p a _).take p;rw [gHScalars,List.take_left' (zah _ _)]) (by show _=(gHScalars p a _).length;simp [gHScalars,zah])
  have hu:eqF a.m 32 (putR (gDScalars k) ((k:Nat):Int).toNat 32 (mkScalars 987 (k:Int))) (gDScalars (k+1))=true:=ziF fun d _=>rfl
  rw [ew,g0eScalars p a hq _ hu,zbi hk]
  simp [ckL];omega
 ·intro a ha
  simp only [Bool.and_eq_true] at ha
  have hq:=Nat.le_of_ble_eq_true ha.2.1
  have hp:p<8:=Nat.le_of_ble_eq_true ha.2.2
  obtain ⟨s1,h1,h2⟩:=za4 (g0sScalars p hp a (a.m:Int) (gDScalars a.m)) (by rw [gXeScalars p a hq];simp [ckL]) (by show _=(gHScalars p a _).take p;rw [gHScalars,List.take_left' (zah _ _)]) (by show _=(gHScalars p a _).length;simp [gHScalars,zah])
  exact ⟨_,s1,h1,rfl,h2⟩
theorem zjf (p:Nat):LRow prog f_rimeplain_Given_Scalars 2 (g2FScalars p):=by
 refine LRow.famP (N:=5) (GScalars.env []) mix (fun a=>a.n) (zb8 g2bScalars) g2kScalars (fun w0 own0=>zat (fun id=>rfl) gBScalars2) (fun s a h=>gRdOkScalars h _ _) ?_ ?_
 ·intro a ha k hk
  simp only [Bool.and_eq_true] at ha
  have hb:a.m≤4611686018427387904:=Nat.le_of_ble_eq_true ha.1
  have hnm:=Nat.le_of_ble_eq_true ha.2.1
  have hq:=Nat.le_of_ble_eq_true ha.2.2.1
  have hp:p<8:=Nat.le_of_ble_eq_true ha.2.2.2
  have ew:wr .i64 ((k:Int)+1)=((k+1:Nat):Int):=by rw [za8 (by omega) (by omega)];rfl
  refine za4 (g2rScalars p hp a (k:Int) ((k+1:Nat):Int) (gGScalars a k) (gGScalars a (k+1))) ?_ (by show _=(gHScalars p a _).take p;rw [gHScalars,List.take_left' (zah _ _)]) (by show _=(gHScalars p a _).length;simp [gHScalars,zah])
  have hu:eqF a.m 32 (putR (gGScalars a k) ((k:Nat):Int).toNat 32 (a.f ((k:Nat):Int).toNat)) (gGScalars a (k+1))=true:=ziF fun d _=>by rw [Int.toNat_natCast]
  rw [ew,g2eScalars p a hq _ hu,zbi hk,zbi (show k<a.m by omega)]
  simp [ckL];omega
 ·intro a ha
  simp only [Bool.and_eq_true] at ha
  have hq:=Nat.le_of_ble_eq_true ha.2.2.1
  have hp:p<8:=Nat.le_of_ble_eq_true ha.2.2.2
  obtain ⟨s1,h1,h2⟩:=za4 (g2sScalars p hp a (a.n:Int) (gGScalars a a.n)) (by rw [gXeScalars p a hq];simp [ckL]) (by show _=(gHScalars p a _).take p;rw [gHScalars,List.take_left' (zah _ _)]) (by show _=(gHScalars p a _).length;simp [gHScalars,zah])
  exact ⟨_,s1,h1,rfl,h2⟩
noncomputable def gLScalars:List (Nat × LF):=[(2,fun s=>g2FScalars (hp1 s) s),(0,fun s=>g0FScalars (hp1 s) s)]
theorem GLScalars:LsOK prog f_rimeplain_Given_Scalars gLScalars:=(LsOK.nil.cons (LRow.dep hp1 ziU)).cons (LRow.dep hp1 zjf)
theorem zfG:fnChk prog (envL tt gsScalars [] gLScalars) f_rimeplain_Given_Scalars=true:=by kernel_rfl
def gwFScalars (n:Nat) (f:Nat→Nat→Int):Nat→Nat→Int:=upto n f gMScalars
def gwNScalars (p m n:Nat) (f:Nat→Nat→Int):Heap:=[some (.ints .u8 32 m (gwFScalars n f)),some (.mix 1 1 (fun r=>[[.one (.slice p 32 0 0 32 m)]].getD r [])),some (.mix 1 1 (fun r=>cutS ([[.one (.slice p 32 0 0 32 m)]].getD r []) 0 1)),
 some (.mix 1 1 (fun r=>[[.one (.vints true .u8 32 m (gwFScalars n f))]].getD r [])),some (.mix 1 1 (fun r=>cutS ([[.one (.vints true .u8 32 m (gwFScalars n f))]].getD r []) 0 1))]
def gwBScalars (p m n:Nat) (f:Nat→Nat→Int):Heap:=[some (.ints .u8 32 m (gwFScalars n f)),some (.mix 1 1 (fun _=>[.one (.slice p 32 0 0 32 m)])),some (.mix 1 1 (fun _=>[.one (.slice p 32 0 0 32 m)])),
 some (.mix 1 1 (fun _=>[.one (.vints true .u8 32 m (gwFScalars n f))])),some (.mix 1 1 (fun _=>[.one (.vints true .u8 32 m (gwFScalars n f))]))]
def gwVScalars (q p:Nat) (row:Nat→List Seg) (x:Nat→Option Blk) (t:Bool) (n:Nat) (f:Nat→Nat→Int):GV:=⟨q,30,bookAt q row x,t,n,f,gvM n⟩
def gwCkScalars (q p:Nat) (row:Nat→List Seg) (x:Nat→Option Blk) (t:Bool) (n:Nat) (f:Nat→Nat→Int):Bool:=ckL [inB (wr .i64 ((n:Int)+3)) (wr .i64 ((n:Int)+3))&&fits (gvM n) 32,
 (big (gvM n)&&(Nat.ble q p&&Nat.ble (p+1) 8))&&stBp p (g0VScalars p (gwVScalars q p row x t n f) 0 (fun _ _=>0)) (g0VScalars p (gwVScalars q p row x t n f) ((0:Nat):Int) (gDScalars 0)),
 (big (gvM n)&&(Nat.ble n (gvM n)&&(Nat.ble q p&&Nat.ble (p+1) 8)))&&stBp p (g2VScalars p (gwVScalars q p row x t n f) 0 (gDScalars (gvM n))) (g2VScalars p (gwVScalars q p row x t n f) ((0:Nat):Int) (gGScalars (gwVScalars q p row x t n f) 0)),
 fits (0+1) 24&&true,fits (0+gvM n) 32,fits (0+1) 24&&true,inB (n:Int) (gvM n)]
set_option maxRecDepth 100000 in
theorem gwKScalars:∀ (p q:Nat),q<p→p<8→∀ (c:Nat→SV) (x:Nat→Option Blk) (n:Nat) (t:Bool) (f:Nat→Nat→Int),
  apFunc (envL tt gsScalars [] gLScalars) [] 5 f_rimeplain_Given_Scalars [.sc (.ptr q 30 0 0 30),.sc (.vints t .u8 32 n f)] (tabH (bookAt q (fun _=>onesS (set2 8 .nils .nils c) 30 0) x) p) =
  some (gwCkScalars q p (fun _=>onesS (set2 8 .nils .nils c) 30 0) x t n f,(.sc (.slice p 32 0 0 32 ((n:Int).toNat - 0)),
   tabH (bookAt q (bookUp (set2 8 .nils .nils c) (set2 8 (.slice (p+2) 1 0 0 1 1) .nils c) (set2 8 (.slice (p+2) 1 0 0 1 1) (.slice (p+4) 1 0 0 1 1) c)) x) p++gwNScalars p (gvM n) n f))
 | 0,q,h,_=>by omega
 | 1,0,_,_=>by intros;kernel_rfl
 | 2,0,_,_=>by intros;kernel_rfl
 | 2,1,_,_=>by intros;kernel_rfl
 | 3,0,_,_=>by intros;kernel_rfl
 | 3,1,_,_=>by intros;kernel_rfl
 | 3,2,_,_=>by intros;kernel_rfl
 | 4,0,_,_=>by intros;kernel_rfl
 | 4,1,_,_=>by intros;kernel_rfl
 | 4,2,_,_=>by intros;kernel_rfl
 | 4,3,_,_=>by intros;kernel_rfl
 | 5,0,_,_=>by intros;kernel_rfl
 | 5,1,_,_=>by intros;kernel_rfl
 | 5,2,_,_=>by intros;kernel_rfl
 | 5,3,_,_=>by intros;kernel_rfl
 | 5,4,_,_=>by intros;kernel_rfl
 | 6,0,_,_=>by intros;kernel_rfl
 | 6,1,_,_=>by intros;kernel_rfl
 | 6,2,_,_=>by intros;kernel_rfl
 | 6,3,_,_=>by intros;kernel_rfl
 | 6,4,_,_=>by intros;kernel_rfl
 | 6,5,_,_=>by intros;kernel_rfl
 | 7,0,_,_=>by intros;kernel_rfl
 | 7,1,_,_=>by intros;kernel_rfl
 | 7,2,_,_=>by intros;kernel_rfl
 | 7,3,_,_=>by intros;kernel_rfl
 | 7,4,_,_=>by intros;kernel_rfl
 | 7,5,_,_=>by intros;kernel_rfl
 | 7,6,_,_=>by intros;kernel_rfl
 | 1,q+1,h,_=>by omega
 | 2,q+2,h,_=>by omega
 | 3,q+3,h,_=>by omega
 | 4,q+4,h,_=>by omega
 | 5,q+5,h,_=>by omega
 | 6,q+6,h,_=>by omega
 | 7,q+7,h,_=>by omega
 | p+8,_,_,h=>by omega
theorem gwCkTScalars {q p n:Nat} (hq:q<p) (hp:p<8) (hn:n≤1073741824) (row:Nat→List Seg) (x:Nat→Option Blk) (t:Bool) (f:Nat→Nat→Int):gwCkScalars q p row x t n f=true:=by
 obtain ⟨e1,e2⟩:=zgk hn
 have hq':Nat.ble q p=true:=Nat.ble_eq_true_of_le (by omega)
 have hp':Nat.ble (p+1) 8=true:=Nat.ble_eq_true_of_le (by omega)
 have b0:stBp p (g0VScalars p (gwVScalars q p row x t n f) 0 (fun _ _=>0)) (g0VScalars p (gwVScalars q p row x t n f) ((0:Nat):Int) (gDScalars 0))=true:=g0eScalars p _ (Nat.le_of_lt hq) _ (zaK fun r _ d _=>by unfold gDScalars;rw [zcI (by omega)])
 have b2:stBp p (g2VScalars p (gwVScalars q p row x t n f) 0 (gDScalars (gvM n))) (g2VScalars p (gwVScalars q p row x t n f) ((0:Nat):Int) (gGScalars (gwVScalars q p row x t n f) 0))=true:=g2eScalars p _ (Nat.le_of_lt hq) _ (zaK fun r hr d _=>by
  have hr:r<gvM n:=hr
  unfold gDScalars gGScalars;rw [zbI hr,zcI (by omega)])
 unfold gwCkScalars
 rw [b0,b2,e1,e2,hq',hp']
 have f1:fits (n+3) 32=true:=by simp [fits];omega
 have f2:fits (0+(n+3)) 32=true:=by rw [Nat.zero_add];exact f1
 have f3:inB (((n+3:Nat)):Int) ((n+3:Nat):Int)=true:=by simp [inB];omega
 have f4:inB (n:Int) ((n+3:Nat):Int)=true:=by simp [inB];omega
 have bigM:big (n+3)=true:=Nat.ble_eq_true_of_le (by omega)
 rw [f1,f2,f3,f4,bigM,show Nat.ble n (n+3)=true from Nat.ble_eq_true_of_le (by omega)];rfl
def wgScalars:WF:=fun args hp=>match args with
 | [.sc (.ptr q bs i c e),.sc (.vints _ .u8 32 n f)]=>(match hp[q]? with
  | some (some (.mix sz rs row))=>(match unones (row 0) with
   | some l=>(match (Nat.beq bs 30&&(Nat.beq i 0&&(Nat.beq c 0&&(Nat.beq e 30&&(Nat.beq sz 30&&Nat.beq rs 1)))))&&(Nat.beq l.length 30&&(isNils (bkC l 8)&&(isNils (bkC l (8+1))&&Nat.ble (hp.length+1) 8))) with
    | true=>some (Nat.ble n 1073741824,(.sc (.slice hp.length 32 0 0 32 n),tabH (bookAt q (fun _=>onesS (set2 8 (.slice (hp.length+2) 1 0 0 1 1) (.slice (hp.length+4) 1 0 0 1 1) (bkC l)) 30 0) (fun i=>(hp[i]?).getD none)) hp.length++gwBScalars hp.length (n+3) n f))
    | false=>none)
   | none=>none)
  | _=>none)
 | _=>none
theorem zjm:WRow prog F_rimeplain_Given_Scalars wgScalars:=by
 intro args hp r hp' h
 unfold wgScalars at h
 split at h
 case h_2=>simp at h
 rename_i q bs i c e t n f
 split at h
 case h_2=>simp at h
 rename_i sz rs row hb
 split at h
 case h_2=>simp at h
 rename_i l hl
 split at h
 case h_2=>simp at h
 rename_i hc
 simp only [Bool.and_eq_true,beq_t,ble_t] at hc
 obtain ⟨⟨rfl,rfl,rfl,rfl,rfl,rfl⟩,l30,n1,n2,h8⟩:=hc
 simp only [Option.some.injEq,Prod.mk.injEq,ble_t] at h
 obtain ⟨hn,rfl,rfl⟩:=h
 have hq:q<hp.length:=(List.getElem?_eq_some_iff.1 hb).1
 have hrow:row 0=onesS (bkC l) 30 0:=by
  rw [← l30]
  exact zc2 _ l hl 0 (bkC l) fun i _=>by rw [Nat.zero_add];rfl
 have hself:=zhS (zet n1) (zet n2)
 have hK:=gwKScalars hp.length q hq (by omega) (bkC l) (fun i=>(hp[i]?).getD none) n t f
 rw [hself] at hK
 obtain ⟨h1,_⟩:=zd0 GScalars at_rimeplain_Given_Scalars GLScalars zfG hK (gwCkTScalars hq (by omega) hn _ _ t f) rfl
 rw [Int.toNat_natCast,Nat.sub_zero,(zgk hn).2] at h1
 refine ⟨zla h1 (zkI hb hrow) (znU rfl rfl (zhQ (BSame.refl _) (zbX rfl) (zbX rfl) (zbX ?_) (zbX ?_))),zlf hb⟩
 ·show [Seg.one (.vints true _ _ _ (gwFScalars n f))]=[Seg.one (.vints true _ _ _ (gwFScalars n f))]
  simp only [Nat.zero_add]
 ·show [Seg.one (.vints true _ _ _ (gwFScalars n f))]=[Seg.one (.vints true _ _ _ (gwFScalars n f))]
  simp only [Nat.zero_add]
end Go.Proofs.YtplaklpfeabhiaaGreat
namespace Go.Proofs.YtplaklpfeabhiaaGreat
open Go.Proofs.Tryz
open Go Go.AM
def mkInts (i k:Int):Nat→Int:=fun _=>wr .i64 (wr .i64 (-1 - wr .i64 (100003*wr .i64 (i+1))) - wr .i64 (7*k))
def tMarkInts:TF:=fun args=>match args with
 | [.sc (.int .i64 i),.sc (.int .i64 k)]=>some (true,.sc (.int .i64 (mkInts i k 0)))
 | _=>none
theorem zlz:fnChk prog pE f_rimeplain_markInts=true:=by kernel_rfl
theorem zlR:TRow prog F_rimeplain_markInts tMarkInts:=by
 intro args r h
 unfold tMarkInts at h
 split at h
 case h_2=>simp at h
 rename_i i k
 simp only [Option.some.injEq,Prod.mk.injEq,true_and] at h
 subst h
 exact zab L0 at_rimeplain_markInts zlz (N:=5) (gs:=[]) (by kernel_rfl)
def tCopyInts:TF:=fun args=>match args with
 | [.sc (.vints _ .i64 1 n f)]=>some (fits (0+n) 8,.sc (.vints true .i64 1 n f))
 | _=>none
theorem zlJ:fnChk prog pE f_rimeplain_CopyInts=true:=by kernel_rfl
theorem zlW (t:Bool) (n:Nat) (f:Nat→Nat→Int):outP (apFunc pE [] 5 f_rimeplain_CopyInts [.sc (.vints t .i64 1 n f)] [])=some (ckL [fits (0+n) 8&&true],.sc (.vints true .i64 1 (0+n) f)):=by kernel_rfl
theorem zlU:TRow prog F_rimeplain_CopyInts tCopyInts:=by
 intro args r h
 unfold tCopyInts at h
 split at h
 case h_2=>simp at h
 rename_i t n f
 simp only [Option.some.injEq,Prod.mk.injEq] at h
 obtain ⟨hb,rfl⟩:=h
 refine zhA (zab L0 at_rimeplain_CopyInts zlJ (N:=5) (gs:=[]) ?_) (Nat.zero_add n) (fun r _ d _=>rfl)
 rw [zlW,hb];rfl
def gsInts:List (Nat × TF):=[(F_rimeplain_CopyInts,tCopyInts),(F_rimeplain_markInts,tMarkInts)]
theorem GInts:LibOK prog tt gsInts []:=(L0.addT zlR).addT zlU
noncomputable abbrev gEInts:EnvP:=envP tt gsInts []
noncomputable def gBInts0:Code:=match f_rimeplain_Given_Ints.body with | some c=>(match bodiesOf 0 c with | [.loop b]=>b | _=>.skip) | none=>.skip
noncomputable def gBInts2:Code:=match f_rimeplain_Given_Ints.body with | some c=>(match bodiesOf 2 c with | [.loop b]=>b | _=>.skip) | none=>.skip
def gTInts (p:Nat) (a:GV):List (Nat × AV):=[(0,.sc (.ptr a.q a.bs 0 0 a.bs)),(1,.sc (.vints a.t .i64 1 a.n a.f)),(5,.sc (.slice p 1 0 0 1 a.m))]
def gHInts (p:Nat) (a:GV) (D:Nat→Nat→Int):Heap:=tabH a.x p++[some (.ints .i64 1 a.m D)]
def g0VInts (p:Nat) (a:GV) (v:Int) (D:Nat→Nat→Int):St:=⟨tmOf ((6,.sc (.int .i64 v))::gTInts p a) 61 0,gHInts p a D⟩
def g2VInts (p:Nat) (a:GV) (v:Int) (D:Nat→Nat→Int):St:=⟨tmOf ((7,.sc (.int .i64 v))::gTInts p a) 61 0,gHInts p a D⟩
def gXInts (p:Nat) (a:GV) (D:Nat→Nat→Int):St:=⟨tmOf (gTInts p a) 61 0,gHInts p a D⟩
theorem g0rInts:∀ (p:Nat),p<8→∀ (a:GV) (v v':Int) (D D':Nat→Nat→Int),roundP gEInts [(15,true)] 5 p gBInts0 (g0VInts p a v D) .normal (g0VInts p a v' D')=some (ckL [decide (v<(a.m:Int))==true,inR v a.m]&&stBp p (g0VInts p a (wr .i64 (v+1)) (put1 D v.toNat (mkInts 987 v 0))) (g0VInts p a v' D'),(tabH a.x p,p+1))
 | 0,_=>by intros;kernel_rfl
 | 1,_=>by intros;kernel_rfl
 | 2,_=>by intros;kernel_rfl
 | 3,_=>by intros;kernel_rfl
 | 4,_=>by intros;kernel_rfl
 | 5,_=>by intros;kernel_rfl
 | 6,_=>by intros;kernel_rfl
 | 7,_=>by intros;kernel_rfl
 | p+8,h=>by omega
theorem g0sInts:∀ (p:Nat),p<8→∀ (a:GV) (v:Int) (D:Nat→Nat→Int),roundP gEInts [(15,false)] 5 p gBInts0 (g0VInts p a v D) (.exit 0) (gXInts p a D)=some (ckL [decide (v<(a.m:Int))==false]&&stBp p (gXInts p a D) (gXInts p a D),(tabH a.x p,p+1))
 | 0,_=>by intros;kernel_rfl
 | 1,_=>by intros;kernel_rfl
 | 2,_=>by intros;kernel_rfl
 | 3,_=>by intros;kernel_rfl
 | 4,_=>by intros;kernel_rfl
 | 5,_=>by intros;kernel_rfl
 | 6,_=>by intros;kernel_rfl
 | 7,_=>by intros;kernel_rfl
 | p+8,h=>by omega
theorem g2rInts:∀ (p:Nat),p<8→∀ (a:GV) (v v':Int) (D D':Nat→Nat→Int),roundP gEInts [(26,true)] 5 p gBInts2 (g2VInts p a v D) .normal (g2VInts p a v' D')=some (ckL [decide (v<(a.n:Int))==true,inR v a.n,inR v a.m]&&stBp p (g2VInts p a (wr .i64 (v+1)) (put1 D v.toNat (a.f v.toNat 0))) (g2VInts p a v' D'),(tabH a.x p,p+1))
 | 0,_=>by intros;kernel_rfl
 | 1,_=>by intros;kernel_rfl
 | 2,_=>by intros;kernel_rfl
 | 3,_=>by intros;kernel_rfl
 | 4,_=>by intros;kernel_rfl
 | 5,_=>by intros;kernel_rfl
 | 6,_=>by intros;kernel_rfl
 | 7,_=>by intros;kernel_rfl
 | p+8,h=>by omega
theorem g2sInts:∀ (p:Nat),p<8→∀ (a:GV) (v:Int) (D:Nat→Nat→Int),roundP gEInts [(26,false)] 5 p gBInts2 (g2VInts p a v D) (.exit 2) (gXInts p a D)=some (ckL [decide (v<(a.n:Int))==false]&&stBp p (gXInts p a D) (gXInts p a D),(tabH a.x p,p+1))
 | 0,_=>by intros;kernel_rfl
 | 1,_=>by intros;kernel_rfl
 | 2,_=>by intros;kernel_rfl
 | 3,_=>by intros;kernel_rfl
 | 4,_=>by intros;kernel_rfl
 | 5,_=>by intros;kernel_rfl
 | 6,_=>by intros;kernel_rfl
 | 7,_=>by intros;kernel_rfl
 | p+8,h=>by omega
theorem g0eInts (p:Nat) (a:GV) (hq:a.q≤p) (v:Int) {D D':Nat→Nat→Int} (h:eqF a.m 1 D D'=true):stBp p (g0VInts p a v D) (g0VInts p a v D')=true :=
 zdH (by simp [okT,okA,okV,gTInts,gHInts,tmOf,zah];omega) (by simp only [gHInts,List.drop_left' (zah _ _)];simp [hpB,blkB,zaj,zan,h])
theorem g2eInts (p:Nat) (a:GV) (hq:a.q≤p) (v:Int) {D D':Nat→Nat→Int} (h:eqF a.m 1 D D'=true):stBp p (g2VInts p a v D) (g2VInts p a v D')=true :=
 zdH (by simp [okT,okA,okV,gTInts,gHInts,tmOf,zah];omega) (by simp only [gHInts,List.drop_left' (zah _ _)];simp [hpB,blkB,zaj,zan,h])
theorem gXeInts (p:Nat) (a:GV) (hq:a.q≤p) (D:Nat→Nat→Int):stBp p (gXInts p a D) (gXInts p a D)=true :=
 zdH (by simp [okT,okA,okV,gTInts,gHInts,tmOf,zah];omega) (by simp only [gHInts,List.drop_left' (zah _ _)];simp [hpB,blkB,zaj,zan,zam])
def gMInts:Nat→Nat→Int:=fun r d=>mkInts 987 (r:Int) d
def gDInts (k:Nat):Nat→Nat→Int:=upto k gMInts (fun _ _=>0)
def gGInts (a:GV) (k:Nat):Nat→Nat→Int:=upto k a.f gMInts
def gRdInts (p:Nat) (s:St):Option GV:=match getA s.tm 0,getA s.tm 1,s.hp[p]? with
 | .sc (.ptr q bs _ _ _),.sc (.vints t _ _ n f),some (some (.ints _ _ m _))=>(match Nat.beq s.hp.length (p+1) with | true=>some ⟨q,bs,fun i=>(s.hp[i]?).getD none,t,n,f,m⟩ | false=>none)
 | _,_,_=>none
def g0FInts (p:Nat):LF:=AM.famP p (gRdInts p) (fun a k=>g0VInts p a (k:Int) (gDInts k)) (fun a=>big a.m&&(Nat.ble a.q p&&Nat.ble (p+1) 8)) (fun _=>.normal) (fun a=>gXInts p a (gDInts a.m))
def g2FInts (p:Nat):LF:=AM.famP p (gRdInts p) (fun a k=>g2VInts p a (k:Int) (gGInts a k)) (fun a=>big a.m&&(Nat.ble a.n a.m&&(Nat.ble a.q p&&Nat.ble (p+1) 8))) (fun _=>.normal) (fun a=>gXInts p a (gGInts a a.n))
theorem g0bInts:f_rimeplain_Given_Ints.body.map (bodiesOf 0)=some [.loop gBInts0]:=by kernel_rfl
theorem g2bInts:f_rimeplain_Given_Ints.body.map (bodiesOf 2)=some [.loop gBInts2]:=by kernel_rfl
theorem g0kInts:codeOK prog gEInts.env.isW gBInts0=true:=by kernel_rfl
theorem g2kInts:codeOK prog gEInts.env.isW gBInts2=true:=by kernel_rfl
theorem gRdOkInts {p:Nat} {s:St} {a:GV} (h:gRdInts p s=some a) (D D':Nat→Nat→Int):(gHInts p a D).length=s.hp.length∧s.hp.take p=(gHInts p a D).take p∧∀ (i:Nat),s.hp[i]?=some none→(gHInts p a D')[i]?=some none:=by
 unfold gRdInts at h
 split at h
 case h_2=>simp at h
 rename_i hb
 split at h
 case h_2=>simp at h
 rename_i hl
 simp only [Option.some.injEq] at h
 have hl:=beq_t.1 hl
 subst h
 refine ⟨by simp [gHInts,zah,hl],?_,fun i hi=>?_⟩
 ·rw [gHInts,List.take_left' (zah _ _)]
  exact zhE _ _ (by omega)
 ·have hip:i<p:=by
   have h1:=(List.getElem?_eq_some_iff.1 hi).1
   by_cases e:i=p
   ·subst e;rw [hb] at hi;simp at hi
   ·omega
  rw [gHInts,List.getElem?_append_left (by rw [zah];exact hip),zcp _ _ _ hip]
  show some ((s.hp[i]?).getD none)=some none
  rw [hi];rfl
theorem zp6 (p:Nat):LRow prog f_rimeplain_Given_Ints 0 (g0FInts p):=by
 refine LRow.famP (N:=5) (GInts.env []) mix (fun a=>a.m) (zb8 g0bInts) g0kInts (fun w0 own0=>zat (fun id=>rfl) gBInts0) (fun s a h=>gRdOkInts h _ _) ?_ ?_
 ·intro a ha k hk
  simp only [Bool.and_eq_true] at ha
  have hb:a.m≤4611686018427387904:=Nat.le_of_ble_eq_true ha.1
  have hq:=Nat.le_of_ble_eq_true ha.2.1
  have hp:p<8:=Nat.le_of_ble_eq_true ha.2.2
  have ew:wr .i64 ((k:Int)+1)=((k+1:Nat):Int):=by rw [za8 (by omega) (by omega)];rfl
  refine za4 (g0rInts p hp a (k:Int) ((k+1:Nat):Int) (gDInts k) (gDInts (k+1))) ?_ (by show _=(gHInts p a _).take p;rw [gHInts,List.take_left' (zah _ _)]) (by show _=(gHInts p a _).length;simp [gHInts,zah])
  have hu:eqF a.m 1 (put1 (gDInts k) ((k:Nat):Int).toNat (mkInts 987 (k:Int) 0)) (gDInts (k+1))=true:=zit rfl
  rw [ew,g0eInts p a hq _ hu,zbi hk]
  simp [ckL];omega
 ·intro a ha
  simp only [Bool.and_eq_true] at ha
  have hq:=Nat.le_of_ble_eq_true ha.2.1
  have hp:p<8:=Nat.le_of_ble_eq_true ha.2.2
  obtain ⟨s1,h1,h2⟩:=za4 (g0sInts p hp a (a.m:Int) (gDInts a.m)) (by rw [gXeInts p a hq];simp [ckL]) (by show _=(gHInts p a _).take p;rw [gHInts,List.take_left' (zah _ _)]) (by show _=(gHInts p a _).length;simp [gHInts,zah])
  exact ⟨_,s1,h1,rfl,h2⟩
theorem zpx (p:Nat):LRow prog f_rimeplain_Given_Ints 2 (g2FInts p):=by
 refine LRow.famP (N:=5) (GInts.env []) mix (fun a=>a.n) (zb8 g2bInts) g2kInts (fun w0 own0=>zat (fun id=>rfl) gBInts2) (fun s a h=>gRdOkInts h _ _) ?_ ?_
 ·intro a ha k hk
  simp only [Bool.and_eq_true] at ha
  have hb:a.m≤4611686018427387904:=Nat.le_of_ble_eq_true ha.1
  have hnm:=Nat.le_of_ble_eq_true ha.2.1
  have hq:=Nat.le_of_ble_eq_true ha.2.2.1
  have hp:p<8:=Nat.le_of_ble_eq_true ha.2.2.2
  have ew:wr .i64 ((k:Int)+1)=((k+1:Nat):Int):=by rw [za8 (by omega) (by omega)];rfl
  refine za4 (g2rInts p hp a (k:Int) ((k+1:Nat):Int) (gGInts a k) (gGInts a (k+1))) ?_ (by show _=(gHInts p a _).take p;rw [gHInts,List.take_left' (zah _ _)]) (by show _=(gHInts p a _).length;simp [gHInts,zah])
  have hu:eqF a.m 1 (put1 (gGInts a k) ((k:Nat):Int).toNat (a.f ((k:Nat):Int).toNat 0)) (gGInts a (k+1))=true:=zit (by rw [Int.toNat_natCast])
  rw [ew,g2eInts p a hq _ hu,zbi hk,zbi (show k<a.m by omega)]
  simp [ckL];omega
 ·intro a ha
  simp only [Bool.and_eq_true] at ha
  have hq:=Nat.le_of_ble_eq_true ha.2.2.1
  have hp:p<8:=Nat.le_of_ble_eq_true ha.2.2.2
  obtain ⟨s1,h1,h2⟩:=za4 (g2sInts p hp a (a.n:Int) (gGInts a a.n)) (by rw [gXeInts p a hq];simp [ckL]) (by show _=(gHInts p a _).take p;rw [gHInts,List.take_left' (zah _ _)]) (by show _=(gHInts p a _).length;simp [gHInts,zah])
  exact ⟨_,s1,h1,rfl,h2⟩
noncomputable def gLInts:List (Nat × LF):=[(2,fun s=>g2FInts (hp1 s) s),(0,fun s=>g0FInts (hp1 s) s)]
theorem GLInts:LsOK prog f_rimeplain_Given_Ints gLInts:=(LsOK.nil.cons (LRow.dep hp1 zp6)).cons (LRow.dep hp1 zpx)
theorem zjH:fnChk prog (envL tt gsInts [] gLInts) f_rimeplain_Given_Ints=true:=by kernel_rfl
def gwFInts (n:Nat) (f:Nat→Nat→Int):Nat→Nat→Int:=upto n f gMInts
def gwNInts (p m n:Nat) (f:Nat→Nat→Int):Heap:=[some (.ints .i64 1 m (gwFInts n f)),some (.mix 1 1 (fun r=>[[.one (.slice p 1 0 0 1 m)]].getD r [])),some (.mix 1 1 (fun r=>cutS ([[.one (.slice p 1 0 0 1 m)]].getD r []) 0 1)),
 some (.mix 1 1 (fun r=>[[.one (.vints true .i64 1 m (gwFInts n f))]].getD r [])),some (.mix 1 1 (fun r=>cutS ([[.one (.vints true .i64 1 m (gwFInts n f))]].getD r []) 0 1))]
def gwBInts (p m n:Nat) (f:Nat→Nat→Int):Heap:=[some (.ints .i64 1 m (gwFInts n f)),some (.mix 1 1 (fun _=>[.one (.slice p 1 0 0 1 m)])),some (.mix 1 1 (fun _=>[.one (.slice p 1 0 0 1 m)])),
 some (.mix 1 1 (fun _=>[.one (.vints true .i64 1 m (gwFInts n f))])),some (.mix 1 1 (fun _=>[.one (.vints true .i64 1 m (gwFInts n f))]))]
def gwVInts (q p:Nat) (row:Nat→List Seg) (x:Nat→Option Blk) (t:Bool) (n:Nat) (f:Nat→Nat→Int):GV:=⟨q,30,bookAt q row x,t,n,f,gvM n⟩
def gwCkInts (q p:Nat) (row:Nat→List Seg) (x:Nat→Option Blk) (t:Bool) (n:Nat) (f:Nat→Nat→Int):Bool:=ckL [inB (wr .i64 ((n:Int)+3)) (wr .i64 ((n:Int)+3))&&fits (gvM n) 8,
 (big (gvM n)&&(Nat.ble q p&&Nat.ble (p+1) 8))&&stBp p (g0VInts p (gwVInts q p row x t n f) 0 (fun _ _=>0)) (g0VInts p (gwVInts q p row x t n f) ((0:Nat):Int) (gDInts 0)),
 (big (gvM n)&&(Nat.ble n (gvM n)&&(Nat.ble q p&&Nat.ble (p+1) 8)))&&stBp p (g2VInts p (gwVInts q p row x t n f) 0 (gDInts (gvM n))) (g2VInts p (gwVInts q p row x t n f) ((0:Nat):Int) (gGInts (gwVInts q p row x t n f) 0)),
 fits (0+1) 24&&true,fits (0+gvM n) 8,fits (0+1) 24&&true,inB (n:Int) (gvM n)]
set_option maxRecDepth 100000 in
theorem gwKInts:∀ (p q:Nat),q<p→p<8→∀ (c:Nat→SV) (x:Nat→Option Blk) (n:Nat) (t:Bool) (f:Nat→Nat→Int),
  apFunc (envL tt gsInts [] gLInts) [] 5 f_rimeplain_Given_Ints [.sc (.ptr q 30 0 0 30),.sc (.vints t .i64 1 n f)] (tabH (bookAt q (fun _=>onesS (set2 2 .nils .nils c) 30 0) x) p) =
  some (gwCkInts q p (fun _=>onesS (set2 2 .nils .nils c) 30 0) x t n f,(.sc (.slice p 1 0 0 1 ((n:Int).toNat - 0)),
   tabH (bookAt q (bookUp (set2 2 .nils .nils c) (set2 2 (.slice (p+2) 1 0 0 1 1) .nils c) (set2 2 (.slice (p+2) 1 0 0 1 1) (.slice (p+4) 1 0 0 1 1) c)) x) p++gwNInts p (gvM n) n f))
 | 0,q,h,_=>by omega
 | 1,0,_,_=>by intros;kernel_rfl
 | 2,0,_,_=>by intros;kernel_rfl
 | 2,1,_,_=>by intros;kernel_rfl
 | 3,0,_,_=>by intros;kernel_rfl
 | 3,1,_,_=>by intros;kernel_rfl
 | 3,2,_,_=>by intros;kernel_rfl
 | 4,0,_,_=>by intros;kernel_rfl
 | 4,1,_,_=>by intros;kernel_rfl
 | 4,2,_,_=>by intros;kernel_rfl
 | 4,3,_,_=>by intros;kernel_rfl
 | 5,0,_,_=>by intros;kernel_rfl
 | 5,1,_,_=>by intros;kernel_rfl
 | 5,2,_,_=>by intros;kernel_rfl
 | 5,3,_,_=>by intros;kernel_rfl
 | 5,4,_,_=>by intros;kernel_rfl
 | 6,0,_,_=>by intros;kernel_rfl
 | 6,1,_,_=>by intros;kernel_rfl
 | 6,2,_,_=>by intros;kernel_rfl
 | 6,3,_,_=>by intros;kernel_rfl
 | 6,4,_,_=>by intros;kernel_rfl
 | 6,5,_,_=>by intros;kernel_rfl
 | 7,0,_,_=>by intros;kernel_rfl
 | 7,1,_,_=>by intros;kernel_rfl
 | 7,2,_,_=>by intros;kernel_rfl
 | 7,3,_,_=>by intros;kernel_rfl
 | 7,4,_,_=>by intros;kernel_rfl
 | 7,5,_,_=>by intros;kernel_rfl
 | 7,6,_,_=>by intros;kernel_rfl
 | 1,q+1,h,_=>by omega
 | 2,q+2,h,_=>by omega
 | 3,q+3,h,_=>by omega
 | 4,q+4,h,_=>by omega
 | 5,q+5,h,_=>by omega
 | 6,q+6,h,_=>by omega
 | 7,q+7,h,_=>by omega
 | p+8,_,_,h=>by omega
theorem gwCkTInts {q p n:Nat} (hq:q<p) (hp:p<8) (hn:n≤1073741824) (row:Nat→List Seg) (x:Nat→Option Blk) (t:Bool) (f:Nat→Nat→Int):gwCkInts q p row x t n f=true:=by
 obtain ⟨e1,e2⟩:=zgk hn
 have hq':Nat.ble q p=true:=Nat.ble_eq_true_of_le (by omega)
 have hp':Nat.ble (p+1) 8=true:=Nat.ble_eq_true_of_le (by omega)
 have b0:stBp p (g0VInts p (gwVInts q p row x t n f) 0 (fun _ _=>0)) (g0VInts p (gwVInts q p row x t n f) ((0:Nat):Int) (gDInts 0))=true:=g0eInts p _ (Nat.le_of_lt hq) _ (zaK fun r _ d _=>by unfold gDInts;rw [zcI (by omega)])
 have b2:stBp p (g2VInts p (gwVInts q p row x t n f) 0 (gDInts (gvM n))) (g2VInts p (gwVInts q p row x t n f) ((0:Nat):Int) (gGInts (gwVInts q p row x t n f) 0))=true:=g2eInts p _ (Nat.le_of_lt hq) _ (zaK fun r hr d _=>by
  have hr:r<gvM n:=hr
  unfold gDInts gGInts;rw [zbI hr,zcI (by omega)])
 unfold gwCkInts
 rw [b0,b2,e1,e2,hq',hp']
 have f1:fits (n+3) 8=true:=by simp [fits];omega
 have f2:fits (0+(n+3)) 8=true:=by rw [Nat.zero_add];exact f1
 have f3:inB (((n+3:Nat)):Int) ((n+3:Nat):Int)=true:=by simp [inB];omega
 have f4:inB (n:Int) ((n+3:Nat):Int)=true:=by simp [inB];omega
 have bigM:big (n+3)=true:=Nat.ble_eq_true_of_le (by omega)
 rw [f1,f2,f3,f4,bigM,show Nat.ble n (n+3)=true from Nat.ble_eq_true_of_le (by omega)];rfl
def wgInts:WF:=fun args hp=>match args with
 | [.sc (.ptr q bs i c e),.sc (.vints _ .i64 1 n f)]=>(match hp[q]? with
  | some (some (.mix sz rs row))=>(match unones (row 0) with
   | some l=>(match (Nat.beq bs 30&&(Nat.beq i 0&&(Nat.beq c 0&&(Nat.beq e 30&&(Nat.beq sz 30&&Nat.beq rs 1)))))&&(Nat.beq l.length 30&&(isNils (bkC l 2)&&(isNils (bkC l (2+1))&&Nat.ble (hp.length+1) 8))) with
    | true=>some (Nat.ble n 1073741824,(.sc (.slice hp.length 1 0 0 1 n),tabH (bookAt q (fun _=>onesS (set2 2 (.slice (hp.length+2) 1 0 0 1 1) (.slice (hp.length+4) 1 0 0 1 1) (bkC l)) 30 0) (fun i=>(hp[i]?).getD none)) hp.length++gwBInts hp.length (n+3) n f))
    | false=>none)
   | none=>none)
  | _=>none)
 | _=>none
theorem zrT:WRow prog F_rimeplain_Given_Ints wgInts:=by
 intro args hp r hp' h
 unfold wgInts at h
 split at h
 case h_2=>simp at h
 rename_i q bs i c e t n f
 split at h
 case h_2=>simp at h
 rename_i sz rs row hb
 split at h
 case h_2=>simp at h
 rename_i l hl
 split at h
 case h_2=>simp at h
 rename_i hc
 simp only [Bool.and_eq_true,beq_t,ble_t] at hc
 obtain ⟨⟨rfl,rfl,rfl,rfl,rfl,rfl⟩,l30,n1,n2,h8⟩:=hc
 simp only [Option.some.injEq,Prod.mk.injEq,ble_t] at h
 obtain ⟨hn,rfl,rfl⟩:=h
 have hq:q<hp.length:=(List.getElem?_eq_some_iff.1 hb).1
 have hrow:row 0=onesS (bkC l) 30 0:=by
  rw [← l30]
  exact zc2 _ l hl 0 (bkC l) fun i _=>by rw [Nat.zero_add];rfl
 have hself:=zhS (zet n1) (zet n2)
 have hK:=gwKInts hp.length q hq (by omega) (bkC l) (fun i=>(hp[i]?).getD none) n t f
 rw [hself] at hK
 obtain ⟨h1,_⟩:=zd0 GInts at_rimeplain_Given_Ints GLInts zjH hK (gwCkTInts hq (by omega) hn _ _ t f) rfl
 rw [Int.toNat_natCast,Nat.sub_zero,(zgk hn).2] at h1
 refine ⟨zla h1 (zkI hb hrow) (znU rfl rfl (zhQ (BSame.refl _) (zbX rfl) (zbX rfl) (zbX ?_) (zbX ?_))),zlf hb⟩
 ·show [Seg.one (.vints true _ _ _ (gwFInts n f))]=[Seg.one (.vints true _ _ _ (gwFInts n f))]
  simp only [Nat.zero_add]
 ·show [Seg.one (.vints true _ _ _ (gwFInts n f))]=[Seg.one (.vints true _ _ _ (gwFInts n f))]
  simp only [Nat.zero_add]
end Go.Proofs.YtplaklpfeabhiaaGreat
namespace Go.Proofs.YtplaklpfeabhiaaGreat
open Go.Proofs.Tryz
open Go Go.AM
noncomputable def vd0:List (Nat × TF):=(F_rimeplain_SameScalars,tSameScalars)::(F_rimeplain_SameInts,tSameInts)::[]
theorem VD0L:LibOK prog tt vd0 []:=(L0.addT zlq).addT zgQ
theorem zuT:fnChk prog (envP tt vd0 []) f_rimeplain_Given_Intact=true:=by kernel_rfl
noncomputable def vd1:List (Nat × TF):=(F_rimelaw08_works,k0T (.sc (.bool true)))::(F_rimeplain_Given_Intact,sT (envP tt vd0 []) [(67,false),(142,false)] 5 f_rimeplain_Given_Intact)::vt7
noncomputable def vd2:List (Nat × AM.WF):=[(F_rimeplain_Given_Scalars,wgScalars),(F_rimeplain_Given_Ints,wgInts)]
theorem VDL:LibOK prog tt vd1 vd2:=(((VT7.addT (zo6 VD0L at_rimeplain_Given_Intact [(67,false),(142,false)] 5 zuT)).addT zq0).addW zrT).addW zjm
end Go.Proofs.YtplaklpfeabhiaaGreat
namespace Go.Proofs.YtplaklpfeabhiaaGreat
open Go.Proofs.Tryz
open Go Go.AM
theorem ld_p1 (n m:Nat) (f g:Nat→Nat→Int) (h:ckL [Nat.ble n 1073741824,rowsB (gwFScalars n f) n,rowsB f n,Nat.ble m 1073741824,Nat.ble m 1073741824&&(Nat.ble n 1073741824&&rowsB (gwFScalars n f) n),Nat.ble m 1073741824&&(Nat.ble n 1073741824&&rowsB f n),big (bif comE (gwFScalars n f) n==0 then n else 0),(Nat.beq (bif comE (gwFScalars n f) n==0 then n else 0) (bif comE f n==0 then n else 0)&&eqF (bif comE (gwFScalars n f) n==0 then n else 0) 32 (comR (gwFScalars n f)) (comR f))==true,(comE (gwFScalars n f) n==comE f n)==true,Nat.ble (bif dlE (gwFScalars n f) (gwFInts m g) n m==0 then n else 0) 1073741824&&Nat.ble (bif dlE (gwFScalars n f) (gwFInts m g) n m==0 then m else 0) 1073741824&&((rowsAll [Sh.ints IntKind.i64 1,Sh.ints IntKind.u8 32] (bif dlE (gwFScalars n f) (gwFInts m g) n m==0 then m else 0) fun j=>[Seg.ints IntKind.i64 1 (spA (gwFInts m g) j),Seg.ints IntKind.u8 32 (spV (gwFScalars n f) (gwFInts m g) n j)])&&rowsAll [Sh.ints IntKind.i64 1,Sh.ints IntKind.u8 32] (bif dlE f g n m==0 then m else 0) fun j=>[Seg.ints IntKind.i64 1 (spA g j),Seg.ints IntKind.u8 32 (spV f g n j)]),(bif Nat.beq (bif dlE (gwFScalars n f) (gwFInts m g) n m==0 then n else 0) (bif dlE f g n m==0 then n else 0)&&eqF (bif dlE (gwFScalars n f) (gwFInts m g) n m==0 then n else 0) 32 (comR (gwFScalars n f)) (comR f) then Nat.beq (bif dlE (gwFScalars n f) (gwFInts m g) n m==0 then m else 0) (bif dlE f g n m==0 then m else 0)&&Nat.beq (ffb (smN (shF (fun j=>[Seg.ints IntKind.i64 1 (spA (gwFInts m g) j),Seg.ints IntKind.u8 32 (spV (gwFScalars n f) (gwFInts m g) n j)]) 0) (shF (fun j=>[Seg.ints IntKind.i64 1 (spA (gwFInts m g) j),Seg.ints IntKind.u8 32 (spV (gwFScalars n f) (gwFInts m g) n j)]) 1) (shF (fun j=>[Seg.ints IntKind.i64 1 (spA g j),Seg.ints IntKind.u8 32 (spV f g n j)]) 0) (shF (fun j=>[Seg.ints IntKind.i64 1 (spA g j),Seg.ints IntKind.u8 32 (spV f g n j)]) 1)) (bif dlE (gwFScalars n f) (gwFInts m g) n m==0 then m else 0) 0) (bif dlE (gwFScalars n f) (gwFInts m g) n m==0 then m else 0) else false)==true,(dlE (gwFScalars n f) (gwFInts m g) n m==dlE f g n m)==true,(!(Nat.beq (n+3) (n+3)&&eqF (n+3) 32 (gwFScalars n f) (gwFScalars n f)))==false&&(big (n+3)&&((!(Nat.beq (m+3) (m+3)&&eqF (m+3) 1 (gwFInts m g) (gwFInts m g)))==false&&(big (m+3)&&true)))]=true):Pure prog F_rimelaw08_VssDeals [AV.sc (SV.vints true IntKind.u8 32 n f),AV.sc (SV.vints true IntKind.i64 1 m g)] (AV.sc (SV.bool true)) :=
 zad VDL at_rimelaw08_VssDeals LsOK.nil (by kernel_rfl) (N:=5) (gs:=[(43,true),(49,true),(54,true),(60,true)]) (Eq.trans (by kernel_rfl) (o1 h))
theorem zrs {f f':Nat→Nat→Int} {n:Nat} (h:∀ j,j<n→hF f j=hF f' j):comE f n=comE f' n:=by
 unfold comE
 rw [zfq (p:=nzB f) (q:=nzB f') fun j _ hj=>by unfold nzB;rw [h j (by omega)]]
theorem ztB {g g':Nat→Nat→Int} {j:Nat} {z:Int} (h:∀ k,k<j→g k 0=g' k 0):exK g j z=exK g' j z:=by
 unfold exK
 induction j with
 | zero=>rfl
 | succ j ih=>rw [List.range_succ,List.any_append,List.any_append,ih fun k hk=>h k (by omega)];simp [h j (by omega)]
theorem zqE {g g':Nat→Nat→Int} {m:Nat} (h:∀ j,j<m→g j 0=g' j 0):idsE g m=idsE g' m:=by
 have e:ffb (idB g) m 0=ffb (idB g') m 0:=zfq fun j _ hj=>by
  unfold idB
  rw [h j (by omega),ztB fun k hk=>h k (by omega)]
 unfold idsE
 rw [e]
 cases hb:Nat.beq (ffb (idB g') m 0) m with
 | true=>rfl
 | false =>
  have:=zso (idB g') m 0
  have h2:ffb (idB g') m 0≠m:=fun h=>by rw [h,zan] at hb;cases hb
  rw [h _ (show ffb (idB g') m 0<m by omega)]
theorem zsw {c c':Nat→Int} {x:Int} {n:Nat} (h:∀ j,j<n→c j=c' j):∀ m j,j+m≤n→hs c x m j=hs c' x m j
 | 0,_,_=>rfl
 | m+1,j,hj=>by
  unfold hs
  rw [zsw h m (j+1) (by omega),h j (by omega)]
theorem zuK {A B C D:Nat→Nat→Int} {k:Nat} (h1:RowE k 1 A C) (h2:RowE k 32 B D):Nat.beq (ffb (smN A B C D) k 0) k=true:=by
 rw [zc7 fun j _ hj=>by
  unfold smN
  rw [zct fun d hd=>h1 j (by omega) d hd,zct fun d hd=>h2 j (by omega) d hd];rfl,Nat.zero_add]
 exact zan k
theorem zfR {b:Bool} {n:Nat}:(bif b then n else 0)≤n:=by cases b <;> simp
theorem zx3 {f g:Nat→Int} (h:∀ d,d<32→f d=g d):hval f 32 0=hval g 32 0:=za6 fun i hi=>by rw [Nat.zero_add];exact h i hi
theorem zyf {f g:Nat→Int} (h:∀ d,d<32→f d=g d) (hg:areB g 32 0=true):areB f 32 0=true:=zdY fun i hi=>by
 rw [Nat.zero_add,h i hi]
 have:=zch hg i hi
 rwa [Nat.zero_add] at this
theorem up_hF {n:Nat} {f:Nat→Nat→Int} (j:Nat) (hj:j<n):hF (gwFScalars n f) j=hF f j:=zx3 fun d _=>by exact zbI hj d
theorem zuD {n:Nat} {f:Nat→Nat→Int} (hf:rowsB f n=true):rowsB (gwFScalars n f) n=true:=rowsB_t.2 fun j hj=>zyf (fun d _=>by exact zbI hj d) (rowsB_t.1 hf j hj)
theorem zjO {m:Nat} {g:Nat→Nat→Int} (j:Nat) (hj:j<m):gwFInts m g j 0=g j 0:=zbI hj 0
theorem c_ld:fnChk prog (envP tt vd1 vd2) f_rimelaw08_VssDeals=true:=by kernel_rfl
theorem deals_pure {n m:Nat} {f g:Nat→Nat→Int} (hf:rowsB f n=true) (hn:n≤1048576) (hm:m≤1048576) :
  Pure prog F_rimelaw08_VssDeals [.sc (.vints true .u8 32 n f),.sc (.vints true .i64 1 m g)] (.sc (.bool true)):=by
 refine ld_p1 n m f g ?_
 have e1:comE (gwFScalars n f) n=comE f n:=zrs up_hF
 have e2:idsE (gwFInts m g) m=idsE g m:=zqE zjO
 have e3:dlE (gwFScalars n f) (gwFInts m g) n m=dlE f g n m:=by unfold dlE;rw [e1,e2]
 have b1:Nat.ble n 1073741824=true:=Nat.ble_eq_true_of_le (by omega)
 have b2:Nat.ble m 1073741824=true:=Nat.ble_eq_true_of_le (by omega)
 have b3:∀ b:Bool,Nat.ble (bif b then n else 0) 1073741824=true:=fun b=>Nat.ble_eq_true_of_le (by have:=@zfR b n;omega)
 have b4:∀ b:Bool,Nat.ble (bif b then m else 0) 1073741824=true:=fun b=>Nat.ble_eq_true_of_le (by have:=@zfR b m;omega)
 have b5:∀ b:Bool,big (bif b then n else 0)=true:=fun b=>Nat.ble_eq_true_of_le (by have:=@zfR b n;omega)
 have b6:big (n+3)=true:=Nat.ble_eq_true_of_le (by omega)
 have b7:big (m+3)=true:=Nat.ble_eq_true_of_le (by omega)
 have c1:∀ b:Bool,eqF (bif b then n else 0) 32 (comR (gwFScalars n f)) (comR f)=true:=fun b=>zaK fun r hr d _=>by
  have hr:r<n:=Nat.lt_of_lt_of_le hr zfR
  unfold comR
  rw [up_hF r hr]
 have q:=zs9 (spA (gwFInts m g)) (spV (gwFScalars n f) (gwFInts m g) n) (spA g) (spV f g n)
 have r1:∀ (k:Nat) (A B:Nat→Nat→Int),rowsAll [Sh.ints IntKind.i64 1,Sh.ints IntKind.u8 32] k (fun j=>[Seg.ints IntKind.i64 1 (A j),Seg.ints IntKind.u8 32 (B j)])=true:=fun k A B=>zeR 32 k A B
 have s1:∀ b:Bool,Nat.beq (ffb (smN (spA (gwFInts m g)) (spV (gwFScalars n f) (gwFInts m g) n) (spA g) (spV f g n)) (bif b then m else 0) 0) (bif b then m else 0)=true:=fun b =>
  zuK (fun r hr d _=>by have hr:r<m:=Nat.lt_of_lt_of_le hr zfR;exact zjO r hr) fun r hr d _=>by
   have hr:r<m:=Nat.lt_of_lt_of_le hr zfR
   unfold spV
   rw [zjO r hr,zsw up_hF n 0 (by omega)]
 unfold nbR at q
 rw [q,e1,e3,s1,c1,c1,r1,r1,b1,b2,b3,b4,b5,b6,b7,hf,zuD hf]
 simp only [zan,zam,beq_self_eq_true,Bool.and_self,cond_true,Bool.not_true,ckL,List.foldl]
end Go.Proofs.YtplaklpfeabhiaaGreat
