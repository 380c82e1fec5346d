/-
  Texts of the claim: DGio2 DPow DPow2 DPtG DPtG2 DPtG3 DTimG DFormG DPtO2 DEdwG DEdwG3 DMth DPlain DRef2 DMod DDig DSuite DEl DMulti VEv DAr2 DAr3 DGrp DDec DEl2 DGiv DComb DCrv DCrv2 DSha DShR DShR9 DFro.
-/
import Derived.Test.YtplaklpfeabhiaaGreatAd
import Derived.Test.YtplaklpfeabhiaaGreatAf
import Derived.Test.YtplaklpfeabhiaaGreatBa
import Derived.Test.YtplaklpfeabhiaaGreatBc
namespace Go.Proofs.YtplaklpfeabhiaaGreat
open Go.Proofs.Tryz
open Go Go.AM
def eAt (k:Nat):Nat:=match k with
 | 0=>0
 | 1=>26
 | 2=>51
 | 3=>77
 | 4=>102
 | 5=>128
 | 6=>153
 | 7=>179
 | 8=>204
 | 9=>230
 | _=>255
def zcP (D:Nat→Int) (k:Nat):St:=byS D k (eAt k:Nat) (outK D (eAt k))
theorem zbB {D:Nat→Int} {i i' n n':Int} {f g:Nat→Int} (hi:i=i') (hn:n=n') (h:∀ d,d<32→f d=g d):stR (rnm 4 []) (byS D i n f) (byS D i' n' g)=true:=by
 subst hi hn
 have e:eqF 1 32 (fun _ d=>f d) (fun _ d=>g d)=true:=zaK fun r _ d hd=>h d hd
 simp [stR,byS,tmOf,tmR,avR,svR,rIs,rnm,zaj,zam,hpR,blkR,ndR,e]
 decide
theorem zsd {f g:Nat→Int} (h:∀ d,d<32→f d=g d):stR (rnm 4 []) (byT f) (byT g)=true:=by
 have e:eqF 1 32 (fun _ d=>f d) (fun _ d=>g d)=true:=zaK fun r _ d hd=>h d hd
 simp [stR,byT,tmOf,tmR,avR,svR,rIs,rnm,zaj,zam,hpR,blkR,ndR,e]
 decide
def byF (D:Nat→Int):LF:=famA 4 [] (zcP D 0) true .normal (byT (outK D 255))
theorem ztN:f_rimeref04_Bytes.body.map (bodiesOf 2)=some [.loop byB]:=by kernel_rfl
theorem by_ok:codeOK prog byE.env.isW byB=true:=by kernel_rfl
theorem l_by (D:Nat→Int):LRow prog f_rimeref04_Bytes 2 (byF D):=by
 refine LRow.famA (N:=30) (S:=zcP D) (GX3.env []) mix 10 (za2 ztN) by_ok (fun w0 own0=>zat (fun id=>rfl) byB) (fun _ _=>Nat.le_refl _) (Nat.le_refl _) fun _=>?_
 refine ⟨fun k hk=>?_,?_⟩
 ·match k,hk with
  | 0,_=>exact zal (by_r0 D (outK D 26)) (and_t.2 ⟨rfl,zbB rfl rfl fun _ _=>rfl⟩)
  | 1,_=>exact zal (by_r1 D (outK D 51)) (and_t.2 ⟨rfl,zbB rfl rfl fun _ _=>rfl⟩)
  | 2,_=>exact zal (by_r2 D (outK D 77)) (and_t.2 ⟨rfl,zbB rfl rfl fun _ _=>rfl⟩)
  | 3,_=>exact zal (by_r3 D (outK D 102)) (and_t.2 ⟨rfl,zbB rfl rfl fun _ _=>rfl⟩)
  | 4,_=>exact zal (by_r4 D (outK D 128)) (and_t.2 ⟨rfl,zbB rfl rfl fun _ _=>rfl⟩)
  | 5,_=>exact zal (by_r5 D (outK D 153)) (and_t.2 ⟨rfl,zbB rfl rfl fun _ _=>rfl⟩)
  | 6,_=>exact zal (by_r6 D (outK D 179)) (and_t.2 ⟨rfl,zbB rfl rfl fun _ _=>rfl⟩)
  | 7,_=>exact zal (by_r7 D (outK D 204)) (and_t.2 ⟨rfl,zbB rfl rfl fun _ _=>rfl⟩)
  | 8,_=>exact zal (by_r8 D (outK D 230)) (and_t.2 ⟨rfl,zbB rfl rfl fun _ _=>rfl⟩)
  | 9,_=>exact zal (by_r9 D (outK D 255)) (and_t.2 ⟨rfl,zbB rfl rfl fun _ _=>rfl⟩)
 ·obtain ⟨s1,r,q1,q2,q3⟩:=zal (n:=4) (by_x D (outK D 255)) (and_t.2 ⟨rfl,zsd fun _ _=>rfl⟩)
  exact ⟨_,s1,r,q1,rfl,q2,q3⟩
noncomputable abbrev byL1 (D:Nat→Int):EnvP:=envL tt gx3 [] [(2,byF D)]
theorem c_by1 (D:Nat→Int):fnChk prog (byL1 D) f_rimeref04_Bytes=true:=by kernel_rfl
def byIn (D f:Nat→Int):St:=byS D 0 0 f
theorem zmO (a:Nat→Int):outP (apFunc (byL1 (xG (lf (c3G (l10 a)))).y) [(51,true)] 30 f_rimeref04_Bytes [u10 a] []) =
  some (ckL (byCk (l10 a) true++[true&&stR (rnm 4 []) (byIn (xG (lf (c3G (l10 a)))).y (fun _=>0)) (zcP (xG (lf (c3G (l10 a)))).y 0)]),u8s 32 (lf (tabL (outK (xG (lf (c3G (l10 a)))).y 255) 32 0))):=by kernel_rfl
theorem zmD (a:Nat→Int):outP (apFunc (byL1 (lf (c3G (l10 a)))) [(51,false)] 30 f_rimeref04_Bytes [u10 a] []) =
  some (ckL (byCk (l10 a) false++[true&&stR (rnm 4 []) (byIn (lf (c3G (l10 a))) (fun _=>0)) (zcP (lf (c3G (l10 a))) 0)]),u8s 32 (lf (tabL (outK (lf (c3G (l10 a))) 255) 32 0))):=by kernel_rfl
theorem zv3 {l:List Int} (h:gd10 l=true):Cn (lf (c3G l))∧gvF (lf (c3G l)) % pP=gm l∧gw10 (lf l)=true∧gw10 (lf (carD (lf l)))=true∧gw10 (lf (carD (lf (carD (lf l)))))=true:=by
 have w1:=gd_gw h
 have g1:=zcA w1
 have w2:=gd_gw g1
 have g2:=zcA w2
 have w3:=gd_gw g2
 refine ⟨zlm (Cn.one (zlm (zrX h))),?_,zdz.2 w1,zdz.2 w2,zdz.2 w3⟩
 obtain ⟨q1,e1⟩:=zbZ (lf l)
 obtain ⟨q2,e2⟩:=zbZ (lf (carD (lf l)))
 obtain ⟨q3,e3⟩:=zbZ (lf (carD (lf (carD (lf l)))))
 have f1:gv (carD (lf l))=gv l+q1*pP:=e1
 have f2:gv (carD (lf (carD (lf l))))=gv (carD (lf l))+q2*pP:=e2
 have f3:gvF (lf (c3G l))=gv (carD (lf (carD (lf l))))+q3*pP:=e3
 unfold gm
 rw [f3,Int.add_mul_emod_self_right,f2,Int.add_mul_emod_self_right,f1,Int.add_mul_emod_self_right]
theorem zj6 (D:Nat→Int):tabL (outK D 255) 32 0=outG D:=rfl
theorem zkg (l:List Int):0≤gm l∧gm l<pP:=⟨Int.emod_nonneg _ (by decide),Int.emod_lt_of_pos _ zd9⟩
def tBytesG:TF:=fun args=>match args with
 | [.agg [.ints .i64 10 a]]=>some (gd10 (l10 a),b32 (gm (l10 a)))
 | _=>none
theorem zpz:TRow prog F_rimeref04_Bytes tBytesG:=by
 intro args r h
 unfold tBytesG at h
 split at h
 case h_2=>simp at h
 rename_i a
 simp only [Option.some.injEq,Prod.mk.injEq] at h
 obtain ⟨ha,rfl⟩:=h
 obtain ⟨hc,hv,w1,w2,w3⟩:=zv3 ha
 obtain ⟨g0,g1,g2⟩:=zv9 hc
 cases hg:(xG (lf (c3G (l10 a)))).g with
 | true =>
  obtain ⟨c1,v1⟩:=g1 hg
  refine zad GX3 at_rimeref04_Bytes (LsOK.nil.cons (l_by (xG (lf (c3G (l10 a)))).y)) (c_by1 (xG (lf (c3G (l10 a)))).y) (N:=30) (gs:=[(51,true)]) ?_
  have e:=zmO a
  rw [show byCk (l10 a) true=[true,true,true,true] by unfold byCk;rw [w1,w2,w3,hg];rfl,
   show stR (rnm 4 []) (byIn (xG (lf (c3G (l10 a)))).y (fun _=>0)) (zcP (xG (lf (c3G (l10 a)))).y 0)=true from zbB rfl rfl fun d _=>by
    show (0:Int)=byteG _ d (cntB 0 d)
    have:cntB 0 d=0:=by unfold cntB;rw [ble_n (by omega)];show 0 - 8*d=0;omega
    rw [this];rfl,zj6,zli c1,v1,hv] at e
  exact e
 | false =>
  have v1:=g2 hg
  refine zad GX3 at_rimeref04_Bytes (LsOK.nil.cons (l_by (lf (c3G (l10 a))))) (c_by1 (lf (c3G (l10 a)))) (N:=30) (gs:=[(51,false)]) ?_
  have e:=zmD a
  rw [show byCk (l10 a) false=[true,true,true,true] by unfold byCk;rw [w1,w2,w3,hg];rfl,
   show stR (rnm 4 []) (byIn (lf (c3G (l10 a))) (fun _=>0)) (zcP (lf (c3G (l10 a))) 0)=true from zbB rfl rfl fun d _=>by
    show (0:Int)=byteG _ d (cntB 0 d)
    have:cntB 0 d=0:=by unfold cntB;rw [ble_n (by omega)];show 0 - 8*d=0;omega
    rw [this];rfl,zj6,zli hc,v1,hv] at e
  exact e
noncomputable def gx4:List (Nat × TF):=(F_rimeref04_Bytes,tBytesG)::(F_rimeref04_From,tFromG)::gx2
theorem GX4:LibOK prog tt gx4 []:=(GX2.addT zt2).addT zpz
def tSmallG:TF:=fun args=>match args with
 | [.sc (.int .i64 n)]=>some (gwB n,u10 (lf (carD (lf [n,0,0,0,0,0,0,0,0,0]))))
 | _=>none
theorem zrK:fnChk prog (envP tt gx4 []) f_rimeref04_Small=true:=by kernel_rfl
theorem zqh (n:Int):outP (apFunc (envP tt gx4 []) [] 60 f_rimeref04_Small [.sc (.int .i64 n)] [])=some (ckL [gw10 (lf [n,0,0,0,0,0,0,0,0,0])],u10 (lf (carD (lf [n,0,0,0,0,0,0,0,0,0])))):=by kernel_rfl
theorem zsh:TRow prog F_rimeref04_Small tSmallG:=by
 intro args r h
 unfold tSmallG at h
 split at h
 case h_2=>simp at h
 rename_i n
 simp only [Option.some.injEq,Prod.mk.injEq] at h
 obtain ⟨ha,rfl⟩:=h
 refine zab GX4 at_rimeref04_Small zrK (N:=60) (gs:=[]) ?_
 have e:=zqh n
 rw [show gw10 (lf [n,0,0,0,0,0,0,0,0,0])=true by unfold gw10;rw [show gwB (lf [n,0,0,0,0,0,0,0,0,0] 0)=true from ha];rfl] at e
 exact e
noncomputable def gx5:List (Nat × TF):=(F_rimeref04_Small,tSmallG)::gx4
theorem GX5:LibOK prog tt gx5 []:=(GX4).addT zsh
end Go.Proofs.YtplaklpfeabhiaaGreat
namespace Go.Proofs.YtplaklpfeabhiaaGreat
open Go.Proofs.Tryz
open Go Go.AM
def tG (a b:List Int):List Int:=mulG (q10 a) (q10 b)
theorem znf (l:List Int):gd10 (q10 l)=gd10 l:=rfl
theorem zm0 (l:List Int):gm (q10 l)=gm l:=rfl
theorem tG_gd {a b:List Int} (ha:gd10 a=true) (hb:gd10 b=true):gd10 (tG a b)=true:=(zkb (a:=q10 a) (b:=q10 b) ha hb).1
theorem tG_gm {a b:List Int} (ha:gd10 a=true) (hb:gd10 b=true):gm (tG a b)=mM (gm a) (gm b):=zvO (a:=q10 a) (b:=q10 b) ha hb
def one10:List Int:=carD (lf [1,0,0,0,0,0,0,0,0,0])
def pwG (a:List Int):List Bool→List Int→List Int
 | [],r=>r
 | b::bs,r=>pwG a bs (match b with | true=>tG (tG r r) a | false=>tG r r)
def pwCk (a:List Int):List Bool→List Int→List Bool
 | [],_=>[]
 | b::bs,r=>match b with
  | true=>(gd10 (q10 r)&&gd10 (q10 r))::(gd10 (q10 (tG r r))&&gd10 (q10 a))::pwCk a bs (tG (tG r r) a)
  | false=>(gd10 (q10 r)&&gd10 (q10 r))::pwCk a bs (tG r r)
def bitsV (n:Nat):List Bool→Nat
 | []=>n
 | b::bs=>bitsV (match b with | true=>n+n+1 | false=>n+n) bs
theorem zdX {a:List Int} (ha:gd10 a=true):∀ (bs:List Bool) (r:List Int) (n:Nat),gd10 r=true→gm r=powM (gm a) n→gd10 (pwG a bs r)=true∧gm (pwG a bs r)=powM (gm a) (bitsV n bs)∧∀ c ∈ pwCk a bs r,c=true
 | [],r,n,hr,hn=>⟨hr,hn,fun c hc=>by simp [pwCk] at hc⟩
 | true::bs,r,n,hr,hn=>by
  have h2:=tG_gd hr hr
  have h3:=tG_gd h2 ha
  obtain ⟨q1,q2,q3⟩:=zdX ha bs (tG (tG r r) a) (n+n+1) h3 (by rw [tG_gm h2 ha,tG_gm hr hr,hn,zdw,← zdw (gm a) (n+n) 1,zgO (zkg a)])
  refine ⟨q1,q2,fun c hc=>?_⟩
  simp only [pwCk,List.mem_cons] at hc
  rcases hc with rfl | rfl | hc
  ·exact and_t.2 ⟨hr,hr⟩
  ·exact and_t.2 ⟨h2,ha⟩
  ·exact q3 c hc
 | false::bs,r,n,hr,hn=>by
  have h2:=tG_gd hr hr
  obtain ⟨q1,q2,q3⟩:=zdX ha bs (tG r r) (n+n) h2 (by rw [tG_gm hr hr,hn,zdw])
  refine ⟨q1,q2,fun c hc=>?_⟩
  simp only [pwCk,List.mem_cons] at hc
  rcases hc with rfl | hc
  ·exact and_t.2 ⟨hr,hr⟩
  ·exact q3 c hc
theorem zir (x:Int):gd10 one10=true∧gm one10=powM x 0:=by
 refine ⟨by decide,?_⟩
 unfold powM
 rw [Int.pow_zero]
 decide
def eIL:List Int:=[235,255,255,255,255,255,255,255,255,255,255,255,255,255,255,255,255,255,255,255,255,255,255,255,255,255,255,255,255,255,255,127]
def eEL:List Int:=[253,255,255,255,255,255,255,255,255,255,255,255,255,255,255,255,255,255,255,255,255,255,255,255,255,255,255,255,255,255,255,15]
noncomputable abbrev pwE:EnvP:=envP tt gx5 []
noncomputable def pwB:Code:=match f_rimeref04_power.body with | some c=>(match bodiesOf 0 c with | [.loop b]=>b | _=>.skip) | none=>.skip
def pwS (a s:Nat→Int) (i:Int) (x:Nat→Int):St:=⟨tmOf [(2,.sc (.ptr 0 10 0 0 10)),(3,.sc (.ptr 1 32 0 0 32)),(4,.sc (.ptr 2 10 0 0 10)),(5,.sc (.ptr 3 10 0 0 10)),(6,.sc (.int .i64 i))] 32 0,
 [some (.ints .i64 10 1 (fun _ d=>a d)),some (.ints .u8 32 1 (fun _ d=>s d)),some (.ints .i64 10 1 (fun _ _=>0)),some (.ints .i64 10 1 (fun _ d=>x d))]⟩
def pwT (x:Nat→Int):St:=⟨tmOf [(4,.sc (.ptr 2 10 0 0 10)),(5,.sc (.ptr 3 10 0 0 10))] 32 0,[none,none,some (.ints .i64 10 1 (fun _ _=>0)),some (.ints .i64 10 1 (fun _ d=>x d))]⟩
def ones8:List Bool:=[true,true,true,true,true,true,true,true]
def onCk (a:List Int) (s:Nat→Int) (v:Int):Nat→List Int→List Bool
 | 0,_=>[]
 | k+1,r=>(gd10 (q10 r)&&gd10 (q10 r))::inR v 32::((iand .u8 (ishr .u8 (s (0+v.toNat*1)) (k:Int)) 1==1)==true)::(gd10 (q10 (tG r r))&&gd10 (q10 a))::onCk a s v k (tG (tG r r) a)
theorem zm7 (a s:Nat→Int) (v v':Int) (x x':Nat→Int):roundR pwE [(10,true),(27,true)] 12 4 [] pwB (pwS a s v x) .normal (pwS a s v' x') =
  some (ckL ((decide (v ≥ 0)==true)::onCk (l10 a) s v 8 (l10 x))&&stR (rnm 4 []) (pwS a s (wr .i64 (v - 1)) (lf (pwG (l10 a) ones8 (l10 x)))) (pwS a s v' x')):=by kernel_rfl
theorem zm8 (a s x x':Nat→Int):roundR pwE [] 12 4 [] pwB (pwS a s (-1) x) (.exit 0) (pwT x')=some (true&&stR (rnm 4 []) (pwT x) (pwT x')):=by kernel_rfl
def b31I:List Bool:=[false,true,true,true,true,true,true,true]
def b0I:List Bool:=[true,true,true,false,true,false,true,true]
theorem zzm (a x x':Nat→Int):roundR pwE [] 12 4 [] pwB (pwS a (lf eIL) 31 x) .normal (pwS a (lf eIL) 30 x') =
  some (ckL (pwCk (l10 a) b31I (l10 x))&&stR (rnm 4 []) (pwS a (lf eIL) 30 (lf (pwG (l10 a) b31I (l10 x)))) (pwS a (lf eIL) 30 x')):=by kernel_rfl
theorem pw_0I (a x x':Nat→Int):roundR pwE [] 12 4 [] pwB (pwS a (lf eIL) 0 x) .normal (pwS a (lf eIL) (-1) x') =
  some (ckL (pwCk (l10 a) b0I (l10 x))&&stR (rnm 4 []) (pwS a (lf eIL) (-1) (lf (pwG (l10 a) b0I (l10 x)))) (pwS a (lf eIL) (-1) x')):=by kernel_rfl
def b31E:List Bool:=[false,false,false,false,true,true,true,true]
def b0E:List Bool:=[true,true,true,true,true,true,false,true]
theorem zyA (a x x':Nat→Int):roundR pwE [] 12 4 [] pwB (pwS a (lf eEL) 31 x) .normal (pwS a (lf eEL) 30 x') =
  some (ckL (pwCk (l10 a) b31E (l10 x))&&stR (rnm 4 []) (pwS a (lf eEL) 30 (lf (pwG (l10 a) b31E (l10 x)))) (pwS a (lf eEL) 30 x')):=by kernel_rfl
theorem pw_0E (a x x':Nat→Int):roundR pwE [] 12 4 [] pwB (pwS a (lf eEL) 0 x) .normal (pwS a (lf eEL) (-1) x') =
  some (ckL (pwCk (l10 a) b0E (l10 x))&&stR (rnm 4 []) (pwS a (lf eEL) (-1) (lf (pwG (l10 a) b0E (l10 x)))) (pwS a (lf eEL) (-1) x')):=by kernel_rfl
end Go.Proofs.YtplaklpfeabhiaaGreat
namespace Go.Proofs.YtplaklpfeabhiaaGreat
open Go.Proofs.Tryz
open Go Go.AM
theorem zcH {a s:Nat→Int} {v v':Int} {f g:Nat→Int} (hv:v=v') (h:∀ d,d<10→f d=g d):stR (rnm 4 []) (pwS a s v f) (pwS a s v' g)=true:=by
 subst hv
 have e:eqF 1 10 (fun _ d=>f d) (fun _ d=>g d)=true:=zaK fun r _ d hd=>h d hd
 simp [stR,pwS,tmOf,tmR,avR,svR,rIs,rnm,zaj,zam,hpR,blkR,ndR,e]
 decide
theorem zln {f g:Nat→Int} (h:∀ d,d<10→f d=g d):stR (rnm 4 []) (pwT f) (pwT g)=true:=by
 have e:eqF 1 10 (fun _ d=>f d) (fun _ d=>g d)=true:=zaK fun r _ d hd=>h d hd
 simp [stR,pwT,tmOf,tmR,avR,svR,rIs,rnm,zaj,zam,hpR,blkR,ndR,e]
 decide
theorem zzb:∀ k:Nat,k<8→(iand .u8 (ishr .u8 255 (k:Int)) 1==1)=true:=by decide
theorem zgp {a:List Int} (ha:gd10 a=true) {s:Nat→Int} {v:Int} (hv:inR v 32=true) (hs:s (0+v.toNat*1)=255):∀ (k:Nat) (r:List Int),k≤8→gd10 r=true→∀ c ∈ onCk a s v k r,c=true
 | 0,r,_,_,c,hc=>by simp [onCk] at hc
 | k+1,r,hk,hr,c,hc=>by
  have h2:=tG_gd hr hr
  simp only [onCk,List.mem_cons] at hc
  rcases hc with rfl | rfl | rfl | rfl | hc
  ·exact and_t.2 ⟨hr,hr⟩
  ·exact hv
  ·rw [hs,zzb k (by omega)];rfl
  ·exact and_t.2 ⟨h2,ha⟩
  ·exact zgp ha hv hs k _ (by omega) (tG_gd h2 ha) c hc
def btI (k:Nat):List Bool:=match k with
 | 0=>b31I
 | 31=>b0I
 | _=>ones8
def rkI (a:List Int):Nat→List Int
 | 0=>one10
 | k+1=>pwG a (btI k) (q10 (rkI a k))
def nkI:Nat→Nat
 | 0=>0
 | k+1=>bitsV (nkI k) (btI k)
theorem zuO:nkI 32=57896044618658097711785492504343953926634992332820282019728792003956564819947:=by decide +kernel
theorem ziO {a:List Int} (ha:gd10 a=true):∀ k,gd10 (rkI a k)=true∧gm (rkI a k)=powM (gm a) (nkI k)
 | 0=>zir _
 | k+1=>by
  obtain ⟨h1,h2⟩:=ziO ha k
  obtain ⟨q1,q2,q3⟩:=zdX ha (btI k) (q10 (rkI a k)) (nkI k) h1 h2
  exact ⟨q1,q2⟩
def pwWI (a:Nat→Int) (k:Nat):St:=pwS a (lf eIL) (31 - (k:Int)) (lf (rkI (l10 a) k))
def pwFI (a:Nat→Int):LF:=famA 4 [] (pwWI a 0) (gd10 (l10 a)) .normal (pwT (lf (rkI (l10 a) 32)))
theorem midI:∀ k,k<31→0<k→lf eIL (0+(31 - k)*1)=255∧btI k=ones8:=by decide
def btE (k:Nat):List Bool:=match k with
 | 0=>b31E
 | 31=>b0E
 | _=>ones8
def rkE (a:List Int):Nat→List Int
 | 0=>one10
 | k+1=>pwG a (btE k) (q10 (rkE a k))
def nkE:Nat→Nat
 | 0=>0
 | k+1=>bitsV (nkE k) (btE k)
theorem zoi {a:List Int} (ha:gd10 a=true):∀ k,gd10 (rkE a k)=true∧gm (rkE a k)=powM (gm a) (nkE k)
 | 0=>zir _
 | k+1=>by
  obtain ⟨h1,h2⟩:=zoi ha k
  obtain ⟨q1,q2,q3⟩:=zdX ha (btE k) (q10 (rkE a k)) (nkE k) h1 h2
  exact ⟨q1,q2⟩
def pwWE (a:Nat→Int) (k:Nat):St:=pwS a (lf eEL) (31 - (k:Int)) (lf (rkE (l10 a) k))
def pwFE (a:Nat→Int):LF:=famA 4 [] (pwWE a 0) (gd10 (l10 a)) .normal (pwT (lf (rkE (l10 a) 32)))
theorem midE:∀ k,k<31→0<k→lf eEL (0+(31 - k)*1)=255∧btE k=ones8:=by decide
theorem znA:f_rimeref04_power.body.map (bodiesOf 0)=some [.loop pwB]:=by kernel_rfl
theorem pw_ok:codeOK prog pwE.env.isW pwB=true:=by kernel_rfl
set_option maxRecDepth 100000 in
theorem l_pwI (a:Nat→Int):LRow prog f_rimeref04_power 0 (pwFI a):=by
 refine LRow.famA (N:=12) (S:=pwWI a) (GX5.env []) mix 32 (za2 znA) pw_ok (fun w0 own0=>zat (fun id=>rfl) pwB) (fun _ _=>Nat.le_refl _) (Nat.le_refl _) fun ha=>?_
 refine ⟨fun k hk=>?_,?_⟩
 ·obtain ⟨h1,h2⟩:=ziO ha k
  obtain ⟨q1,q2,q3⟩:=zdX ha (btI k) (q10 (rkI (l10 a) k)) (nkI k) h1 h2
  by_cases k0:k=0
  ·subst k0
   exact zal (zzm a (lf (rkI (l10 a) 0)) (lf (rkI (l10 a) 1))) (and_t.2 ⟨ckL_t.2 q3,zcH rfl fun _ _=>rfl⟩)
  ·by_cases k31:k=31
   ·subst k31
    exact zal (pw_0I a (lf (rkI (l10 a) 31)) (lf (rkI (l10 a) 32))) (and_t.2 ⟨ckL_t.2 q3,zcH rfl fun _ _=>rfl⟩)
   ·obtain ⟨m1,m2⟩:=midI k (by omega) (by omega)
    have hv:(31 - (k:Int)).toNat=31 - k:=by omega
    refine zal (zm7 a (lf eIL) (31 - (k:Int)) (31 - ((k+1:Nat):Int)) (lf (rkI (l10 a) k)) (lf (rkI (l10 a) (k+1)))) (and_t.2 ⟨ckL_t.2 fun c hc=>?_,zcH ((zbn (by omega) (by omega)).trans (by omega)) fun d _=>?_⟩)
    ·simp only [List.mem_cons] at hc
     rcases hc with rfl | hc
     ·rw [decide_eq_true (by omega)];rfl
     ·exact zgp ha (by simp [inR];omega) (by rw [hv];exact m1) 8 _ (Nat.le_refl _) h1 c hc
    ·show lf (pwG (l10 a) ones8 _) d=lf (pwG (l10 a) (btI k) _) d
     rw [m2];rfl
 ·obtain ⟨s1,r,q1,q2,q3⟩:=zal (n:=4) (zm8 a (lf eIL) (lf (rkI (l10 a) 32)) (lf (rkI (l10 a) 32))) (and_t.2 ⟨rfl,zln fun _ _=>rfl⟩)
  exact ⟨_,s1,r,q1,rfl,q2,q3⟩
theorem c_pwI (a:Nat→Int):fnChk prog (envL tt gx5 [] [(0,pwFI a)]) f_rimeref04_power=true:=by kernel_rfl
set_option maxRecDepth 100000 in
theorem k_pwI (a:Nat→Int):outP (apFunc (envL tt gx5 [] [(0,pwFI a)]) [] 5 f_rimeref04_power [u10 a,u8s 32 (lf eIL)] []) =
  some (ckL [gd10 (l10 a)&&stR (rnm 4 []) (pwS a (lf eIL) 31 (lf one10)) (pwWI a 0)],u10 (lf (q10 (rkI (l10 a) 32)))):=by kernel_rfl
theorem p_pwI (a:Nat→Int) (ha:gd10 (l10 a)=true):Pure prog F_rimeref04_power [u10 a,u8s 32 (lf eIL)] (u10 (lf (q10 (rkI (l10 a) 32)))):=by
 refine zad GX5 at_rimeref04_power (LsOK.nil.cons (l_pwI a)) (c_pwI a) (N:=5) (gs:=[]) ?_
 have e:=k_pwI a
 rw [ha,show stR (rnm 4 []) (pwS a (lf eIL) 31 (lf one10)) (pwWI a 0)=true from zcH rfl fun _ _=>rfl] at e
 exact e
set_option maxRecDepth 100000 in
theorem l_pwE (a:Nat→Int):LRow prog f_rimeref04_power 0 (pwFE a):=by
 refine LRow.famA (N:=12) (S:=pwWE a) (GX5.env []) mix 32 (za2 znA) pw_ok (fun w0 own0=>zat (fun id=>rfl) pwB) (fun _ _=>Nat.le_refl _) (Nat.le_refl _) fun ha=>?_
 refine ⟨fun k hk=>?_,?_⟩
 ·obtain ⟨h1,h2⟩:=zoi ha k
  obtain ⟨q1,q2,q3⟩:=zdX ha (btE k) (q10 (rkE (l10 a) k)) (nkE k) h1 h2
  by_cases k0:k=0
  ·subst k0
   exact zal (zyA a (lf (rkE (l10 a) 0)) (lf (rkE (l10 a) 1))) (and_t.2 ⟨ckL_t.2 q3,zcH rfl fun _ _=>rfl⟩)
  ·by_cases k31:k=31
   ·subst k31
    exact zal (pw_0E a (lf (rkE (l10 a) 31)) (lf (rkE (l10 a) 32))) (and_t.2 ⟨ckL_t.2 q3,zcH rfl fun _ _=>rfl⟩)
   ·obtain ⟨m1,m2⟩:=midE k (by omega) (by omega)
    have hv:(31 - (k:Int)).toNat=31 - k:=by omega
    refine zal (zm7 a (lf eEL) (31 - (k:Int)) (31 - ((k+1:Nat):Int)) (lf (rkE (l10 a) k)) (lf (rkE (l10 a) (k+1)))) (and_t.2 ⟨ckL_t.2 fun c hc=>?_,zcH ((zbn (by omega) (by omega)).trans (by omega)) fun d _=>?_⟩)
    ·simp only [List.mem_cons] at hc
     rcases hc with rfl | hc
     ·rw [decide_eq_true (by omega)];rfl
     ·exact zgp ha (by simp [inR];omega) (by rw [hv];exact m1) 8 _ (Nat.le_refl _) h1 c hc
    ·show lf (pwG (l10 a) ones8 _) d=lf (pwG (l10 a) (btE k) _) d
     rw [m2];rfl
 ·obtain ⟨s1,r,q1,q2,q3⟩:=zal (n:=4) (zm8 a (lf eEL) (lf (rkE (l10 a) 32)) (lf (rkE (l10 a) 32))) (and_t.2 ⟨rfl,zln fun _ _=>rfl⟩)
  exact ⟨_,s1,r,q1,rfl,q2,q3⟩
theorem c_pwE (a:Nat→Int):fnChk prog (envL tt gx5 [] [(0,pwFE a)]) f_rimeref04_power=true:=by kernel_rfl
set_option maxRecDepth 100000 in
theorem k_pwE (a:Nat→Int):outP (apFunc (envL tt gx5 [] [(0,pwFE a)]) [] 5 f_rimeref04_power [u10 a,u8s 32 (lf eEL)] []) =
  some (ckL [gd10 (l10 a)&&stR (rnm 4 []) (pwS a (lf eEL) 31 (lf one10)) (pwWE a 0)],u10 (lf (q10 (rkE (l10 a) 32)))):=by kernel_rfl
theorem p_pwE (a:Nat→Int) (ha:gd10 (l10 a)=true):Pure prog F_rimeref04_power [u10 a,u8s 32 (lf eEL)] (u10 (lf (q10 (rkE (l10 a) 32)))):=by
 refine zad GX5 at_rimeref04_power (LsOK.nil.cons (l_pwE a)) (c_pwE a) (N:=5) (gs:=[]) ?_
 have e:=k_pwE a
 rw [ha,show stR (rnm 4 []) (pwS a (lf eEL) 31 (lf one10)) (pwWE a 0)=true from zcH rfl fun _ _=>rfl] at e
 exact e
def tPowerG:TF:=fun args=>match args with
 | [.agg [.ints .i64 10 a],.agg [.ints .u8 32 s]]=>(match eqN 32 s (lf eIL) with
  | true=>some (gd10 (l10 a),u10 (lf (q10 (rkI (l10 a) 32))))
  | false=>some (gd10 (l10 a)&&eqN 32 s (lf eEL),u10 (lf (q10 (rkE (l10 a) 32)))))
 | _=>none
theorem zsp {σ:Sg} {pr:Pr} {w:World} {k:IntKind} {n:Nat} {f g:Nat→Int} (h:eqN n f g=true) {v:Value} (hv:RV σ pr w (.agg [.ints k n f]) v):RV σ pr w (.agg [.ints k n g]) v:=by
 obtain ⟨cs,rfl,h1,h2⟩:=hv
 refine ⟨cs,rfl,h1,fun c x hx=>?_⟩
 have hc:c<n:=by
  have:=(List.getElem?_eq_some_iff.1 hx).1
  rw [h1] at this
  simpa [lenS] using this
 have:=h2 c x hx
 have e:f c=g c:=eqN_t h c hc
 show RS σ pr w (.int k (g c)) x
 rw [← e];exact this
theorem zj8 {f:FuncId} {a:AV} {k:IntKind} {n:Nat} {s s':Nat→Int} {r:AV} (h:eqN n s s'=true) (hP:Pure prog f [a,.agg [.ints k n s']] r):Pure prog f [a,.agg [.ints k n s]] r:=by
 intro pr w vs ha hlt
 refine hP pr w vs ⟨by simpa using ha.1,fun j x v e1 e2=>?_⟩ hlt
 match j,e1 with
 | 0,e1=>exact ha.2 0 x v (by simpa using e1) e2
 | 1,e1 =>
  simp only [List.getElem?_cons_succ,List.getElem?_cons_zero,Option.some.injEq] at e1
  subst e1
  exact zsp h (ha.2 1 _ v rfl e2)
 | j+2,e1=>simp at e1
theorem zqy:TRow prog F_rimeref04_power tPowerG:=by
 intro args r h
 unfold tPowerG at h
 split at h
 case h_2=>simp at h
 rename_i a s
 split at h
 ·rename_i hs
  simp only [Option.some.injEq,Prod.mk.injEq] at h
  obtain ⟨ha,rfl⟩:=h
  exact zj8 hs (p_pwI a ha)
 ·simp only [Option.some.injEq,Prod.mk.injEq,Bool.and_eq_true] at h
  obtain ⟨⟨ha,hs⟩,rfl⟩:=h
  exact zj8 hs (p_pwE a ha)
end Go.Proofs.YtplaklpfeabhiaaGreat
namespace Go.Proofs.YtplaklpfeabhiaaGreat
open Go.Proofs.Tryz
open Go Go.AM
def tExpG:TF:=fun args=>match args with
 | [.sc (.int .u8 l),.sc (.int .i64 h)]=>(match decide (l=2)&&decide (h=0) with
  | true=>some (true,u8s 32 (lf eIL))
  | false=>some (decide (l=0)&&decide (h=3),u8s 32 (lf eEL)))
 | _=>none
theorem zsn:fnChk prog (envP tt gx5 []) f_rimeref04_exponent=true:=by kernel_rfl
theorem zwG:TRow prog F_rimeref04_exponent tExpG:=by
 intro args r h
 unfold tExpG at h
 split at h
 case h_2=>simp at h
 rename_i l hh
 split at h
 ·rename_i hc
  simp only [Bool.and_eq_true,decide_eq_true_eq] at hc
  obtain ⟨rfl,rfl⟩:=hc
  simp only [Option.some.injEq,Prod.mk.injEq,true_and] at h
  subst h
  exact zab GX5 at_rimeref04_exponent zsn (N:=40) (gs:=[]) (by kernel_rfl)
 ·simp only [Option.some.injEq,Prod.mk.injEq,Bool.and_eq_true,decide_eq_true_eq] at h
  obtain ⟨⟨rfl,rfl⟩,rfl⟩:=h
  exact zab GX5 at_rimeref04_exponent zsn (N:=40) (gs:=[]) (by kernel_rfl)
noncomputable def gx6:List (Nat × TF):=(F_rimeref04_exponent,tExpG)::(F_rimeref04_power,tPowerG)::gx5
theorem GX6:LibOK prog tt gx6 []:=(GX5.addT zqy).addT zwG
def invG (a:List Int):List Int:=q10 (rkI a 32)
theorem zgs {a:List Int} (h:gd10 a=true):gd10 (invG a)=true∧gm (invG a)=invM (gm a):=by
 obtain ⟨h1,h2⟩:=ziO h 32
 rw [zuO] at h2
 exact ⟨(znf _).trans h1,(zm0 _).trans h2⟩
def tInvG:TF:=fun args=>match args with
 | [.agg [.ints .i64 10 a]]=>some (gd10 (l10 a),u10 (lf (invG (l10 a))))
 | _=>none
theorem zws:fnChk prog (envP tt gx6 []) f_rimeref04_Invert=true:=by kernel_rfl
set_option maxRecDepth 100000 in
theorem zy1 (a:Nat→Int):outP (apFunc (envP tt gx6 []) [] 5 f_rimeref04_Invert [u10 a] [])=some (ckL [gd10 (l10 a)],u10 (lf (invG (l10 a)))):=by kernel_rfl
theorem zy3:TRow prog F_rimeref04_Invert tInvG:=by
 intro args r h
 unfold tInvG at h
 split at h
 case h_2=>simp at h
 rename_i a
 simp only [Option.some.injEq,Prod.mk.injEq] at h
 obtain ⟨ha,rfl⟩:=h
 refine zab GX6 at_rimeref04_Invert zws (N:=5) (gs:=[]) ?_
 have e:=zy1 a
 rw [ha] at e
 exact e
def gM (a b:List Int):Bool:=gd10 (q10 a)&&gd10 (q10 b)
theorem gM_t {a b:List Int} (ha:gd10 a=true) (hb:gd10 b=true):gM a b=true:=and_t.2 ⟨ha,hb⟩
noncomputable def gx7:List (Nat × TF):=(F_rimeref04_Invert,tInvG)::gx6
theorem GX7:LibOK prog tt gx7 []:=(GX6.addT zy3)
end Go.Proofs.YtplaklpfeabhiaaGreat
namespace Go.Proofs.YtplaklpfeabhiaaGreat
open Go.Proofs.Tryz
open Go Go.AM
def dGL:List Int:=carD (lf (fromL eD))
def iGL:List Int:=carD (lf (fromL iM))
def bxGL:List Int:=carD (lf (fromL bxI))
def byGL:List Int:=carD (lf (fromL byI))
def zer10:List Int:=[0,0,0,0,0,0,0,0,0,0]
def idGL:List Int:=zer10++(one10++(one10++zer10))
def baGL:List Int:=bxGL++(byGL++(one10++q10 (tG bxGL byGL)))
def mdL:List Int:=dGL++(iGL++baGL)
def gpt (p:Nat→Int):AV:=.agg [.ints .i64 40 p]
def crv (c:Nat→Int):AV:=.agg [.ints .i64 60 c]
theorem zgP:gd10 dGL=true∧gm dGL=eD:=by
 obtain ⟨h1,h2,h3⟩:=ziq (v:=eD) (by decide)
 exact ⟨h2,h3.trans (by decide)⟩
def tDG:TF:=fun args=>match args with
 | []=>some (true,u10 (lf dGL))
 | _=>none
theorem c_DG:fnChk prog (envP tt gx7 []) f_rimeref04_D=true:=by kernel_rfl
theorem r_DG:TRow prog F_rimeref04_D tDG:=by
 intro args r h
 unfold tDG at h
 split at h
 case h_2=>simp at h
 simp only [Option.some.injEq,Prod.mk.injEq,true_and] at h
 subst h
 exact zab GX7 at_rimeref04_D c_DG (N:=60) (gs:=[]) (by kernel_rfl)
def tSqrtM1G:TF:=fun args=>match args with
 | []=>some (true,u10 (lf iGL))
 | _=>none
theorem zmV:fnChk prog (envP tt gx7 []) f_rimeref04_SqrtM1=true:=by kernel_rfl
theorem znX:TRow prog F_rimeref04_SqrtM1 tSqrtM1G:=by
 intro args r h
 unfold tSqrtM1G at h
 split at h
 case h_2=>simp at h
 simp only [Option.some.injEq,Prod.mk.injEq,true_and] at h
 subst h
 exact zab GX7 at_rimeref04_SqrtM1 zmV (N:=60) (gs:=[]) (by kernel_rfl)
def tNoneG:TF:=fun args=>match args with
 | []=>some (true,gpt (lf idGL))
 | _=>none
theorem zvc:fnChk prog (envP tt gx7 []) f_rimeref04_None=true:=by kernel_rfl
theorem ztR:TRow prog F_rimeref04_None tNoneG:=by
 intro args r h
 unfold tNoneG at h
 split at h
 case h_2=>simp at h
 simp only [Option.some.injEq,Prod.mk.injEq,true_and] at h
 subst h
 exact zab GX7 at_rimeref04_None zvc (N:=60) (gs:=[]) (by kernel_rfl)
def tAffG:TF:=fun args=>match args with
 | [.agg [.ints .i64 10 x],.agg [.ints .i64 10 y]]=>some (gd10 (l10 x)&&gd10 (l10 y),gpt (lf (q10 (l10 x)++(q10 (l10 y)++(one10++q10 (tG (l10 x) (l10 y)))))))
 | _=>none
theorem zxg:fnChk prog (envP tt gx7 []) f_rimeref04_Affine=true:=by kernel_rfl
theorem zyZ (x y:Nat→Int):outP (apFunc (envP tt gx7 []) [] 5 f_rimeref04_Affine [u10 x,u10 y] [])=some (ckL [gM (l10 x) (l10 y)],gpt (lf (q10 (l10 x)++(q10 (l10 y)++(one10++q10 (tG (l10 x) (l10 y))))))):=by kernel_rfl
theorem zxP:TRow prog F_rimeref04_Affine tAffG:=by
 intro args r h
 unfold tAffG at h
 split at h
 case h_2=>simp at h
 rename_i x y
 simp only [Option.some.injEq,Prod.mk.injEq,Bool.and_eq_true] at h
 obtain ⟨⟨hx,hy⟩,rfl⟩:=h
 refine zab GX7 at_rimeref04_Affine zxg (N:=5) (gs:=[]) ?_
 have e:=zyZ x y
 rw [gM_t hx hy] at e
 exact e
noncomputable def gx8:List (Nat × TF):=(F_rimeref04_Affine,tAffG)::(F_rimeref04_None,tNoneG)::(F_rimeref04_SqrtM1,tSqrtM1G)::(F_rimeref04_D,tDG)::gx7
theorem GX8:LibOK prog tt gx8 []:=(((GX7.addT r_DG).addT znX).addT ztR).addT zxP
def tMadeG:TF:=fun args=>match args with
 | []=>some (true,crv (lf mdL))
 | _=>none
theorem zt1:fnChk prog (envP tt gx8 []) f_rimeref04_Made=true:=by kernel_rfl
theorem zuR:TRow prog F_rimeref04_Made tMadeG:=by
 intro args r h
 unfold tMadeG at h
 split at h
 case h_2=>simp at h
 simp only [Option.some.injEq,Prod.mk.injEq,true_and] at h
 subst h
 exact zab GX8 at_rimeref04_Made zt1 (N:=60) (gs:=[]) (by kernel_rfl)
def gX (p:Nat→Int):List Int:=[p 0,p 1,p 2,p 3,p 4,p 5,p 6,p 7,p 8,p 9]
def gY (p:Nat→Int):List Int:=[p 10,p 11,p 12,p 13,p 14,p 15,p 16,p 17,p 18,p 19]
def gZ (p:Nat→Int):List Int:=[p 20,p 21,p 22,p 23,p 24,p 25,p 26,p 27,p 28,p 29]
def zav (p:Nat→Int):List Int:=[p 30,p 31,p 32,p 33,p 34,p 35,p 36,p 37,p 38,p 39]
def aG (a b:List Int):List Int:=addG (q10 a) (q10 b)
def sG (a b:List Int):List Int:=subG (q10 a) (q10 b)
def ptAddG (p q:Nat→Int):List Int :=
 let a:=tG (gX p) (gX q)
 let b:=tG (gY p) (gY q)
 let e:=tG dGL (tG (zav p) (zav q))
 let z:=tG (gZ p) (gZ q)
 let x:=sG (sG (tG (aG (gX p) (gY p)) (aG (gX q) (gY q))) a) b
 let f:=sG z e
 let g:=aG z e
 let h:=aG b a
 tG x f++(tG g h++(tG f g++tG x h))
def ptAddGCk (p q:Nat→Int):List Bool :=
 let a:=tG (gX p) (gX q)
 let b:=tG (gY p) (gY q)
 let e:=tG dGL (tG (zav p) (zav q))
 let z:=tG (gZ p) (gZ q)
 let s:=tG (aG (gX p) (gY p)) (aG (gX q) (gY q))
 let x:=sG (sG s a) b
 let f:=sG z e
 let g:=aG z e
 let h:=aG b a
 [gM (gX p) (gX q),gM (gY p) (gY q),gM (zav p) (zav q),gM dGL (tG (zav p) (zav q)),gM (gZ p) (gZ q),gM (gX p) (gY p),gM (gX q) (gY q),gM (aG (gX p) (gY p)) (aG (gX q) (gY q)),gM s a,gM (sG s a) b,gM z e,gM z e,gM b a,gM x f,gM g h,gM f g,gM x h]
def ptDblG (p:Nat→Int):List Int :=
 let a:=tG (gX p) (gX p)
 let b:=tG (gY p) (gY p)
 let z:=tG (gZ p) (gZ p)
 let s:=aG (gX p) (gY p)
 let e:=sG (sG (tG s s) a) b
 let g:=sG b a
 let f:=sG g (aG z z)
 let h:=sG zer10 (aG a b)
 tG e f++(tG g h++(tG f g++tG e h))
def ptDblGCk (p:Nat→Int):List Bool :=
 let a:=tG (gX p) (gX p)
 let b:=tG (gY p) (gY p)
 let z:=tG (gZ p) (gZ p)
 let s:=aG (gX p) (gY p)
 let e:=sG (sG (tG s s) a) b
 let g:=sG b a
 let f:=sG g (aG z z)
 let h:=sG zer10 (aG a b)
 [gM (gX p) (gX p),gM (gY p) (gY p),gM (gZ p) (gZ p),gM (gX p) (gY p),gM s s,gM (tG s s) a,gM (sG (tG s s) a) b,gM b a,gM z z,gM g (aG z z),gM a b,gM zer10 (aG a b),gM e f,gM g h,gM f g,gM e h]
theorem zxc:fnChk prog (envP tt gx8 []) f_rimeref04_Curve_Sum=true:=by kernel_rfl
theorem zq6:fnChk prog (envP tt gx8 []) f_rimeref04_Twice=true:=by kernel_rfl
theorem zyi (p q:Nat→Int):(outP (apFunc (envP tt gx8 []) [] 5 f_rimeref04_Curve_Sum [crv (lf mdL),gpt p,gpt q] [])).map (·.2)=some (gpt (lf (ptAddG p q))):=by kernel_rfl
theorem ztn (p q:Nat→Int):(outP (apFunc (envP tt gx8 []) [] 5 f_rimeref04_Curve_Sum [crv (lf mdL),gpt p,gpt q] [])).map (·.1)=some (ckL (ptAddGCk p q)):=by kernel_rfl
theorem zpC (p:Nat→Int):(outP (apFunc (envP tt gx8 []) [] 5 f_rimeref04_Twice [gpt p] [])).map (·.2)=some (gpt (lf (ptDblG p))):=by kernel_rfl
theorem znK (p:Nat→Int):(outP (apFunc (envP tt gx8 []) [] 5 f_rimeref04_Twice [gpt p] [])).map (·.1)=some (ckL (ptDblGCk p)):=by kernel_rfl
end Go.Proofs.YtplaklpfeabhiaaGreat
namespace Go.Proofs.YtplaklpfeabhiaaGreat
open Go.Proofs.Tryz
open Go Go.AM
def gdP (p:Nat→Int):Bool:=gd10 (gX p)&&(gd10 (gY p)&&(gd10 (gZ p)&&gd10 (zav p)))
def vG (p:Nat→Int):Q4:=(gm (gX p),gm (gY p),gm (gZ p),gm (zav p))
theorem gdP_t {p:Nat→Int}:gdP p=true ↔ gd10 (gX p)=true∧gd10 (gY p)=true∧gd10 (gZ p)=true∧gd10 (zav p)=true:=by simp only [gdP,Bool.and_eq_true]
theorem aG_gd {a b:List Int} (ha:gd10 a=true) (hb:gd10 b=true):gd10 (aG a b)=true:=(zgE (a:=q10 a) (b:=q10 b) ha hb).2.1
theorem sG_gd {a b:List Int} (ha:gd10 a=true) (hb:gd10 b=true):gd10 (sG a b)=true:=(zg1 (a:=q10 a) (b:=q10 b) ha hb).2.1
theorem aG_gm {a b:List Int} (ha:gd10 a=true) (hb:gd10 b=true):gm (aG a b)=mA (gm a) (gm b):=zui (a:=q10 a) (b:=q10 b) ha hb
theorem sG_gm {a b:List Int} (ha:gd10 a=true) (hb:gd10 b=true):gm (sG a b)=mS (gm a) (gm b):=ztt (a:=q10 a) (b:=q10 b) ha hb
theorem zll {a b c d:List Int} (ha:a.length=10) (hb:b.length=10) (hc:c.length=10) (hd:d.length=10):gX (lf (a++(b++(c++d))))=a∧gY (lf (a++(b++(c++d))))=b∧gZ (lf (a++(b++(c++d))))=c∧zav (lf (a++(b++(c++d))))=d:=by
 match a,ha with
 | [a0,a1,a2,a3,a4,a5,a6,a7,a8,a9],_ =>
  match b,hb with
  | [b0,b1,b2,b3,b4,b5,b6,b7,b8,b9],_ =>
   match c,hc with
   | [c0,c1,c2,c3,c4,c5,c6,c7,c8,c9],_ =>
    match d,hd with
    | [d0,d1,d2,d3,d4,d5,d6,d7,d8,d9],_=>exact ⟨rfl,rfl,rfl,rfl⟩
theorem zbC (a b:List Int):(tG a b).length=10:=rfl
theorem zqJ (a b c:Int):mM a (mM b c)=mM (mM a b) c:=by
 unfold mM
 rw [zdi,zcl,Int.mul_assoc]
theorem zj1 (a b:Int):mM (mS 0 a) (mS 0 b)=mM a b:=by
 unfold mM mS
 rw [zcl,zdi]
 congr 1
 grind
theorem zdh:gd10 zer10=true∧gm zer10=0:=by decide
theorem zcO {p q:Nat→Int} (hp:gdP p=true) (hq:gdP q=true):gdP (lf (ptAddG p q))=true∧vG (lf (ptAddG p q))=addS (vG p) (vG q)∧ckL (ptAddGCk p q)=true:=by
 obtain ⟨p1,p2,p3,p4⟩:=gdP_t.1 hp
 obtain ⟨q1,q2,q3,q4⟩:=gdP_t.1 hq
 have a:=tG_gd p1 q1
 have b:=tG_gd p2 q2
 have t:=tG_gd p4 q4
 have e:=tG_gd zgP.1 t
 have z:=tG_gd p3 q3
 have s1:=aG_gd p1 p2
 have s2:=aG_gd q1 q2
 have m:=tG_gd s1 s2
 have x0:=sG_gd m a
 have x:=sG_gd x0 b
 have f:=sG_gd z e
 have g:=aG_gd z e
 have h:=aG_gd b a
 unfold ptAddG ptAddGCk
 dsimp only
 have ea:=tG_gm p1 q1
 have eb:=tG_gm p2 q2
 have ee:gm (tG dGL (tG (zav p) (zav q)))=mM (mM eD (gm (zav p))) (gm (zav q)):=by rw [tG_gm zgP.1 t,tG_gm p4 q4,zgP.2,zqJ]
 have ez:=tG_gm p3 q3
 have ex:gm (sG (sG (tG (aG (gX p) (gY p)) (aG (gX q) (gY q))) (tG (gX p) (gX q))) (tG (gY p) (gY q)))=mS (mS (mM (mA (gm (gX p)) (gm (gY p))) (mA (gm (gX q)) (gm (gY q)))) (mM (gm (gX p)) (gm (gX q)))) (mM (gm (gY p)) (gm (gY q))):=by
  rw [sG_gm x0 b,sG_gm m a,tG_gm s1 s2,aG_gm p1 p2,aG_gm q1 q2,ea,eb]
 have ef:gm (sG (tG (gZ p) (gZ q)) (tG dGL (tG (zav p) (zav q))))=mS (mM (gm (gZ p)) (gm (gZ q))) (mM (mM eD (gm (zav p))) (gm (zav q))):=by rw [sG_gm z e,ez,ee]
 have eg:gm (aG (tG (gZ p) (gZ q)) (tG dGL (tG (zav p) (zav q))))=mA (mM (gm (gZ p)) (gm (gZ q))) (mM (mM eD (gm (zav p))) (gm (zav q))):=by rw [aG_gm z e,ez,ee]
 have eh:gm (aG (tG (gY p) (gY q)) (tG (gX p) (gX q)))=mA (mM (gm (gY p)) (gm (gY q))) (mM (gm (gX p)) (gm (gX q))):=by rw [aG_gm b a,ea,eb]
 refine ⟨?_,?_,?_⟩
 ·obtain ⟨x1,x2,x3,x4⟩:=zll (zbC _ _) (zbC _ _) (zbC _ _) (zbC _ _) (a:=tG (sG (sG (tG (aG (gX p) (gY p)) (aG (gX q) (gY q))) (tG (gX p) (gX q))) (tG (gY p) (gY q))) (sG (tG (gZ p) (gZ q)) (tG dGL (tG (zav p) (zav q)))))
   (b:=tG (aG (tG (gZ p) (gZ q)) (tG dGL (tG (zav p) (zav q)))) (aG (tG (gY p) (gY q)) (tG (gX p) (gX q)))) (c:=tG (sG (tG (gZ p) (gZ q)) (tG dGL (tG (zav p) (zav q)))) (aG (tG (gZ p) (gZ q)) (tG dGL (tG (zav p) (zav q)))))
   (d:=tG (sG (sG (tG (aG (gX p) (gY p)) (aG (gX q) (gY q))) (tG (gX p) (gX q))) (tG (gY p) (gY q))) (aG (tG (gY p) (gY q)) (tG (gX p) (gX q))))
  exact gdP_t.2 ⟨by rw [x1];exact tG_gd x f,by rw [x2];exact tG_gd g h,by rw [x3];exact tG_gd f g,by rw [x4];exact tG_gd x h⟩
 ·obtain ⟨x1,x2,x3,x4⟩:=zll (zbC _ _) (zbC _ _) (zbC _ _) (zbC _ _) (a:=tG (sG (sG (tG (aG (gX p) (gY p)) (aG (gX q) (gY q))) (tG (gX p) (gX q))) (tG (gY p) (gY q))) (sG (tG (gZ p) (gZ q)) (tG dGL (tG (zav p) (zav q)))))
   (b:=tG (aG (tG (gZ p) (gZ q)) (tG dGL (tG (zav p) (zav q)))) (aG (tG (gY p) (gY q)) (tG (gX p) (gX q)))) (c:=tG (sG (tG (gZ p) (gZ q)) (tG dGL (tG (zav p) (zav q)))) (aG (tG (gZ p) (gZ q)) (tG dGL (tG (zav p) (zav q)))))
   (d:=tG (sG (sG (tG (aG (gX p) (gY p)) (aG (gX q) (gY q))) (tG (gX p) (gX q))) (tG (gY p) (gY q))) (aG (tG (gY p) (gY q)) (tG (gX p) (gX q))))
  unfold vG
  rw [x1,x2,x3,x4,tG_gm x f,tG_gm g h,tG_gm f g,tG_gm x h,ex,ef,eg,eh]
  rfl
 ·rw [gM_t p1 q1,gM_t p2 q2,gM_t p4 q4,gM_t zgP.1 t,gM_t p3 q3,gM_t p1 p2,gM_t q1 q2,gM_t s1 s2,gM_t m a,gM_t x0 b,gM_t z e,gM_t b a,gM_t x f,gM_t g h,gM_t f g,gM_t x h]
  rfl
theorem zdM {p:Nat→Int} (hp:gdP p=true):gdP (lf (ptDblG p))=true∧vG (lf (ptDblG p))=dblS (vG p)∧ckL (ptDblGCk p)=true:=by
 obtain ⟨p1,p2,p3,p4⟩:=gdP_t.1 hp
 have a:=tG_gd p1 p1
 have b:=tG_gd p2 p2
 have z:=tG_gd p3 p3
 have s:=aG_gd p1 p2
 have ss:=tG_gd s s
 have e0:=sG_gd ss a
 have e:=sG_gd e0 b
 have g:=sG_gd b a
 have zz:=aG_gd z z
 have f:=sG_gd g zz
 have ab:=aG_gd a b
 have h:=sG_gd zdh.1 ab
 unfold ptDblG ptDblGCk
 dsimp only
 have n1:∀ u v w:Int,mS (mS u v) w=mS 0 (mS (mA v w) u):=fun u v w=>by
  unfold mS mA
  rw [zkX,zhg]
  unfold pP
  omega
 have n2:∀ u v:Int,mS u v=mS 0 (mS v u):=fun u v=>by
  unfold mS
  rw [zhg]
  congr 1
  omega
 have n3:∀ u v w:Int,mS (mS u v) w=mS 0 (mA w (mS v u)):=fun u v w=>by
  unfold mS mA
  rw [zkX,zhg]
  unfold pP
  omega
 have ee:gm (sG (sG (tG (aG (gX p) (gY p)) (aG (gX p) (gY p))) (tG (gX p) (gX p))) (tG (gY p) (gY p)))=mS 0 (mS (mA (mM (gm (gX p)) (gm (gX p))) (mM (gm (gY p)) (gm (gY p)))) (mM (mA (gm (gX p)) (gm (gY p))) (mA (gm (gX p)) (gm (gY p))))):=by
  rw [sG_gm e0 b,sG_gm ss a,tG_gm s s,aG_gm p1 p2,tG_gm p1 p1,tG_gm p2 p2,n1]
 have eg:gm (sG (tG (gY p) (gY p)) (tG (gX p) (gX p)))=mS 0 (mS (mM (gm (gX p)) (gm (gX p))) (mM (gm (gY p)) (gm (gY p)))):=by
  rw [sG_gm b a,tG_gm p1 p1,tG_gm p2 p2,n2]
 have ef:gm (sG (sG (tG (gY p) (gY p)) (tG (gX p) (gX p))) (aG (tG (gZ p) (gZ p)) (tG (gZ p) (gZ p))))=mS 0 (mA (mA (mM (gm (gZ p)) (gm (gZ p))) (mM (gm (gZ p)) (gm (gZ p)))) (mS (mM (gm (gX p)) (gm (gX p))) (mM (gm (gY p)) (gm (gY p))))):=by
  rw [sG_gm g zz,sG_gm b a,aG_gm z z,tG_gm p1 p1,tG_gm p2 p2,tG_gm p3 p3,n3]
 have eh:gm (sG zer10 (aG (tG (gX p) (gX p)) (tG (gY p) (gY p))))=mS 0 (mA (mM (gm (gX p)) (gm (gX p))) (mM (gm (gY p)) (gm (gY p)))):=by
  rw [sG_gm zdh.1 ab,aG_gm a b,tG_gm p1 p1,tG_gm p2 p2,zdh.2]
 refine ⟨?_,?_,?_⟩
 ·obtain ⟨x1,x2,x3,x4⟩:=zll (zbC _ _) (zbC _ _) (zbC _ _) (zbC _ _) (a:=tG (sG (sG (tG (aG (gX p) (gY p)) (aG (gX p) (gY p))) (tG (gX p) (gX p))) (tG (gY p) (gY p))) (sG (sG (tG (gY p) (gY p)) (tG (gX p) (gX p))) (aG (tG (gZ p) (gZ p)) (tG (gZ p) (gZ p)))))
   (b:=tG (sG (tG (gY p) (gY p)) (tG (gX p) (gX p))) (sG zer10 (aG (tG (gX p) (gX p)) (tG (gY p) (gY p))))) (c:=tG (sG (sG (tG (gY p) (gY p)) (tG (gX p) (gX p))) (aG (tG (gZ p) (gZ p)) (tG (gZ p) (gZ p)))) (sG (tG (gY p) (gY p)) (tG (gX p) (gX p))))
   (d:=tG (sG (sG (tG (aG (gX p) (gY p)) (aG (gX p) (gY p))) (tG (gX p) (gX p))) (tG (gY p) (gY p))) (sG zer10 (aG (tG (gX p) (gX p)) (tG (gY p) (gY p)))))
  exact gdP_t.2 ⟨by rw [x1];exact tG_gd e f,by rw [x2];exact tG_gd g h,by rw [x3];exact tG_gd f g,by rw [x4];exact tG_gd e h⟩
 ·obtain ⟨x1,x2,x3,x4⟩:=zll (zbC _ _) (zbC _ _) (zbC _ _) (zbC _ _) (a:=tG (sG (sG (tG (aG (gX p) (gY p)) (aG (gX p) (gY p))) (tG (gX p) (gX p))) (tG (gY p) (gY p))) (sG (sG (tG (gY p) (gY p)) (tG (gX p) (gX p))) (aG (tG (gZ p) (gZ p)) (tG (gZ p) (gZ p)))))
   (b:=tG (sG (tG (gY p) (gY p)) (tG (gX p) (gX p))) (sG zer10 (aG (tG (gX p) (gX p)) (tG (gY p) (gY p))))) (c:=tG (sG (sG (tG (gY p) (gY p)) (tG (gX p) (gX p))) (aG (tG (gZ p) (gZ p)) (tG (gZ p) (gZ p)))) (sG (tG (gY p) (gY p)) (tG (gX p) (gX p))))
   (d:=tG (sG (sG (tG (aG (gX p) (gY p)) (aG (gX p) (gY p))) (tG (gX p) (gX p))) (tG (gY p) (gY p))) (sG zer10 (aG (tG (gX p) (gX p)) (tG (gY p) (gY p)))))
  unfold vG
  rw [x1,x2,x3,x4,tG_gm e f,tG_gm g h,tG_gm f g,tG_gm e h,ee,ef,eg,eh,zj1,zj1,zj1,zj1]
  rfl
 ·rw [gM_t p1 p1,gM_t p2 p2,gM_t p3 p3,gM_t p1 p2,gM_t s s,gM_t ss a,gM_t e0 b,gM_t b a,gM_t z z,gM_t g zz,gM_t a b,gM_t zdh.1 ab,gM_t e f,gM_t g h,gM_t f g,gM_t e h]
  rfl
def tSumG:TF:=fun args=>match args with
 | [.agg [.ints .i64 60 c],.agg [.ints .i64 40 p],.agg [.ints .i64 40 q]]=>some (eqN 60 c (lf mdL)&&(gdP p&&gdP q),gpt (lf (ptAddG p q)))
 | _=>none
def tTwiceG:TF:=fun args=>match args with
 | [.agg [.ints .i64 40 p]]=>some (gdP p,gpt (lf (ptDblG p)))
 | _=>none
theorem zfO {f:FuncId} {l:List AV} {k:IntKind} {n:Nat} {s s':Nat→Int} {r:AV} (h:eqN n s s'=true) (hP:Pure prog f (.agg [.ints k n s']::l) r):Pure prog f (.agg [.ints k n s]::l) r:=by
 intro pr w vs ha hlt
 refine hP pr w vs ⟨by simpa using ha.1,fun j x v e1 e2=>?_⟩ hlt
 cases j with
 | zero =>
  simp only [List.getElem?_cons_zero,Option.some.injEq] at e1
  subst e1
  exact zsp h (ha.2 0 _ v rfl e2)
 | succ j=>exact ha.2 (j+1) x v (by simpa using e1) e2
theorem zxX:TRow prog F_rimeref04_Curve_Sum tSumG:=by
 intro args r h
 unfold tSumG at h
 split at h
 case h_2=>simp at h
 rename_i c p q
 simp only [Option.some.injEq,Prod.mk.injEq,Bool.and_eq_true] at h
 obtain ⟨⟨hc,hp,hq⟩,rfl⟩:=h
 refine zfO hc (zab GX8 at_rimeref04_Curve_Sum zxc (N:=5) (gs:=[]) ?_)
 have e:=both (ztn p q) (zyi p q)
 rw [(zcO hp hq).2.2] at e
 exact e
theorem zsa:TRow prog F_rimeref04_Twice tTwiceG:=by
 intro args r h
 unfold tTwiceG at h
 split at h
 case h_2=>simp at h
 rename_i p
 simp only [Option.some.injEq,Prod.mk.injEq] at h
 obtain ⟨hp,rfl⟩:=h
 refine zab GX8 at_rimeref04_Twice zq6 (N:=5) (gs:=[]) ?_
 have e:=both (znK p) (zpC p)
 rw [(zdM hp).2.2] at e
 exact e
noncomputable def gx9:List (Nat × TF):=(F_rimeref04_Twice,tTwiceG)::(F_rimeref04_Curve_Sum,tSumG)::(F_rimeref04_Made,tMadeG)::gx8
theorem GX9:LibOK prog tt gx9 []:=((GX8.addT zuR).addT zxX).addT zsa
end Go.Proofs.YtplaklpfeabhiaaGreat
namespace Go.Proofs.YtplaklpfeabhiaaGreat
open Go.Proofs.Tryz
open Go Go.AM
theorem zgF:gdP (lf idGL)=true∧vG (lf idGL)=idS4:=by decide
def tbG (p:Nat→Int):Nat→List Int
 | 0=>idGL
 | j+1=>ptAddG (lf (tbG p j)) p
theorem zib {p:Nat→Int} (h:gdP p=true):∀ j,gdP (lf (tbG p j))=true
 | 0=>zgF.1
 | j+1=>(zcO (zib h j) h).1
theorem zpo {p:Nat→Int} (h:gdP p=true):∀ j,vG (lf (tbG p j))=tbS (vG p) j
 | 0=>zgF.2
 | j+1=>by
  show vG (lf (ptAddG (lf (tbG p j)) p))=_
  rw [(zcO (zib h j) h).2.1,zpo h j];rfl
noncomputable abbrev tgE:EnvP:=envP tt gx9 []
noncomputable def tg0B:Code:=match f_rimeref04_Curve_Many.body with | some c=>(match bodiesOf 0 c with | [.loop b]=>b | _=>.skip) | none=>.skip
noncomputable def tg2B:Code:=match f_rimeref04_Curve_Many.body with | some c=>(match bodiesOf 2 c with | [.loop b]=>b | _=>.skip) | none=>.skip
def tg0H (c s p T:Nat→Int):Heap:=[some (.ints .i64 60 1 (fun _ d=>c d)),some (.ints .u8 32 1 (fun _ d=>s d)),some (.ints .i64 40 1 (fun _ d=>p d)),some (.ints .i64 40 1 (fun _ _=>0)),some (.ints .i64 640 1 (fun _ d=>T d))]
def tg0S (c s p:Nat→Int) (v:Int) (T:Nat→Int):St:=⟨tmOf [(3,.sc (.ptr 0 60 0 0 60)),(4,.sc (.ptr 1 32 0 0 32)),(5,.sc (.ptr 2 40 0 0 40)),(6,.sc (.ptr 3 40 0 0 40)),(7,.sc (.ptr 4 640 0 0 640)),(8,.sc (.int .i64 v))] 56 0,tg0H c s p T⟩
def tg0T (c s p T:Nat→Int):St:=⟨tmOf [(3,.sc (.ptr 0 60 0 0 60)),(4,.sc (.ptr 1 32 0 0 32)),(5,.sc (.ptr 2 40 0 0 40)),(6,.sc (.ptr 3 40 0 0 40)),(7,.sc (.ptr 4 640 0 0 640))] 56 0,tg0H c s p T⟩
def put40 (T g:Nat→Int) (c:Nat):Nat→Int:=fun d=>bif Nat.ble c d&&Nat.ble (d+1) (c+40) then g (d - c) else T d
def tgG (p T:Nat→Int) (v:Int):List Int:=ptAddG (fun j=>T (j+(0+(wr .i64 (v - 1)).toNat*40))) p
def cOK (c:Nat→Int):Bool:=eqN 60 c (lf mdL)
theorem zoN (c s p:Nat→Int) (v v':Int) (T T':Nat→Int):roundR tgE [(15,true)] 5 5 [] tg0B (tg0S c s p v T) .normal (tg0S c s p v' T') =
  some (ckL [decide (v<16)==true,inR (wr .i64 (v - 1)) 16,cOK c&&((gdP fun j=>T (j+(0+(wr .i64 (v - 1)).toNat*40)))&&gdP p),inR v 16]&&stR (rnm 5 []) (tg0S c s p (wr .i64 (v+1)) (put40 T (lf (tgG p T v)) (0+v.toNat*40))) (tg0S c s p v' T')):=by kernel_rfl
theorem zpN (c s p:Nat→Int) (v:Int) (T T':Nat→Int):roundR tgE [(15,false)] 5 5 [] tg0B (tg0S c s p v T) (.exit 0) (tg0T c s p T') =
  some (ckL [decide (v<16)==false]&&stR (rnm 5 []) (tg0T c s p T) (tg0T c s p T')):=by kernel_rfl
def tbGF (p:Nat→Int) (k:Nat):Nat→Int:=fun d=>bif Nat.ble (d+1) (40*(k+1)) then lf (tbG p (d / 40)) (d % 40) else 0
theorem zfB {p:Nat→Int} {k d:Nat} (h:d<40*(k+1)):tbGF p k d=lf (tbG p (d / 40)) (d % 40):=by
 unfold tbGF;rw [Nat.ble_eq_true_of_le h];rfl
theorem zjw {p:Nat→Int} {k d:Nat} (h:40*(k+1)≤d):tbGF p k d=0:=by
 unfold tbGF;rw [zem (by omega)];rfl
theorem zoJ {p q:Nat→Int} (h:∀ d,d<40→p d=q d):gX p=gX q∧gY p=gY q∧gZ p=gZ q∧zav p=zav q:=by
 refine ⟨?_,?_,?_,?_⟩
 ·unfold gX;rw [h 0 (by omega),h 1 (by omega),h 2 (by omega),h 3 (by omega),h 4 (by omega),h 5 (by omega),h 6 (by omega),h 7 (by omega),h 8 (by omega),h 9 (by omega)]
 ·unfold gY;rw [h 10 (by omega),h 11 (by omega),h 12 (by omega),h 13 (by omega),h 14 (by omega),h 15 (by omega),h 16 (by omega),h 17 (by omega),h 18 (by omega),h 19 (by omega)]
 ·unfold gZ;rw [h 20 (by omega),h 21 (by omega),h 22 (by omega),h 23 (by omega),h 24 (by omega),h 25 (by omega),h 26 (by omega),h 27 (by omega),h 28 (by omega),h 29 (by omega)]
 ·unfold zav;rw [h 30 (by omega),h 31 (by omega),h 32 (by omega),h 33 (by omega),h 34 (by omega),h 35 (by omega),h 36 (by omega),h 37 (by omega),h 38 (by omega),h 39 (by omega)]
theorem zd1 {p q p' q':Nat→Int} (h:∀ d,d<40→p d=p' d) (h':∀ d,d<40→q d=q' d):ptAddG p q=ptAddG p' q':=by
 obtain ⟨e1,e2,e3,e4⟩:=zoJ h
 obtain ⟨f1,f2,f3,f4⟩:=zoJ h'
 unfold ptAddG
 rw [e1,e2,e3,e4,f1,f2,f3,f4]
theorem zju {p p':Nat→Int} (h:∀ d,d<40→p d=p' d):gdP p=gdP p':=by
 obtain ⟨e1,e2,e3,e4⟩:=zoJ h
 unfold gdP
 rw [e1,e2,e3,e4]
theorem zsI {p:Nat→Int} {k j:Nat} (hj:j≤k):∀ d,d<40→tbGF p k (40*j+d)=lf (tbG p j) d:=fun d hd=>by
 rw [zfB (by omega),show (40*j+d) / 40=j by omega,show (40*j+d) % 40=d by omega]
theorem zk6 {c s p:Nat→Int} {v v':Int} {T T':Nat→Int} (hv:v=v') (h:∀ d,d<640→T d=T' d):stR (rnm 5 []) (tg0S c s p v T) (tg0S c s p v' T')=true:=by
 subst hv
 have e:eqF 1 640 (fun _ d=>T d) (fun _ d=>T' d)=true:=zaK fun r _ d hd=>h d hd
 simp [stR,tg0S,tg0H,tmOf,tmR,avR,svR,rIs,rnm,zaj,zam,hpR,blkR,ndR,e]
 decide
theorem zpn {c s p:Nat→Int} {T T':Nat→Int} (h:∀ d,d<640→T d=T' d):stR (rnm 5 []) (tg0T c s p T) (tg0T c s p T')=true:=by
 have e:eqF 1 640 (fun _ d=>T d) (fun _ d=>T' d)=true:=zaK fun r _ d hd=>h d hd
 simp [stR,tg0T,tg0H,tmOf,tmR,avR,svR,rIs,rnm,zaj,zam,hpR,blkR,ndR,e]
 decide
def tg0W (c s p:Nat→Int) (k:Nat):St:=tg0S c s p ((k:Int)+1) (tbGF p k)
def tg0F (c s p:Nat→Int):LF:=famA 5 [] (tg0W c s p 0) (cOK c&&gdP p) .normal (tg0T c s p (tbGF p 15))
theorem zpI:f_rimeref04_Curve_Many.body.map (bodiesOf 0)=some [.loop tg0B]:=by kernel_rfl
theorem zyW:codeOK prog tgE.env.isW tg0B=true:=by kernel_rfl
theorem l_tg0 (c s p:Nat→Int):LRow prog f_rimeref04_Curve_Many 0 (tg0F c s p):=by
 refine LRow.famA (N:=5) (S:=tg0W c s p) (GX9.env []) mix 15 (za2 zpI) zyW (fun w0 own0=>zat (fun id=>rfl) tg0B) (fun _ _=>Nat.le_refl _) (Nat.le_refl _) fun hck=>?_
 obtain ⟨hc,hp⟩:=and_t.1 hck
 refine ⟨fun k hk=>?_,?_⟩
 ·refine zal (zoN c s p ((k:Int)+1) (((k+1:Nat):Int)+1) (tbGF p k) (tbGF p (k+1))) ?_
  have e0:wr .i64 ((k:Int)+1 - 1)=(k:Int):=(zbn (by omega) (by omega)).trans (by omega)
  have e1:wr .i64 ((k:Int)+1+1)=((k+1:Nat):Int)+1:=(zbn (by omega) (by omega)).trans (by omega)
  have hrow:∀ d,d<40→tbGF p k (d+(0+(k:Int).toNat*40))=lf (tbG p k) d:=fun d hd=>by
   rw [show d+(0+(k:Int).toNat*40)=40*k+d by omega];exact zsI (Nat.le_refl k) d hd
  have hp0:∀ d,d<40→p d=p d:=fun d _=>rfl
  refine and_t.2 ⟨?_,zk6 e1 fun d hd=>?_⟩
  ·have i1:inR ((k:Int)+1) 16=true:=zaM (show k+1<16 by omega)
   rw [e0,zju hrow,zib hp k,hp,hc,i1,zaM (show k<16 by omega),decide_eq_true (show (k:Int)+1<16 by omega)]
   rfl
  ·have eA:0+((k:Int)+1).toNat*40=40*(k+1):=by omega
   have eG:tgG p (tbGF p k) ((k:Int)+1)=tbG p (k+1):=by
    unfold tgG
    rw [e0]
    exact zd1 hrow hp0
   unfold put40
   rw [eA,eG]
   by_cases h1:d<40*(k+1)
   ·rw [zem (by omega),zfB h1,zfB (k:=k+1) (by omega)];rfl
   ·rw [Nat.ble_eq_true_of_le (by omega)]
    by_cases h2:d<40*(k+1)+40
    ·rw [Nat.ble_eq_true_of_le h2,zfB (k:=k+1) (by omega),show d / 40=k+1 by omega,show d % 40=d - 40*(k+1) by omega];rfl
    ·rw [zem (a:=d+1) (by omega),zjw (k:=k) (by omega),zjw (k:=k+1) (by omega)];rfl
 ·obtain ⟨s1,r,q1,q2,q3⟩:=zal (n:=5) (zpN c s p 16 (tbGF p 15) (tbGF p 15)) (and_t.2 ⟨rfl,zpn fun _ _=>rfl⟩)
  exact ⟨_,s1,r,q1,rfl,q2,q3⟩
def tg2H (c s T x:Nat→Int):Heap:=[some (.ints .i64 60 1 (fun _ d=>c d)),some (.ints .u8 32 1 (fun _ d=>s d)),none,some (.ints .i64 40 1 (fun _ _=>0)),some (.ints .i64 640 1 (fun _ d=>T d)),some (.ints .i64 40 1 (fun _ d=>x d))]
def tg2S (c s T:Nat→Int) (v:Int) (x:Nat→Int):St:=⟨tmOf [(3,.sc (.ptr 0 60 0 0 60)),(4,.sc (.ptr 1 32 0 0 32)),(6,.sc (.ptr 3 40 0 0 40)),(7,.sc (.ptr 4 640 0 0 640)),(9,.sc (.ptr 5 40 0 0 40)),(10,.sc (.int .i64 v))] 56 0,tg2H c s T x⟩
def tg2T (x:Nat→Int):St:=⟨tmOf [(6,.sc (.ptr 3 40 0 0 40)),(9,.sc (.ptr 5 40 0 0 40))] 56 0,[none,none,none,some (.ints .i64 40 1 (fun _ _=>0)),none,some (.ints .i64 40 1 (fun _ d=>x d))]⟩
def dbG (x:Nat→Int):Nat→Nat→Int
 | 0=>x
 | k+1=>lf (ptDblG (dbG x k))
def nbG (s:Nat→Int) (v:Int):Int:=iand .u8 (ishr .u8 (s (0+(wr .i64 (v.tdiv 2)).toNat*1)) (wr .u64 (wr .i64 (4*v.tmod 2)))) 15
def tg2Ck (s x:Nat→Int) (v:Int):List Bool:=[decide (v ≥ 0)==true,gdP (dbG x 0),gdP (dbG x 1),gdP (dbG x 2),gdP (dbG x 3),inR (wr .i64 (v.tdiv 2)) 32,!decide (wr .u64 (wr .i64 (4*v.tmod 2))<0)]
theorem zl5 (c s T:Nat→Int) (v v':Int) (x x':Nat→Int):roundR tgE [(29,true),(48,false)] 5 6 [] tg2B (tg2S c s T v x) .normal (tg2S c s T v' x') =
  some (ckL (tg2Ck s x v++[decide (nbG s v > 0)==false])&&stR (rnm 6 []) (tg2S c s T (wr .i64 (v - 1)) (dbG x 4)) (tg2S c s T v' x')):=by kernel_rfl
theorem zlM (c s T:Nat→Int) (v v':Int) (x x':Nat→Int):roundR tgE [(29,true),(48,true)] 5 6 [] tg2B (tg2S c s T v x) .normal (tg2S c s T v' x') =
  some (ckL (tg2Ck s x v++[decide (nbG s v > 0)==true,inR (nbG s v) 16,cOK c&&(gdP (dbG x 4)&&gdP (fun j=>T (j+(0+(nbG s v).toNat*40))))])&&stR (rnm 6 []) (tg2S c s T (wr .i64 (v - 1)) (lf (ptAddG (dbG x 4) (fun j=>T (j+(0+(nbG s v).toNat*40)))))) (tg2S c s T v' x')):=by kernel_rfl
theorem zqD (c s T:Nat→Int) (v:Int) (x x':Nat→Int):roundR tgE [(29,false)] 5 6 [] tg2B (tg2S c s T v x) (.exit 2) (tg2T x') =
  some (ckL [decide (v ≥ 0)==false]&&stR (rnm 6 []) (tg2T x) (tg2T x')):=by kernel_rfl
def mnG (p s:Nat→Int):Nat→List Int
 | 0=>idGL
 | k+1=>bif decide (nib s (63 - k) > 0) then ptAddG (dbG (lf (mnG p s k)) 4) (lf (tbG p (nib s (63 - k)).toNat)) else ptDblG (dbG (lf (mnG p s k)) 3)
theorem zck {x:Nat→Int} (h:gdP x=true):∀ k,gdP (dbG x k)=true
 | 0=>h
 | k+1=>(zdM (zck h k)).1
theorem dbG_v {x:Nat→Int} (h:gdP x=true) (k:Nat):vG (dbG x (k+1))=dblS (vG (dbG x k)):=(zdM (zck h k)).2.1
theorem zi9 {p:Nat→Int} (hp:gdP p=true) (s:Nat→Int):∀ k,gdP (lf (mnG p s k))=true∧vG (lf (mnG p s k))=tmSp (vG p) s k
 | 0=>zgF
 | k+1=>by
  obtain ⟨h1,h2⟩:=zi9 hp s k
  have e4:vG (dbG (lf (mnG p s k)) 4)=dblS (dblS (dblS (dblS (tmSp (vG p) s k)))):=by
   rw [dbG_v h1,dbG_v h1,dbG_v h1,dbG_v h1]
   show dblS (dblS (dblS (dblS (vG (lf (mnG p s k))))))=_
   rw [h2]
  unfold mnG tmSp
  cases decide (nib s (63 - k) > 0) with
  | true =>
   obtain ⟨q1,q2⟩:=zcO (zck h1 4) (zib hp (nib s (63 - k)).toNat)
   exact ⟨q1,by show vG (lf (ptAddG _ _))=_;rw [q2.1,e4,zpo hp];rfl⟩
  | false=>exact ⟨zck h1 4,e4⟩
theorem zzl {x:Int} (h0:0≤x) (h1:x<2 ^ 64):wr .u64 x=x:=by
 rw [wr64];omega
theorem zvE {s:Nat→Int} (hs:areB s 32 0=true) {i:Nat} (hi:i<64):nbG s (i:Int)=nib s i∧inR (wr .i64 ((i:Int).tdiv 2)) 32=true∧(!decide (wr .u64 (wr .i64 (4*(i:Int).tmod 2))<0))=true∧0≤nib s i∧nib s i<16:=by
 obtain ⟨n1,n2,n3,n4,n5⟩:=zph hs hi
 have e2:(i:Int).tmod 2=((i % 2:Nat):Int):=by rw [Int.tmod_eq_emod_of_nonneg (by omega)];omega
 have e4:wr .i64 (4*((i % 2:Nat):Int))=((4*(i % 2):Nat):Int):=(zbn (by omega) (by omega)).trans (by omega)
 have e5:wr .u64 (wr .i64 (4*(i:Int).tmod 2))=wr .i64 (4*(i:Int).tmod 2):=by
  rw [e2,e4];exact zzl (by omega) (by omega)
 refine ⟨?_,n2,?_,n4,n5⟩
 ·unfold nbG;rw [e5];exact n1
 ·rw [e5];exact n3
theorem zgX {c s T:Nat→Int} {v v':Int} {x x':Nat→Int} (hv:v=v') (h:∀ d,d<40→x d=x' d):stR (rnm 6 []) (tg2S c s T v x) (tg2S c s T v' x')=true:=by
 subst hv
 have e:eqF 1 40 (fun _ d=>x d) (fun _ d=>x' d)=true:=zaK fun r _ d hd=>h d hd
 simp [stR,tg2S,tg2H,tmOf,tmR,avR,svR,rIs,rnm,zaj,zam,hpR,blkR,ndR,e]
 decide
theorem zpd {x x':Nat→Int} (h:∀ d,d<40→x d=x' d):stR (rnm 6 []) (tg2T x) (tg2T x')=true:=by
 have e:eqF 1 40 (fun _ d=>x d) (fun _ d=>x' d)=true:=zaK fun r _ d hd=>h d hd
 simp [stR,tg2T,tmOf,tmR,avR,svR,rIs,rnm,zaj,zam,hpR,blkR,ndR,e]
 decide
def tg2W (c p s:Nat→Int) (k:Nat):St:=tg2S c s (tbGF p 15) (63 - (k:Int)) (lf (mnG p s k))
def tg2F (c p s:Nat→Int):LF:=famA 6 [] (tg2W c p s 0) (cOK c&&(gdP p&&areB s 32 0)) .normal (tg2T (lf (mnG p s 64)))
theorem zqF:f_rimeref04_Curve_Many.body.map (bodiesOf 2)=some [.loop tg2B]:=by kernel_rfl
theorem zxp:codeOK prog tgE.env.isW tg2B=true:=by kernel_rfl
theorem l_tg2 (c p s:Nat→Int):LRow prog f_rimeref04_Curve_Many 2 (tg2F c p s):=by
 refine LRow.famA (N:=5) (S:=tg2W c p s) (GX9.env []) mix 64 (za2 zqF) zxp (fun w0 own0=>zat (fun id=>rfl) tg2B) (fun _ _=>Nat.le_refl _) (Nat.le_refl _) fun hck=>?_
 obtain ⟨hc,hck⟩:=and_t.1 hck
 obtain ⟨hp,hs⟩:=and_t.1 hck
 refine ⟨fun k hk=>?_,?_⟩
 ·have hv:(63 - (k:Int))=((63 - k:Nat):Int):=by omega
  obtain ⟨n1,n2,n3,n4,n5⟩:=zvE hs (i:=63 - k) (by omega)
  have hx:=(zi9 hp s k).1
  have e1:wr .i64 (63 - (k:Int) - 1)=63 - ((k+1:Nat):Int):=(zbn (by omega) (by omega)).trans (by omega)
  have hck:∀ l,ckL (tg2Ck s (lf (mnG p s k)) (63 - (k:Int))++l)=ckL l:=fun l=>by
   unfold tg2Ck
   rw [hv,n2,n3,zck hx 0,zck hx 1,zck hx 2,zck hx 3,decide_eq_true (show ((63 - k:Nat):Int) ≥ 0 by omega)]
   rfl
  cases hn:decide (nib s (63 - k) > 0) with
  | false =>
   refine zal (zl5 c s (tbGF p 15) (63 - (k:Int)) (63 - ((k+1:Nat):Int)) (lf (mnG p s k)) (lf (mnG p s (k+1)))) ?_
   refine and_t.2 ⟨?_,zgX e1 fun d _=>?_⟩
   ·rw [hck,hv,n1,hn];rfl
   ·show _=lf (bif decide (nib s (63 - k) > 0) then _ else _) d
    rw [hn];rfl
  | true =>
   have hrow:∀ d,d<40→tbGF p 15 (d+(0+(nib s (63 - k)).toNat*40))=lf (tbG p (nib s (63 - k)).toNat) d:=fun d hd=>by
    rw [show d+(0+(nib s (63 - k)).toNat*40)=40*(nib s (63 - k)).toNat+d by omega];exact zsI (by omega) d hd
   refine zal (zlM c s (tbGF p 15) (63 - (k:Int)) (63 - ((k+1:Nat):Int)) (lf (mnG p s k)) (lf (mnG p s (k+1)))) ?_
   refine and_t.2 ⟨?_,zgX e1 fun d _=>?_⟩
   ·rw [hck,hv,n1,hn,zck hx 4,zju hrow,zib hp _,hc]
    have:inR (nib s (63 - k)) 16=true:=by simp [inR];omega
    rw [this];rfl
   ·show _=lf (bif decide (nib s (63 - k) > 0) then _ else _) d
    rw [hn,hv,n1]
    show lf (ptAddG _ _) d=lf (ptAddG _ _) d
    rw [zd1 (p:=dbG (lf (mnG p s k)) 4) (fun _ _=>rfl) hrow]
 ·obtain ⟨s1,r,q1,q2,q3⟩:=zal (n:=6) (zqD c s (tbGF p 15) (-1) (lf (mnG p s 64)) (lf (mnG p s 64))) (and_t.2 ⟨rfl,zpd fun _ _=>rfl⟩)
  exact ⟨_,s1,r,q1,rfl,q2,q3⟩
noncomputable abbrev tgL (c p s:Nat→Int):EnvP:=envL tt gx9 [] [(2,tg2F c p s),(0,tg0F c s p)]
theorem zuu (c p s:Nat→Int):fnChk prog (tgL c p s) f_rimeref04_Curve_Many=true:=by kernel_rfl
def r40 (l:List Int):List Int:=tabL (lf l) 40 0
theorem zvF (c p s:Nat→Int):outP (apFunc (tgL c p s) [] 5 f_rimeref04_Curve_Many [crv c,u8s 32 s,gpt p] []) =
  some (ckL [(cOK c&&gdP p)&&stR (rnm 5 []) (tg0S c s p 1 (put40 (fun _=>0) (lf idGL) 0)) (tg0W c s p 0),(cOK c&&(gdP p&&areB s 32 0))&&stR (rnm 6 []) (tg2S c s (tbGF p 15) 63 (lf idGL)) (tg2W c p s 0)],gpt (lf (r40 (mnG p s 64)))):=by kernel_rfl
theorem zoy {p p':Nat→Int} (h:∀ d,d<40→p d=p' d):∀ j,tbG p j=tbG p' j
 | 0=>rfl
 | j+1=>by
  show ptAddG (lf (tbG p j)) p=ptAddG (lf (tbG p' j)) p'
  rw [zoy h j]
  exact zd1 (fun _ _=>rfl) h
theorem zi7 {p p' s s':Nat→Int} (h:∀ d,d<40→p d=p' d) (h':∀ d,d<32→s d=s' d):∀ k,mnG p s k=mnG p' s' k
 | 0=>rfl
 | k+1=>by
  unfold mnG
  rw [zi7 h h' k,zi4 h' (i:=63 - k) (by omega),zoy h]
def n40 (p:Nat→Int):Nat→Int:=lf (tabL p 40 0)
theorem zsE (p:Nat→Int) (d:Nat) (h:d<40):p d=n40 p d:=by
 have:=zcF p 40 0 d h
 rw [Nat.zero_add] at this
 exact this.symm
def tManyG:TF:=fun args=>match args with
 | [.agg [.ints .i64 60 c],.agg [.ints .u8 32 s],.agg [.ints .i64 40 p]]=>some (eqN 60 c (lf mdL)&&(gdP p&&areB s 32 0),gpt (lf (r40 (mnG (n40 p) (n32 s) 64))))
 | _=>none
theorem zty:TRow prog F_rimeref04_Curve_Many tManyG:=by
 intro args r h
 unfold tManyG at h
 split at h
 case h_2=>simp at h
 rename_i c s p
 simp only [Option.some.injEq,Prod.mk.injEq] at h
 obtain ⟨hc,rfl⟩:=h
 obtain ⟨hc,hck⟩:=and_t.1 hc
 obtain ⟨hp,hs⟩:=and_t.1 hck
 rw [← zi7 (zsE p) (zkW s)]
 refine zfO hc ?_
 refine zad GX9 at_rimeref04_Curve_Many ((LsOK.nil.cons (l_tg0 (lf mdL) s p)).cons (l_tg2 (lf mdL) p s)) (zuu (lf mdL) p s) (N:=5) (gs:=[]) ?_
 have e:=zvF (lf mdL) p s
 have h0:stR (rnm 5 []) (tg0S (lf mdL) s p 1 (put40 (fun _=>0) (lf idGL) 0)) (tg0W (lf mdL) s p 0)=true:=zk6 rfl fun d hd=>by
  unfold put40
  by_cases h:d<40
  ·rw [Nat.ble_eq_true_of_le (Nat.zero_le d),Nat.ble_eq_true_of_le (show d+1≤0+40 by omega),zfB (k:=0) (by omega),show d / 40=0 by omega,show d % 40=d by omega];rfl
  ·rw [zem (a:=d+1) (by omega),zjw (k:=0) (by omega),Bool.and_false];rfl
 have hk:cOK (lf mdL)=true:=by decide +kernel
 rw [hp,hs,hk,h0,show stR (rnm 6 []) (tg2S (lf mdL) s (tbGF p 15) 63 (lf idGL)) (tg2W (lf mdL) p s 0)=true from zgX rfl fun _ _=>rfl] at e
 exact e
theorem zyI {p s:Nat→Int} (hp:gdP p=true):gdP (lf (r40 (mnG (n40 p) (n32 s) 64)))=true∧vG (lf (r40 (mnG (n40 p) (n32 s) 64)))=tmSp (vG p) s 64:=by
 rw [← zi7 (zsE p) (zkW s)]
 exact zi9 hp s 64
noncomputable def gx10:List (Nat × TF):=(F_rimeref04_Curve_Many,tManyG)::gx9
theorem GX10:LibOK prog tt gx10 []:=GX9.addT zty
end Go.Proofs.YtplaklpfeabhiaaGreat
namespace Go.Proofs.YtplaklpfeabhiaaGreat
open Go.Proofs.Tryz
open Go Go.AM
def xzG (p:Nat→Int):List Int:=tG (gX p) (invG (gZ p))
def yzG (p:Nat→Int):List Int:=tG (gY p) (invG (gZ p))
def tXYG:TF:=fun args=>match args with
 | [.agg [.ints .i64 40 p]]=>some (gdP p,.tup [u10 (lf (xzG p)),u10 (lf (yzG p))])
 | _=>none
theorem c_xyG:fnChk prog (envP tt gx10 []) f_rimeref04_XY=true:=by kernel_rfl
set_option maxRecDepth 100000 in
theorem k_xyG (p:Nat→Int):outP (apFunc (envP tt gx10 []) [] 5 f_rimeref04_XY [gpt p] [])=some (ckL [gd10 (gZ p),gM (gX p) (invG (gZ p)),gM (gY p) (invG (gZ p))],.tup [u10 (lf (xzG p)),u10 (lf (yzG p))]):=by kernel_rfl
theorem r_xyG:TRow prog F_rimeref04_XY tXYG:=by
 intro args r h
 unfold tXYG at h
 split at h
 case h_2=>simp at h
 rename_i p
 simp only [Option.some.injEq,Prod.mk.injEq] at h
 obtain ⟨hp,rfl⟩:=h
 obtain ⟨h1,h2,h3,h4⟩:=gdP_t.1 hp
 refine zab GX10 at_rimeref04_XY c_xyG (N:=5) (gs:=[]) ?_
 have e:=k_xyG p
 rw [h3,gM_t h1 (zgs h3).1,gM_t h2 (zgs h3).1] at e
 exact e
noncomputable def gx11:List (Nat × TF):=(F_rimeref04_XY,tXYG)::gx10
theorem GX11:LibOK prog tt gx11 []:=GX10.addT r_xyG
theorem ztJ {p:Nat→Int} (h:gdP p=true):gd10 (xzG p)=true∧gd10 (yzG p)=true∧gm (xzG p)=mM (vG p).1 (invM (vG p).2.2.1)∧gm (yzG p)=mM (vG p).2.1 (invM (vG p).2.2.1):=by
 obtain ⟨h1,h2,h3,h4⟩:=gdP_t.1 h
 obtain ⟨i1,i2⟩:=zgs h3
 refine ⟨tG_gd h1 i1,tG_gd h2 i1,?_,?_⟩
 ·show gm (tG (gX p) (invG (gZ p)))=_
  rw [tG_gm h1 i1,i2];rfl
 ·show gm (tG (gY p) (invG (gZ p)))=_
  rw [tG_gm h2 i1,i2];rfl
def topG (X Y:List Int) (j:Nat):Int:=bif Nat.beq j 31 then ior .u8 (lf Y 31) (ishl .u8 (iand .u8 (lf X 0) 1) 7) else lf Y j
theorem zuZ:fnChk prog (envP tt gx11 []) f_rimeref04_Form=true:=by kernel_rfl
set_option maxRecDepth 100000 in
theorem ztl (p:Nat→Int):outP (apFunc (envP tt gx11 []) [] 5 f_rimeref04_Form [gpt p] []) =
  some (ckL [gdP (fun j=>p (0+j)),gd10 (q10 (yzG p)),gd10 (q10 (xzG p))],u8s 32 (lf (tabL (topG (byL 32 (gm (q10 (xzG p)))) (byL 32 (gm (q10 (yzG p))))) 32 0))):=by kernel_rfl
theorem zpm {x:Int}:ishl .u8 (iand .u8 (x % 256) 1) 7=bif decide (x % 2=1) then 128 else 0:=by
 have key:∀ n:Nat,n<256→ishl .u8 (iand .u8 (n:Int) 1) 7=bif decide ((n:Int) % 2=1) then 128 else 0:=by decide +kernel
 have:=key (x % 256).toNat (by omega)
 rw [Int.toNat_of_nonneg (by omega),show x % 256 % 2=x % 2 by omega] at this
 exact this
theorem zvJ {x:Int} (h:0≤x∧x<256):ior .u8 x 0=x:=by
 have key:∀ n:Nat,n<256→ior .u8 (n:Int) 0=(n:Int):=by decide +kernel
 have:=key x.toNat (by omega)
 rwa [Int.toNat_of_nonneg h.1] at this
theorem zpU {x y:Int} (h0:0≤y) (h1:y<57896044618658097711785492504343953926634992332820282019728792003956564819968):tabL (topG (byL 32 x) (byL 32 y)) 32 0=byL 32 (y+x % 2*57896044618658097711785492504343953926634992332820282019728792003956564819968):=by
 have e0:lf (byL 32 x) 0=x % 256:=by rw [zhD 32 x 0 (by omega)];simp
 have ex:x % 2=0 ∨ x % 2=1:=by omega
 rcases ex with q | q
 ·have:∀ c,c<32→topG (byL 32 x) (byL 32 y) (0+c)=lf (byL 32 y) (0+c):=fun c _=>by
   unfold topG
   rw [e0,zpm,q]
   cases hb:Nat.beq (0+c) 31 with
   | false=>rfl
   | true =>
    have:=Nat.eq_of_beq_eq_true hb
    rw [this]
    have hr:0≤lf (byL 32 y) 31∧lf (byL 32 y) 31<256:=by rw [zhD 32 y 31 (by omega)];omega
    exact zvJ hr
  rw [zdc 32 0 this,q,Int.zero_mul,Int.add_zero]
  rfl
 ·have:∀ c,c<32→topG (byL 32 x) (byL 32 y) (0+c)=top128 (byL 32 y) (0+c):=fun c _=>by
   unfold topG top128
   rw [e0,zpm,q];rfl
  rw [zdc 32 0 this,q,Int.one_mul,zmK h0 h1]
def tFormG:TF:=fun args=>match args with
 | [.agg [.ints .i64 40 p]]=>some (gdP p,b32 (formS (vG p)))
 | _=>none
theorem ztm:TRow prog F_rimeref04_Form tFormG:=by
 intro args r h
 unfold tFormG at h
 split at h
 case h_2=>simp at h
 rename_i p
 simp only [Option.some.injEq,Prod.mk.injEq] at h
 obtain ⟨hp,rfl⟩:=h
 obtain ⟨x1,x2,x3,x4⟩:=ztJ hp
 refine zab GX11 at_rimeref04_Form zuZ (N:=5) (gs:=[]) ?_
 have e:=ztl p
 have hr:=zkg (yzG p)
 have hpP:pP<57896044618658097711785492504343953926634992332820282019728792003956564819968:=by decide
 rw [zm0,zm0,znf,znf,x1,x2,zpU hr.1 (Int.lt_trans hr.2 hpP),x3,x4] at e
 have hp0:gdP (fun j=>p (0+j))=true:=(zju fun d _=>by rw [Nat.zero_add]).trans hp
 rw [hp0] at e
 exact e
noncomputable def gx12:List (Nat × TF):=(F_rimeref04_Form,tFormG)::gx11
theorem GX12:LibOK prog tt gx12 []:=GX11.addT ztm
end Go.Proofs.YtplaklpfeabhiaaGreat
namespace Go.Proofs.YtplaklpfeabhiaaGreat
open Go.Proofs.Tryz
open Go Go.AM
noncomputable def gx13:List (Nat × TF):=gx12
theorem GX13:LibOK prog tt gx13 []:=GX12
end Go.Proofs.YtplaklpfeabhiaaGreat
namespace Go.Proofs.YtplaklpfeabhiaaGreat
open Go.Proofs.Tryz
open Go Go.AM
set_option maxRecDepth 20000 in
theorem znv:gdP (lf baGL)=true∧vG (lf baGL)=baseS:=by decide +kernel
theorem zmq:fnChk prog (envP tt gx13 []) f_rimeref04_MulBase=true:=by kernel_rfl
theorem zlB (s:Nat→Int):outP (apFunc (envP tt gx13 []) [] 5 f_rimeref04_MulBase [u8s 32 s] [])=some (ckL [areB (ld0 s) 32 0,gdP (lf (r40 (mnG (n40 (lf baGL)) (n32 s) 64)))],b32 (formS (vG (lf (r40 (mnG (n40 (lf baGL)) (n32 s) 64)))))):=by kernel_rfl
theorem zf5:TRow prog F_rimeref04_MulBase tMulBase:=by
 intro args r h
 unfold tMulBase at h
 split at h
 case h_2=>simp at h
 rename_i s
 simp only [Option.some.injEq,Prod.mk.injEq] at h
 obtain ⟨hs,rfl⟩:=h
 refine zab GX13 at_rimeref04_MulBase zmq (N:=5) (gs:=[]) ?_
 obtain ⟨h3,h4⟩:=zyI (s:=s) znv.1
 have e:=zlB s
 rw [za1,hs,h3,h4,znv.2,zjB hs] at e
 exact e
end Go.Proofs.YtplaklpfeabhiaaGreat
namespace Go.Proofs.YtplaklpfeabhiaaGreat
open Go.Proofs.Tryz
open Go Go.AM
theorem zcN (q:Q4):0≤formS q∧formS q<R256:=by
 have h1:0≤mM q.2.1 (invM q.2.2.1)∧mM q.2.1 (invM q.2.2.1)<pP:=⟨Int.emod_nonneg _ (by decide),Int.emod_lt_of_pos _ zd9⟩
 unfold formS
 unfold pP at h1
 unfold R256
 generalize mM q.2.1 (invM q.2.2.1)=y at *
 generalize mM q.1 (invM q.2.2.1)=x
 omega
end Go.Proofs.YtplaklpfeabhiaaGreat
namespace Go.Proofs.YtplaklpfeabhiaaGreat
open Go.Proofs.Tryz
open Go Go.AM
theorem zub {u v:Int} (h:Nat.ble (rootM u v) 1=true):rootOk u v (rootX u v (rootM u v))=true:=by
 unfold rootM at h ⊢
 cases h0:rootOk u v (rootX u v 0) with
 | true=>exact h0
 | false =>
  rw [h0] at h
  cases h1:rootOk u v (rootX u v 1) with
  | true=>exact h1
  | false=>rw [h1] at h;exact absurd h (by decide)
theorem zk4 (u v:Int):∀ k,inP (rootX u v k)
 | 0=>mM_in _ _
 | k+1=>mM_in _ _
theorem mS_in (x y:Int):inP (mS x y):=⟨Int.emod_nonneg _ (by decide),Int.emod_lt_of_pos _ zd9⟩
theorem zqw {w:Int} (ho:opOk w=true):On4 (openS w):=by
 unfold opOk at ho
 simp only [Bool.and_eq_true,decide_eq_true_eq] at ho
 obtain ⟨hy,hm,_⟩:=ho
 have hr:=zub hm
 have hr:rootOk (opU w) (opV w) (opX w)=true:=hr
 have e:=of_decide_eq_true hr
 have yin:inP (opY w):=⟨by unfold opY;omega,hy⟩
 have xin:inP (opX w):=zk4 _ _ _
 have ef:=congrArg fq e
 unfold opU opV at ef
 simp only [zaU,zcu,zbR,fq_1] at ef
 have xs:inP (opXs w)∧fq (opXs w)*fq (opXs w)=fq (opX w)*fq (opX w):=by
  unfold opXs
  cases (decide (opX w % 2=1) != opOdd w) with
  | true=>exact ⟨mS_in _ _,by show fq (mS 0 (opX w))*fq (mS 0 (opX w))=_;rw [zbR,fq_0];grind⟩
  | false=>exact ⟨xin,rfl⟩
 refine ⟨xs.1,yin,by show inP 1;decide,mM_in _ _,?_⟩
 show OnF (fq (opXs w)) (fq (opY w)) (fq 1) (fq (mM (opXs w) (opY w)))
 rw [zaU,fq_1]
 have e2:=xs.2
 refine ⟨?_,by grind,f01⟩
 have ed:fq eD=dF:=rfl
 rw [ed,← e2] at ef
 generalize fq (opXs w)=x at *
 generalize fq (opY w)=y at *
 generalize dF=d at *
 clear e2 xs hr e hm yin xin hy
 grind
theorem zxx {q:Q4} {x:Int} (e:(q.1=0∧q.2.1=q.2.2.1) ↔ x=1):isIdS q=decide (x=1):=by
 unfold isIdS
 by_cases hf:x=1
 ·obtain ⟨h1,h2⟩:=e.2 hf
  rw [decide_eq_true h1,decide_eq_true h2,decide_eq_true hf];rfl
 ·rw [decide_eq_false hf]
  cases h1:decide (q.1=0) with
  | false=>rfl
  | true =>
   cases h2:decide (q.2.1=q.2.2.1) with
   | false=>rfl
   | true=>exact absurd (e.1 ⟨of_decide_eq_true h1,of_decide_eq_true h2⟩) hf
theorem zld {q:Q4} (h:On4 q):isIdS q=decide (formS q=1):=by
 unfold formS
 exact zxx (zp1 h rfl)
end Go.Proofs.YtplaklpfeabhiaaGreat
namespace Go.Proofs.YtplaklpfeabhiaaGreat
open Go.Proofs.Tryz
open Go Go.AM
noncomputable abbrev pE:EnvP:=envP tt [] []
def big (n:Nat):Bool:=Nat.ble n 4611686018427387904
theorem zb8 {fn:Func} {id:Nat} {B:Code} (h:fn.body.map (bodiesOf id)=some [.loop B]):∀ c,fn.body=some c→∀ b ∈ bodiesOf id c,b=.loop B:=by
 intro c hc b hb
 rw [hc] at h
 simp only [Option.map_some,Option.some.injEq] at h
 rw [h] at hb
 simpa using hb
theorem za8 {x:Int} (h0:0≤x) (h1:x<9223372036854775808):wr .i64 x=x:=by
 show IntKind.i64.wrap x=x
 rw [IntKind.wrap_i64];omega
theorem zbi {k n:Nat} (h:k<n):inR k n=true:=by simp [inR];omega
end Go.Proofs.YtplaklpfeabhiaaGreat
namespace Go.Proofs.YtplaklpfeabhiaaGreat
open Go.Proofs.Tryz
open Go Go.AM
def tTwice:TF:=fun args=>match args with
 | [.agg [.ints .u32 8 a],.sc (.int .u32 b)]=>some (inW8 a&&(decide (0≤b)&&(decide (b≤1)&&decide (val8 a<ordL))),n8 (2*val8 a+b))
 | _=>none
theorem zts:fnChk prog pE f_rimeref02_twice=true:=by kernel_rfl
theorem zvL (a:Nat→Int) (b:Int):outP (apFunc pE [] 10 f_rimeref02_twice [u8w a,.sc (.int .u32 b)] [])=some (true,u8w (lf (twiceL a b))):=by kernel_rfl
theorem zuc:TRow prog F_rimeref02_twice tTwice:=by
 intro args r h
 unfold tTwice at h
 split at h
 case h_2=>simp at h
 rename_i a b
 simp only [Option.some.injEq,Prod.mk.injEq,Bool.and_eq_true,decide_eq_true_eq] at h
 obtain ⟨⟨ha,hb0,hb1,hl⟩,rfl⟩:=h
 refine zab L0 at_rimeref02_twice zts (N:=10) (gs:=[]) ?_
 have:=zvL a b
 rw [zn5 ha ⟨hb0,hb1⟩ hl] at this
 exact this
def tMinus:TF:=fun args=>match args with
 | [.agg [.ints .u32 8 a],.agg [.ints .u32 8 b]]=>some (inW8 a&&(inW8 b&&decide (val8 b≤val8 a)),n8 (val8 a - val8 b))
 | _=>none
theorem ztD:fnChk prog pE f_rimeref02_minus=true:=by kernel_rfl
theorem zvN (a b:Nat→Int):outP (apFunc pE [] 10 f_rimeref02_minus [u8w a,u8w b] [])=some (true,u8w (lf (minL a b))):=by kernel_rfl
theorem zu6:TRow prog F_rimeref02_minus tMinus:=by
 intro args r h
 unfold tMinus at h
 split at h
 case h_2=>simp at h
 rename_i a b
 simp only [Option.some.injEq,Prod.mk.injEq,Bool.and_eq_true,decide_eq_true_eq] at h
 obtain ⟨⟨ha,hb,hl⟩,rfl⟩:=h
 refine zab L0 at_rimeref02_minus ztD (N:=10) (gs:=[]) ?_
 have:=zvN a b
 rw [zuE ha hb hl] at this
 exact this
noncomputable def blB:Code:=match f_rimeref02_below.body with | some c=>(match bodiesOf 0 c with | [.loop b]=>b | _=>.skip) | none=>.skip
def blH (a b:Nat→Int):Heap:=[some (.ints .u32 8 1 (fun _ d=>a d)),some (.ints .u32 8 1 (fun _ d=>b d))]
def blV (p:(Nat→Int) × (Nat→Int)) (v:Int):St:=⟨tmOf [(2,.sc (.ptr 0 8 0 0 8)),(3,.sc (.ptr 1 8 0 0 8)),(5,.sc (.int .i64 v))] 24 0,blH p.1 p.2⟩
def blS (p:(Nat→Int) × (Nat→Int)) (k:Nat):St:=blV p (7 - (k:Int))
def blRd (s:St):Option ((Nat→Int) × (Nat→Int)):=match s.hp with
 | [some (.ints _ _ _ a),some (.ints _ _ _ b)]=>some (a 0,b 0)
 | _=>none
theorem zqV (p:(Nat→Int) × (Nat→Int)) (v:Int):roundB pE [(7,true),(16,false)] 5 blB (blV p v) .normal (blV p (v - 1)) =
  some (ckL [decide (v ≥ 0)==true,inR v 8,inR v 8,(p.1 (0+v.toNat*1) != p.2 (0+v.toNat*1))==false]&&stB (blV p (wr .i64 (v - 1))) (blV p (v - 1))):=by kernel_rfl
theorem zot (p:(Nat→Int) × (Nat→Int)) (v:Int):stB (blV p v) (blV p v)=true:=by
 simp [stB,blV,blH,tmOf,tmB,avB,svB,hpB,blkB,zam,kEq]
def blT1 (p:(Nat→Int) × (Nat→Int)):St:=⟨tmOf [] 24 0,blH p.1 p.2⟩
def blT2 (p:(Nat→Int) × (Nat→Int)) (r:Bool):St:=⟨tmOf [(4,.sc (.bool r))] 24 0,blH p.1 p.2⟩
theorem zqP (p:(Nat→Int) × (Nat→Int)):roundB pE [] 5 blB (blV p (-1)) (.exit 0) (blT1 p)=some (true&&stB (blT1 p) (blT1 p)):=by kernel_rfl
theorem zsc (p:(Nat→Int) × (Nat→Int)) (v:Int) (r:Bool):roundB pE [(7,true),(16,true)] 5 blB (blV p v) .ret (blT2 p r) =
  some (ckL [decide (v ≥ 0)==true,inR v 8,inR v 8,(p.1 (0+v.toNat*1) != p.2 (0+v.toNat*1))==true,inR v 8,inR v 8]&&stB (blT2 p (decide (p.1 (0+v.toNat*1)<p.2 (0+v.toNat*1)))) (blT2 p r)):=by kernel_rfl
def blF1:LF:=famF blRd blS (fun p=>Nat.beq (alike p.1 p.2 8 0) 8) (fun _=>.normal) blT1
def blF2:LF:=famF blRd blS (fun p=>Nat.ble (alike p.1 p.2 8 0+1) 8) (fun _=>.ret) (fun p=>blT2 p (decide (p.1 (7 - alike p.1 p.2 8 0)<p.2 (7 - alike p.1 p.2 8 0))))
theorem zm6:f_rimeref02_below.body.map (bodiesOf 0)=some [.loop blB]:=by kernel_rfl
theorem bl_ok:codeOK prog pE.env.isW blB=true:=by kernel_rfl
theorem bl_rd {s:St} {p:(Nat→Int) × (Nat→Int)} (h:blRd s=some p):∃ k sz n f k' sz' n' g,s.hp=[some (.ints k sz n f),some (.ints k' sz' n' g)]:=by
 unfold blRd at h
 split at h
 ·rename_i hh;exact ⟨_,_,_,_,_,_,_,_,hh⟩
 ·simp at h
theorem bl_hp {s:St} {p:(Nat→Int) × (Nat→Int)} (h:blRd s=some p):(blS p 0).hp.length=s.hp.length∧∀ (i:Nat) (t:Heap),s.hp[i]?=some none→t[i]?=some none:=by
 obtain ⟨k,sz,n,f,k',sz',n',g,hh⟩:=bl_rd h
 refine ⟨by rw [hh];rfl,fun i t hi=>?_⟩
 rw [hh] at hi
 match i,hi with
 | 0,hi=>simp at hi
 | 1,hi=>simp at hi
 | n+2,hi=>simp at hi
theorem zpc (p:(Nat→Int) × (Nat→Int)) (k:Nat) (hk:k<8) (he:p.1 (7 - k)=p.2 (7 - k)):∃ s1,am pE.env 5 blB (blS p k)=some (.normal,s1)∧StLe s1 (blS p (k+1)):=by
 have e0:(7 - ((k+1:Nat):Int))=7 - (k:Int) - 1:=by omega
 unfold blS
 rw [e0]
 refine zaH (zqV p (7 - (k:Int))) ?_
 have e:wr .i64 (7 - (k:Int) - 1)=7 - (k:Int) - 1:=by
  show IntKind.i64.wrap _=_
  rw [IntKind.wrap_i64];omega
 have et:0+(7 - (k:Int)).toNat*1=7 - k:=by omega
 rw [e,zot,et,he]
 simp [ckL,inR];omega
theorem l_bl1:LRow prog f_rimeref02_below 0 blF1:=by
 refine LRow.fam (N:=5) (L0.env []) mix (fun _=>8) (zb8 zm6) bl_ok (fun w0 own0=>zat (fun id=>rfl) blB) (fun s a h=>⟨(bl_hp h).1,fun i hi=>(bl_hp h).2 i _ hi⟩) (fun _ _=>rfl) (fun _=>Nat.le_refl _) ?_ ?_
 ·intro p hp k hk
  have hp:=Nat.eq_of_beq_eq_true hp
  obtain ⟨h1,h2,h3,h4⟩:=zbH p.1 p.2 8 0
  exact zpc p k hk (h3 k (Nat.zero_le _) (by omega))
 ·intro p hp
  obtain ⟨s1,h1,h2⟩:=zaH (zqP p) (by simp [stB,blT1,blH,tmOf,tmB,avB,hpB,blkB,zam,kEq])
  exact ⟨_,s1,h1,rfl,h2⟩
theorem l_bl2:LRow prog f_rimeref02_below 0 blF2:=by
 refine LRow.fam (N:=5) (L0.env []) mix (fun p=>alike p.1 p.2 8 0) (zb8 zm6) bl_ok (fun w0 own0=>zat (fun id=>rfl) blB) (fun s a h=>⟨(bl_hp h).1,fun i hi=>(bl_hp h).2 i _ hi⟩) (fun _ _=>rfl) (fun _=>Nat.le_refl _) ?_ ?_
 ·intro p hp k hk
  have hp:=Nat.le_of_ble_eq_true hp
  obtain ⟨h1,h2,h3,h4⟩:=zbH p.1 p.2 8 0
  exact zpc p k (by omega) (h3 k (Nat.zero_le _) hk)
 ·intro p hp
  have hp:=Nat.le_of_ble_eq_true hp
  obtain ⟨h1,h2,h3,h4⟩:=zbH p.1 p.2 8 0
  have hne:=h4 (by omega)
  have et:0+(7 - ((alike p.1 p.2 8 0:Nat):Int)).toNat*1=7 - alike p.1 p.2 8 0:=by omega
  obtain ⟨s1,q1,q2⟩:=zaH (zsc p (7 - (alike p.1 p.2 8 0:Int)) (decide (p.1 (7 - alike p.1 p.2 8 0)<p.2 (7 - alike p.1 p.2 8 0)))) (by
   rw [et]
   have hs:stB (blT2 p (decide (p.1 (7 - alike p.1 p.2 8 0)<p.2 (7 - alike p.1 p.2 8 0)))) (blT2 p (decide (p.1 (7 - alike p.1 p.2 8 0)<p.2 (7 - alike p.1 p.2 8 0))))=true:=by
    simp [stB,blT2,blH,tmOf,tmB,avB,svB,hpB,blkB,zam,kEq]
   rw [hs]
   simp [ckL,inR,hne];omega)
  exact ⟨_,s1,q1,rfl,q2⟩
def tBelow:TF:=fun args=>match args with
 | [.agg [.ints .u32 8 a],.agg [.ints .u32 8 b]]=>some (inW8 a&&inW8 b,.sc (.bool (decide (val8 a<val8 b))))
 | _=>none
def blI (p:(Nat→Int) × (Nat→Int)):St:=⟨tmOf [(2,.sc (.ptr 0 8 0 0 8)),(3,.sc (.ptr 1 8 0 0 8)),(5,.sc (.int .i64 7))] 24 0,blH p.1 p.2⟩
theorem zqg:fnChk prog (envL tt [] [] [(0,blF1)]) f_rimeref02_below=true:=by kernel_rfl
theorem zrl:fnChk prog (envL tt [] [] [(0,blF2)]) f_rimeref02_below=true:=by kernel_rfl
theorem zrx (a b:Nat→Int):outP (apFunc (envL tt [] [] [(0,blF1)]) [] 5 f_rimeref02_below [u8w a,u8w b] []) =
  some (ckL [Nat.beq (alike a b 8 0) 8&&stB (blI (a,b)) (blS (a,b) 0)],.sc (.bool false)):=by kernel_rfl
theorem zpQ (a b:Nat→Int):outP (apFunc (envL tt [] [] [(0,blF2)]) [] 5 f_rimeref02_below [u8w a,u8w b] []) =
  some (ckL [Nat.ble (alike a b 8 0+1) 8&&stB (blI (a,b)) (blS (a,b) 0)],.sc (.bool (decide (a (7 - alike a b 8 0)<b (7 - alike a b 8 0))))):=by kernel_rfl
theorem ztY:TRow prog F_rimeref02_below tBelow:=by
 intro args r h
 unfold tBelow at h
 split at h
 case h_2=>simp at h
 rename_i a b
 simp only [Option.some.injEq,Prod.mk.injEq,Bool.and_eq_true] at h
 obtain ⟨⟨ha,hb⟩,rfl⟩:=h
 obtain ⟨q1,q2⟩:=zpl ha hb
 have hs:stB (blI (a,b)) (blS (a,b) 0)=true:=zot (a,b) 7
 obtain ⟨h1,h2,_,_⟩:=zbH a b 8 0
 by_cases e:alike a b 8 0=8
 ·rw [q1 e]
  refine zad L0 at_rimeref02_below (LsOK.nil.cons l_bl1) zqg (N:=5) (gs:=[]) ?_
  have:=zrx a b
  rw [e,hs] at this
  exact this
 ·rw [(q2 (by omega)).1]
  refine zad L0 at_rimeref02_below (LsOK.nil.cons l_bl2) zrl (N:=5) (gs:=[]) ?_
  have:=zpQ a b
  rw [hs,show Nat.ble (alike a b 8 0+1) 8=true from Nat.ble_eq_true_of_le (by omega)] at this
  exact this
def tOrder2:TF:=fun args=>match args with
 | []=>some (true,n8 ordL)
 | _=>none
theorem zpR:fnChk prog pE f_rimeref02_Order=true:=by kernel_rfl
theorem zqB:TRow prog F_rimeref02_Order tOrder2:=by
 intro args r h
 unfold tOrder2 at h
 split at h
 case h_2=>simp at h
 simp only [Option.some.injEq,Prod.mk.injEq,true_and] at h
 subst h
 exact zab L0 at_rimeref02_Order zpR (N:=5) (gs:=[]) (by kernel_rfl)
def rs1:List (Nat × TF):=[(F_rimeref02_Order,tOrder2),(F_rimeref02_below,tBelow),(F_rimeref02_minus,tMinus),(F_rimeref02_twice,tTwice)]
theorem R1:LibOK prog tt rs1 []:=(((L0.addT zuc).addT zu6).addT ztY).addT zqB
end Go.Proofs.YtplaklpfeabhiaaGreat
namespace Go.Proofs.YtplaklpfeabhiaaGreat
open Go.Proofs.Tryz
open Go Go.AM
structure MA where
 t:Bool
 n:Nat
 f:Nat→Nat→Int
 i:Nat
 r:Int
noncomputable abbrev qE:EnvP:=envP tt rs1 []
noncomputable def miB:Code:=match f_rimeref02_mod.body with | some c=>(match bodiesOf 2 c with | [.loop b]=>b | _=>.skip) | none=>.skip
noncomputable def moB:Code:=match f_rimeref02_mod.body with | some c=>(match bodiesOf 0 c with | [.loop b]=>b | _=>.skip) | none=>.skip
def mdH (r:Int):Heap:=[some (.ints .u32 8 1 (fun _ _=>0)),some (.ints .u32 8 1 (fun _ d=>limbs8 r d)),some (.ints .u32 8 1 (fun _ d=>limbs8 ordL d))]
def mdW (a:MA) (iv v r:Int):St:=⟨tmOf [(0,.sc (.vints a.t .u32 1 a.n a.f)),(2,.sc (.ptr 0 8 0 0 8)),(3,.sc (.ptr 1 8 0 0 8)),(4,.sc (.ptr 2 8 0 0 8)),(5,.sc (.int .i64 iv)),(6,.sc (.int .i64 v))] 37 0,mdH r⟩
def mdV (a:MA) (v r:Int):St:=mdW a (a.i:Int) v r
def zaI (d v:Int):Int:=iand .u32 (ishr .u32 d (wr .u64 v)) 1
def twV (r b:Int):Int:=2*val8 (limbs8 r)+b
def twCk (r b:Int):Bool:=inW8 (limbs8 r)&&(decide (0≤b)&&(decide (b≤1)&&decide (val8 (limbs8 r)<ordL)))
theorem znR (a:MA) (v r:Int):roundB qE [(16,true),(32,false)] 5 miB (mdV a v r) .normal (mdV a (v - 1) (twV r (zaI (a.f (a.i:Int).toNat 0) v))) =
  some (ckL [decide (v ≥ 0)==true,inR a.i a.n,!decide (wr .u64 v<0),twCk r (zaI (a.f (a.i:Int).toNat 0) v),inW8 (limbs8 (twV r (zaI (a.f (a.i:Int).toNat 0) v)))&&inW8 (limbs8 ordL),
    (!decide (val8 (limbs8 (twV r (zaI (a.f (a.i:Int).toNat 0) v)))<val8 (limbs8 ordL)))==false] &&
   stB (mdV a (wr .i64 (v - 1)) (twV r (zaI (a.f (a.i:Int).toNat 0) v))) (mdV a (v - 1) (twV r (zaI (a.f (a.i:Int).toNat 0) v)))):=by kernel_rfl
theorem znH (a:MA) (v r:Int):roundB qE [(16,true),(32,true)] 5 miB (mdV a v r) .normal (mdV a (v - 1) (val8 (limbs8 (twV r (zaI (a.f (a.i:Int).toNat 0) v))) - val8 (limbs8 ordL))) =
  some (ckL [decide (v ≥ 0)==true,inR a.i a.n,!decide (wr .u64 v<0),twCk r (zaI (a.f (a.i:Int).toNat 0) v),inW8 (limbs8 (twV r (zaI (a.f (a.i:Int).toNat 0) v)))&&inW8 (limbs8 ordL),
    (!decide (val8 (limbs8 (twV r (zaI (a.f (a.i:Int).toNat 0) v)))<val8 (limbs8 ordL)))==true,
    inW8 (limbs8 (twV r (zaI (a.f (a.i:Int).toNat 0) v)))&&(inW8 (limbs8 ordL)&&decide (val8 (limbs8 ordL)≤val8 (limbs8 (twV r (zaI (a.f (a.i:Int).toNat 0) v)))))] &&
   stB (mdV a (wr .i64 (v - 1)) (val8 (limbs8 (twV r (zaI (a.f (a.i:Int).toNat 0) v))) - val8 (limbs8 ordL))) (mdV a (v - 1) (val8 (limbs8 (twV r (zaI (a.f (a.i:Int).toNat 0) v))) - val8 (limbs8 ordL)))):=by kernel_rfl
theorem zjh (a:MA) (v r:Int):stB (mdV a v r) (mdV a v r)=true:=by
 simp [stB,mdV,mdW,mdH,tmOf,tmB,avB,svB,hpB,blkB,zam,kEq]
def miT (a:MA) (r:Int):St:=⟨tmOf [(0,.sc (.vints a.t .u32 1 a.n a.f)),(2,.sc (.ptr 0 8 0 0 8)),(3,.sc (.ptr 1 8 0 0 8)),(4,.sc (.ptr 2 8 0 0 8)),(5,.sc (.int .i64 (a.i:Int)))] 37 0,mdH r⟩
theorem zvp (a:MA) (r:Int):roundB qE [] 5 miB (mdV a (-1) r) (.exit 2) (miT a r)=some (true&&stB (miT a r) (miT a r)):=by kernel_rfl
theorem zrM (a:MA) (r:Int):stB (miT a r) (miT a r)=true:=by
 simp [stB,miT,mdH,tmOf,tmB,avB,svB,hpB,blkB,zam,kEq]
def miD (a:MA):Int:=a.f a.i 0
def miS (a:MA) (k:Nat):St:=mdV a (31 - (k:Int)) (rK a.r (miD a) k)
def miRd (s:St):Option MA:=match getA s.tm 0,getA s.tm 5,s.hp with
 | .sc (.vints t _ _ n f),.sc (.int _ i),[some (.ints ..),some (.ints _ _ _ g),some (.ints ..)]=>some ⟨t,n,f,i.toNat,val8 (g 0)⟩
 | _,_,_=>none
def miCk (a:MA):Bool:=Nat.ble (a.i+1) a.n&&(in32 (miD a)&&(decide (0≤a.r)&&decide (a.r<ordL)))
def miF:LF:=famF miRd miS miCk (fun _=>.normal) (fun a=>miT a (rK a.r (miD a) 32))
theorem zmB:f_rimeref02_mod.body.map (bodiesOf 2)=some [.loop miB]:=by kernel_rfl
theorem mi_ok:codeOK prog qE.env.isW miB=true:=by kernel_rfl
theorem mi_hp {s:St} {a:MA} (h:miRd s=some a):s.hp.length=3∧∀ (i:Nat) (t:Heap),s.hp[i]?=some none→t[i]?=some none:=by
 unfold miRd at h
 split at h
 ·rename_i hh
  rw [hh]
  refine ⟨rfl,fun i t hi=>?_⟩
  match i,hi with
  | 0,hi=>simp at hi
  | 1,hi=>simp at hi
  | 2,hi=>simp at hi
  | n+3,hi=>simp at hi
 ·simp at h
theorem zng:inW8 (limbs8 ordL)=true:=zbq _
theorem zk1:val8 (limbs8 ordL)=ordL:=zbs (by decide) (by decide)
theorem ztp (a:MA) (ha:miCk a=true) (k:Nat) (hk:k<32):∃ s1,am qE.env 5 miB (miS a k)=some (.normal,s1)∧StLe s1 (miS a (k+1)):=by
 simp only [miCk,Bool.and_eq_true,decide_eq_true_eq] at ha
 obtain ⟨h1,h2,h3,h4⟩:=ha
 have h1:=Nat.le_of_ble_eq_true h1
 have hd:=zcX h2
 obtain ⟨q1,q2⟩:=zkM ⟨h3,h4⟩ (miD a) k
 have hb:zaI (a.f (a.i:Int).toNat 0) (31 - (k:Int))=miD a / 2 ^ (31 - k) % 2:=by
  unfold zaI
  rw [Int.toNat_natCast]
  exact ztQ hd hk
 have hnext:rK a.r (miD a) (k+1)=(2*rK a.r (miD a) k+miD a / 2 ^ (31 - k) % 2) % ordL:=rfl
 have ev:(31 - ((k+1:Nat):Int))=31 - (k:Int) - 1:=by omega
 have ew:wr .i64 (31 - (k:Int) - 1)=31 - (k:Int) - 1:=by
  show IntKind.i64.wrap _=_
  rw [IntKind.wrap_i64];omega
 have eu:(decide (wr .u64 (31 - (k:Int))<0))=false:=by rw [wr64];simp;omega
 have hbit:0≤miD a / 2 ^ (31 - k) % 2∧miD a / 2 ^ (31 - k) % 2≤1:=by omega
 unfold miS
 rw [hnext,ev]
 generalize hr:rK a.r (miD a) k=r at *
 have hv:val8 (limbs8 r)=r:=zbs q1 (by unfold ordL R256 at *;omega)
 have htw:twV r (miD a / 2 ^ (31 - k) % 2)=2*r+miD a / 2 ^ (31 - k) % 2:=by unfold twV;rw [hv]
 have hck:twCk r (miD a / 2 ^ (31 - k) % 2)=true:=by
  unfold twCk
  rw [hv,zbq]
  simp [hbit,q2]
 generalize miD a / 2 ^ (31 - k) % 2=b at *
 have hv2:val8 (limbs8 (2*r+b))=2*r+b:=zbs (by omega) (by unfold ordL R256 at *;omega)
 have hir:inR (a.i:Int) a.n=true:=zbi (by omega)
 by_cases e:2*r+b<ordL
 ·have e2:(2*r+b) % ordL=2*r+b:=Int.emod_eq_of_lt (by omega) e
  rw [e2]
  have hR:=znR a (31 - (k:Int)) r
  rw [hb,htw] at hR
  refine zaH hR ?_
  rw [ew,zjh,hck,hir,eu,zbq,zng,hv2,zk1]
  simp [ckL,e];omega
 ·have e2:(2*r+b) % ordL=2*r+b - ordL:=by unfold ordL at *;omega
  rw [e2]
  have hR:=znH a (31 - (k:Int)) r
  rw [hb,htw,hv2,zk1] at hR
  refine zaH hR ?_
  rw [ew,zjh,hck,hir,eu,zbq,zng]
  have e3:ordL≤2*r+b:=by omega
  simp [ckL,e,e3];omega
theorem zb7 (r:Int):(mdH r).length=3:=rfl
theorem l_mi:LRow prog f_rimeref02_mod 2 miF:=by
 refine LRow.fam (N:=5) (R1.env []) mix (fun _=>32) (zb8 zmB) mi_ok (fun w0 own0=>zat (fun id=>rfl) miB) (fun s a h=>⟨by rw [(mi_hp h).1];exact zb7 _,fun i hi=>(mi_hp h).2 i _ hi⟩) (fun a k=>(zb7 _).trans (zb7 _).symm) (fun a=>Nat.le_of_eq ((zb7 _).trans (zb7 _).symm)) (fun a ha k hk=>ztp a ha k hk) ?_
 intro a ha
 obtain ⟨s1,h1,h2⟩:=zaH (zvp a (rK a.r (miD a) 32)) (by rw [zrM];rfl)
 exact ⟨_,s1,h1,rfl,h2⟩
noncomputable abbrev oE:EnvP:=envL tt rs1 [] [(2,miF)]
def moV (a:MA) (v r:Int):St:=⟨tmOf [(0,.sc (.vints a.t .u32 1 a.n a.f)),(2,.sc (.ptr 0 8 0 0 8)),(3,.sc (.ptr 1 8 0 0 8)),(4,.sc (.ptr 2 8 0 0 8)),(5,.sc (.int .i64 v))] 37 0,mdH r⟩
def moIn (a:MA) (v r:Int):MA:=⟨a.t,a.n,a.f,v.toNat,val8 (limbs8 r)⟩
theorem zpE (a:MA) (v r:Int):roundB oE [(12,true)] 5 moB (moV a v r) .normal (moV a (v - 1) (rK (val8 (limbs8 r)) (a.f v.toNat 0) 32)) =
  some (ckL [decide (v ≥ 0)==true,miCk (moIn a v r)&&stB (mdW a v 31 r) (miS (moIn a v r) 0)]&&stB (moV a (wr .i64 ((v.toNat:Int) - 1)) (rK (val8 (limbs8 r)) (a.f v.toNat 0) 32)) (moV a (v - 1) (rK (val8 (limbs8 r)) (a.f v.toNat 0) 32))):=by kernel_rfl
def moT (a:MA) (r:Int):St:=⟨tmOf [(2,.sc (.ptr 0 8 0 0 8)),(3,.sc (.ptr 1 8 0 0 8))] 37 0,mdH r⟩
theorem zuj (a:MA) (r:Int):roundB oE [] 5 moB (moV a (-1) r) (.exit 0) (moT a r)=some (true&&stB (moT a r) (moT a r)):=by kernel_rfl
theorem zpS:bodiesOf 2 moB=[.loop miB]:=by kernel_rfl
theorem zxh:∀ w0 own0,accOK prog oE.env w0 own0 moB:=by
 intro w0 own0
 refine zg6 moB fun id F hF b hb=>?_
 have h2:id=2∧F=fun s=>dropB (miF s):=by
  by_cases e:id=2
  ·subst e
   refine ⟨rfl,?_⟩
   have:oE.env.L 2=some (fun s=>dropB (miF s)):=rfl
   rw [this] at hF
   exact (Option.some.inj hF).symm
  ·have:getL [(2,miF)] id=none:=by
    simp only [getL]
    cases hb2:Nat.beq 2 id with
    | true=>exact absurd (Nat.eq_of_beq_eq_true hb2).symm e
    | false=>rfl
   have h3:oE.env.L id=none:=by
    show (match getL [(2,miF)] id with | some F=>some (fun s=>dropB (F s)) | none=>none)=none
    rw [this]
   rw [h3] at hF;cases hF
 obtain ⟨rfl,rfl⟩:=h2
 rw [zpS] at hb
 have hc:=zmB
 cases hcc:f_rimeref02_mod.body with
 | none=>rw [hcc] at hc;simp at hc
 | some c =>
  rw [hcc] at hc
  simp only [Option.map_some,Option.some.injEq] at hc
  exact l_mi.1 c hcc b (by rw [hc];exact hb) w0 own0
def moS (a:MA) (k:Nat):St:=moV a ((a.n:Int) - 1 - (k:Int)) (dmod a.f a.n k)
def moRd (s:St):Option MA:=match getA s.tm 0,s.hp with
 | .sc (.vints t _ _ n f),[some (.ints ..),some (.ints ..),some (.ints ..)]=>some ⟨t,n,f,0,0⟩
 | _,_=>none
def all32 (f:Nat→Nat→Int) (n:Nat):Bool:=(List.range n).all fun j=>in32 (f j 0)
theorem zov {f:Nat→Nat→Int} {n:Nat} (h:all32 f n=true):∀ j,j<n→W32 (f j 0):=fun j hj=>by
 simp only [all32,List.all_eq_true,List.mem_range] at h
 exact zcX (h j hj)
def moCk (a:MA):Bool:=big a.n&&all32 a.f a.n
def moF:LF:=famF moRd moS moCk (fun _=>.normal) (fun a=>moT a (dmod a.f a.n a.n))
theorem zu9:f_rimeref02_mod.body.map (bodiesOf 0)=some [.loop moB]:=by kernel_rfl
theorem mo_ok:codeOK prog oE.env.isW moB=true:=by kernel_rfl
theorem mo_hp {s:St} {a:MA} (h:moRd s=some a):s.hp.length=3∧∀ (i:Nat) (t:Heap),s.hp[i]?=some none→t[i]?=some none:=by
 unfold moRd at h
 split at h
 ·rename_i hh
  rw [hh]
  refine ⟨rfl,fun i t hi=>?_⟩
  match i,hi with
  | 0,hi=>simp at hi
  | 1,hi=>simp at hi
  | 2,hi=>simp at hi
  | n+3,hi=>simp at hi
 ·simp at h
theorem zvb (a:MA) (v r:Int):stB (moV a v r) (moV a v r)=true:=by
 simp [stB,moV,mdH,tmOf,tmB,avB,svB,hpB,blkB,zam,kEq]
theorem zrn (a:MA) (r:Int):stB (moT a r) (moT a r)=true:=by
 simp [stB,moT,mdH,tmOf,tmB,avB,svB,hpB,blkB,zam,kEq]
theorem zuz (a:MA) (ha:moCk a=true) (k:Nat) (hk:k<a.n):∃ s1,am oE.env 5 moB (moS a k)=some (.normal,s1)∧StLe s1 (moS a (k+1)):=by
 simp only [moCk,Bool.and_eq_true] at ha
 obtain ⟨hbig,hall⟩:=ha
 have hb:a.n≤4611686018427387904:=Nat.le_of_ble_eq_true hbig
 have hW:=zov hall
 obtain ⟨q1,q2⟩:=zdZ a.f a.n k
 have hnext:dmod a.f a.n (k+1)=rK (dmod a.f a.n k) (a.f (a.n - 1 - k) 0) 32:=rfl
 have ev:((a.n:Int) - 1 - ((k+1:Nat):Int))=(a.n:Int) - 1 - (k:Int) - 1:=by omega
 unfold moS
 rw [hnext,ev]
 generalize hr:dmod a.f a.n k=r at *
 have hv:val8 (limbs8 r)=r:=zbs q1 (by unfold ordL R256 at *;omega)
 have et:((a.n:Int) - 1 - (k:Int)).toNat=a.n - 1 - k:=by omega
 have hR:=zpE a ((a.n:Int) - 1 - (k:Int)) r
 rw [et,hv] at hR
 refine zaH hR ?_
 have ec:(((a.n - 1 - k:Nat):Int))=(a.n:Int) - 1 - (k:Int):=by omega
 have ew:wr .i64 ((a.n:Int) - 1 - (k:Int) - 1)=(a.n:Int) - 1 - (k:Int) - 1:=by
  show IntKind.i64.wrap _=_
  rw [IntKind.wrap_i64];omega
 have hin:moIn a ((a.n:Int) - 1 - (k:Int)) r=⟨a.t,a.n,a.f,a.n - 1 - k,r⟩:=by unfold moIn;rw [et,hv]
 rw [hin]
 have hs:stB (mdW a ((a.n:Int) - 1 - (k:Int)) 31 r) (miS ⟨a.t,a.n,a.f,a.n - 1 - k,r⟩ 0)=true:=by
  have:miS ⟨a.t,a.n,a.f,a.n - 1 - k,r⟩ 0=mdV ⟨a.t,a.n,a.f,a.n - 1 - k,r⟩ 31 r:=rfl
  rw [this]
  have h2:=zjh ⟨a.t,a.n,a.f,a.n - 1 - k,r⟩ 31 r
  have h3:mdV ⟨a.t,a.n,a.f,a.n - 1 - k,r⟩ 31 r=mdW a ((a.n:Int) - 1 - (k:Int)) 31 r:=by
   show mdW ⟨a.t,a.n,a.f,a.n - 1 - k,r⟩ ((a.n - 1 - k:Nat):Int) 31 r=_
   rw [ec];rfl
  rw [h3] at h2 ⊢
  exact h2
 have hck:miCk ⟨a.t,a.n,a.f,a.n - 1 - k,r⟩=true:=by
  simp only [miCk,miD,Bool.and_eq_true,decide_eq_true_eq]
  exact ⟨Nat.ble_eq_true_of_le (by omega),zbt (hW _ (by omega)),q1,q2⟩
 rw [hs,hck,ec,ew,zvb]
 simp [ckL];omega
theorem l_mo:LRow prog f_rimeref02_mod 0 moF:=by
 refine LRow.fam (N:=5) (R1.env _) mix (fun a=>a.n) (zb8 zu9) mo_ok zxh (fun s a h=>⟨by rw [(mo_hp h).1];exact zb7 _,fun i hi=>(mo_hp h).2 i _ hi⟩) (fun a k=>(zb7 _).trans (zb7 _).symm) (fun a=>Nat.le_of_eq ((zb7 _).trans (zb7 _).symm)) (fun a ha k hk=>zuz a ha k hk) ?_
 intro a ha
 have e:moS a a.n=moV a (-1) (dmod a.f a.n a.n):=by
  unfold moS
  rw [show (a.n:Int) - 1 - (a.n:Int)=-1 by omega]
 rw [e]
 obtain ⟨s1,h1,h2⟩:=zaH (zuj a (dmod a.f a.n a.n)) (by rw [zrn];rfl)
 exact ⟨_,s1,h1,rfl,h2⟩
def tMod:TF:=fun args=>match args with
 | [.sc (.vints _ .u32 1 n f)]=>some (big n&&all32 f n,n8 (dval f n n % ordL))
 | _=>none
def moI (t:Bool) (n:Nat) (f:Nat→Nat→Int):St:=⟨tmOf [(0,.sc (.vints t .u32 1 n f)),(2,.sc (.ptr 0 8 0 0 8)),(3,.sc (.ptr 1 8 0 0 8)),(4,.sc (.ptr 2 8 0 0 8)),(5,.sc (.int .i64 (wr .i64 ((n:Int) - 1))))] 37 0,[some (.ints .u32 8 1 (fun _ _=>0)),some (.ints .u32 8 1 (fun _ _=>0)),some (.ints .u32 8 1 (fun _ d=>limbs8 ordL d))]⟩
theorem c_mod:fnChk prog (envL tt rs1 [] [(0,moF)]) f_rimeref02_mod=true:=by kernel_rfl
theorem k_mod (t:Bool) (n:Nat) (f:Nat→Nat→Int):outP (apFunc (envL tt rs1 [] [(0,moF)]) [] 5 f_rimeref02_mod [.sc (.vints t .u32 1 n f)] []) =
  some (ckL [moCk ⟨t,n,f,0,0⟩&&stB (moI t n f) (moS ⟨t,n,f,0,0⟩ 0)],n8 (dmod f n n)):=by kernel_rfl
theorem r_mod:TRow prog F_rimeref02_mod tMod:=by
 intro args r h
 unfold tMod at h
 split at h
 case h_2=>simp at h
 rename_i t n f
 simp only [Option.some.injEq,Prod.mk.injEq] at h
 obtain ⟨hb,rfl⟩:=h
 refine zad R1 at_rimeref02_mod (LsOK.nil.cons l_mo) c_mod (N:=5) (gs:=[]) ?_
 have hb2:=hb
 simp only [Bool.and_eq_true] at hb2
 have hn:n≤4611686018427387904:=Nat.le_of_ble_eq_true hb2.1
 have e1:wr .i64 ((n:Int) - 1)=(n:Int) - 1 - ((0:Nat):Int):=by
  show IntKind.i64.wrap _=_
  rw [IntKind.wrap_i64];omega
 have hs:stB (moI t n f) (moS ⟨t,n,f,0,0⟩ 0)=true:=by
  have h0:eqF 1 8 (fun _ _=>0) (fun _ d=>limbs8 0 d)=true:=by decide
  have hm:moS ⟨t,n,f,0,0⟩ 0=moV ⟨t,n,f,0,0⟩ ((n:Int) - 1 - ((0:Nat):Int)) 0:=rfl
  rw [hm]
  simp only [moI,e1]
  simp [stB,moV,mdH,tmOf,tmB,avB,svB,hpB,blkB,zam,kEq,h0]
 rw [k_mod,hs,zo9 (zov hb2.2) n (Nat.le_refl _)]
 have:moCk ⟨t,n,f,0,0⟩=true:=hb
 rw [this];rfl
end Go.Proofs.YtplaklpfeabhiaaGreat
namespace Go.Proofs.YtplaklpfeabhiaaGreat
open Go.Proofs.Tryz
open Go Go.AM
structure DA where
 t:Bool
 n:Nat
 f:Nat→Nat→Int
 m:Nat
noncomputable def dgB:Code:=match f_rimeref02_digits.body with | some c=>(match bodiesOf 0 c with | [.loop b]=>b | _=>.skip) | none=>.skip
def dgW (a:DA) (v:Int) (D:Nat→Nat→Int):St:=⟨tmOf [(0,.sc (.vints a.t .u8 1 a.n a.f)),(3,.sc (.slice 0 1 0 0 1 a.m)),(4,.sc (.int .i64 v))] 37 0,[some (.ints .u32 1 a.m D)]⟩
def dgQ (v:Int):Int:=wr .i64 (v.tdiv 4)
def dgSh (v:Int):Int:=wr .u64 (wr .i64 (8*v.tmod 4))
def dgVal (a:DA) (v:Int) (D:Nat→Nat→Int):Int:=ior .u32 (D (dgQ v).toNat 0) (ishl .u32 (wr .u32 (a.f v.toNat 0)) (dgSh v))
theorem zra (a:DA) (v v':Int) (D D':Nat→Nat→Int):roundB pE [(13,true)] 5 dgB (dgW a v D) .normal (dgW a v' D') =
  some (ckL [decide (v<(a.n:Int))==true,inR (dgQ v) a.m,inR v a.n,!decide (dgSh v<0),inR (dgQ v) a.m] &&
   stB (dgW a (wr .i64 (v+1)) (fun r d=>bif Nat.beq r (dgQ v).toNat&&Nat.beq d 0 then dgVal a v D else D r d)) (dgW a v' D')):=by kernel_rfl
theorem zu8 (a:DA) (v:Int) {D D':Nat→Nat→Int} (h:eqF a.m 1 D D'=true):stB (dgW a v D) (dgW a v D')=true:=by
 simp [stB,dgW,tmOf,tmB,avB,svB,hpB,blkB,zam,kEq,h]
def dgT (a:DA) (D:Nat→Nat→Int):St:=⟨tmOf [(3,.sc (.slice 0 1 0 0 1 a.m))] 37 0,[some (.ints .u32 1 a.m D)]⟩
theorem zt8 (a:DA) (v:Int) (D:Nat→Nat→Int):roundB pE [(13,false)] 5 dgB (dgW a v D) (.exit 0) (dgT a D)=some (ckL [decide (v<(a.n:Int))==false]&&stB (dgT a D) (dgT a D)):=by kernel_rfl
theorem zrC (a:DA) (D:Nat→Nat→Int):stB (dgT a D) (dgT a D)=true:=by
 simp [stB,dgT,tmOf,tmB,avB,svB,hpB,blkB,zam,kEq]
def dgS (a:DA) (k:Nat):St:=dgW a (k:Int) (fun r _=>dK (fun j=>a.f j 0) k r)
def dgRd (s:St):Option DA:=match getA s.tm 0,s.hp with
 | .sc (.vints t _ _ n f),[some (.ints _ _ m _)]=>some ⟨t,n,f,m⟩
 | _,_=>none
def dgCk (a:DA):Bool:=big a.n&&(areB (fun j=>a.f j 0) a.n 0&&Nat.beq a.m ((a.n+3) / 4))
def dgF:LF:=famF dgRd dgS dgCk (fun _=>.normal) (fun a=>dgT a (fun r _=>dK (fun j=>a.f j 0) a.n r))
theorem zvz:f_rimeref02_digits.body.map (bodiesOf 0)=some [.loop dgB]:=by kernel_rfl
theorem dg_ok:codeOK prog pE.env.isW dgB=true:=by kernel_rfl
theorem dg_hp {s:St} {a:DA} (h:dgRd s=some a):s.hp.length=1∧∀ (i:Nat) (t:Heap),s.hp[i]?=some none→t[i]?=some none:=by
 unfold dgRd at h
 split at h
 ·rename_i hh
  rw [hh]
  refine ⟨rfl,fun i t hi=>?_⟩
  match i,hi with
  | 0,hi=>simp at hi
  | n+1,hi=>simp at hi
 ·simp at h
theorem zuk (a:DA) (ha:dgCk a=true) (k:Nat) (hk:k<a.n):∃ s1,am pE.env 5 dgB (dgS a k)=some (.normal,s1)∧StLe s1 (dgS a (k+1)):=by
 simp only [dgCk,Bool.and_eq_true] at ha
 obtain ⟨h1,h2,h3⟩:=ha
 have hn:a.n≤4611686018427387904:=Nat.le_of_ble_eq_true h1
 have hm:=Nat.eq_of_beq_eq_true h3
 have ew:wr .i64 ((k:Int)+1)=((k+1:Nat):Int):=by rw [za8 (by omega) (by omega)];rfl
 have ed:((k:Int).tdiv 4)=((k / 4:Nat):Int):=by rw [Int.tdiv_eq_ediv_of_nonneg (by omega)];omega
 have em:((k:Int).tmod 4)=((k % 4:Nat):Int):=by rw [Int.tmod_eq_emod_of_nonneg (by omega)];omega
 have eq:dgQ (k:Int)=((k / 4:Nat):Int):=by unfold dgQ;rw [ed,za8 (by omega) (by omega)]
 have es:dgSh (k:Int)=((8*(k % 4):Nat):Int):=by
  unfold dgSh
  rw [em,za8 (by omega) (by omega),wr64];omega
 refine zaH (zra a (k:Int) ((k+1:Nat):Int) _ (fun r _=>dK (fun j=>a.f j 0) (k+1) r)) ?_
 have hstep:=(zut h2 hk).1
 have hF:eqF a.m 1 (fun r d=>bif Nat.beq r (dgQ (k:Int)).toNat&&Nat.beq d 0 then dgVal a (k:Int) (fun r _=>dK (fun j=>a.f j 0) k r) else dK (fun j=>a.f j 0) k r) (fun r _=>dK (fun j=>a.f j 0) (k+1) r)=true:=by
  refine zaK fun r hr d hd=>?_
  obtain rfl:d=0:=by omega
  rw [eq,Int.toNat_natCast]
  by_cases e:r=k / 4
  ·subst e
   have hbb:Nat.beq (k / 4) (k / 4)=true:=beq_t.2 rfl
   have h00:Nat.beq 0 0=true:=rfl
   rw [hbb,h00,Bool.and_self,cond_true,hstep]
   unfold dgVal
   rw [eq,es,Int.toNat_natCast,Int.toNat_natCast]
  ·have:Nat.beq r (k / 4)=false:=by cases hb:Nat.beq r (k / 4) with | false=>rfl | true=>exact absurd (Nat.eq_of_beq_eq_true hb) e
   rw [this]
   simp only [Bool.false_and,cond_false]
   exact (zpD e).symm
 rw [ew,zu8 a _ hF,eq,es]
 have hq:k / 4<a.m:=by omega
 have eN:(decide (((8*(k % 4):Nat):Int)<0))=false:=by simp;omega
 have e1:inR (((k / 4:Nat)):Int) a.m=true:=zbi hq
 rw [eN,e1,zbi hk]
 simp [ckL];omega
theorem l_dg:LRow prog f_rimeref02_digits 0 dgF:=by
 refine LRow.fam (N:=5) (L0.env []) mix (fun a=>a.n) (zb8 zvz) dg_ok (fun w0 own0=>zat (fun id=>rfl) dgB) (fun s a h=>⟨by rw [(dg_hp h).1];rfl,fun i hi=>(dg_hp h).2 i _ hi⟩) (fun _ _=>rfl) (fun _=>Nat.le_refl _) (fun a ha k hk=>zuk a ha k hk) ?_
 intro a ha
 obtain ⟨s1,h1,h2⟩:=zaH (zt8 a (a.n:Int) (fun r _=>dK (fun j=>a.f j 0) a.n r)) (by rw [zrC];simp [ckL])
 exact ⟨_,s1,h1,rfl,h2⟩
def tDigits:TF:=fun args=>match args with
 | [.sc (.vints _ .u8 1 n f)]=>some (Nat.ble n 1099511627776&&areB (fun j=>f j 0) n 0,.sc (.vints true .u32 1 ((n+3) / 4) (fun j _=>dK (fun j=>f j 0) n j)))
 | _=>none
def dgM (n:Nat):Int:=wr .i64 ((wr .i64 ((n:Int)+3)).tdiv 4)
def dgI (t:Bool) (n:Nat) (f:Nat→Nat→Int):St:=⟨tmOf [(0,.sc (.vints t .u8 1 n f)),(3,.sc (.slice 0 1 0 0 1 (dgM n).toNat)),(4,.sc (.int .i64 0))] 37 0,[some (.ints .u32 1 (dgM n).toNat (fun _ _=>0))]⟩
theorem zqo:fnChk prog (envL tt [] [] [(0,dgF)]) f_rimeref02_digits=true:=by kernel_rfl
theorem zrG (t:Bool) (n:Nat) (f:Nat→Nat→Int):outP (apFunc (envL tt [] [] [(0,dgF)]) [] 5 f_rimeref02_digits [.sc (.vints t .u8 1 n f)] []) =
  some (ckL [inB (dgM n) (dgM n)&&fits (dgM n).toNat 4,dgCk ⟨t,n,f,(dgM n).toNat⟩&&stB (dgI t n f) (dgS ⟨t,n,f,(dgM n).toNat⟩ 0)],.sc (.vints true .u32 1 (dgM n).toNat (fun j _=>dK (fun j=>f j 0) n j))):=by kernel_rfl
theorem zki:TRow prog F_rimeref02_digits tDigits:=by
 intro args r h
 unfold tDigits at h
 split at h
 case h_2=>simp at h
 rename_i t n f
 simp only [Option.some.injEq,Prod.mk.injEq,Bool.and_eq_true] at h
 obtain ⟨⟨hb,ha⟩,rfl⟩:=h
 have hn:n≤1099511627776:=Nat.le_of_ble_eq_true hb
 refine zad L0 at_rimeref02_digits (LsOK.nil.cons l_dg) zqo (N:=5) (gs:=[]) ?_
 have eM:dgM n=(((n+3) / 4:Nat):Int):=by
  unfold dgM
  rw [za8 (x:=(n:Int)+3) (by omega) (by omega),Int.tdiv_eq_ediv_of_nonneg (by omega),za8 (by omega) (by omega)];omega
 have h0:eqF ((n+3) / 4) 1 (fun _ _=>(0:Int)) (fun r _=>dK (fun j=>f j 0) 0 r)=true:=zaK fun r _ d _=>by
  unfold dK
  rw [zci (n:=4) fun i hi=>by unfold cutB;rw [if_neg (by omega)]]
 have hs:stB (dgI t n f) (dgS ⟨t,n,f,(dgM n).toNat⟩ 0)=true:=by
  unfold dgI dgS
  rw [eM,Int.toNat_natCast]
  simp [stB,dgW,tmOf,tmB,avB,svB,hpB,blkB,zam,kEq,h0]
 have hc:dgCk ⟨t,n,f,(dgM n).toNat⟩=true:=by
  simp only [dgCk,Bool.and_eq_true]
  rw [eM,Int.toNat_natCast]
  exact ⟨Nat.ble_eq_true_of_le (by omega),ha,beq_t.2 rfl⟩
 have hi:(inB (dgM n) (dgM n)&&fits (dgM n).toNat 4)=true:=by
  rw [eM,Int.toNat_natCast]
  simp [inB,fits];omega
 rw [zrG,hs,hc,hi,eM,Int.toNat_natCast];rfl
def rs2:List (Nat × TF):=(F_rimeref02_digits,tDigits)::(F_rimeref02_mod,tMod)::rs1
theorem R2:LibOK prog tt rs2 []:=(R1.addT r_mod).addT zki
def tBack8:TF:=fun args=>match args with
 | [.agg [.ints .u32 8 a]]=>some (inW8 a,b32 (val8 a))
 | _=>none
theorem zvC:fnChk prog (envP tt rs2 []) f_rimeref02_Back=true:=by kernel_rfl
theorem ztr (a:Nat→Int):outP (apFunc (envP tt rs2 []) [] 40 f_rimeref02_Back [u8w a] [])=some (true,u8s 32 (lf (back8 a))):=by kernel_rfl
theorem znx:TRow prog F_rimeref02_Back tBack8:=by
 intro args r h
 unfold tBack8 at h
 split at h
 case h_2=>simp at h
 rename_i a
 simp only [Option.some.injEq,Prod.mk.injEq] at h
 obtain ⟨ha,rfl⟩:=h
 refine zab R2 at_rimeref02_Back zvC (N:=40) (gs:=[]) ?_
 have hr:=zbG ha
 have e:back8 a=byL 32 (val8 a):=by
  rw [← zoB hr.1 hr.2,← zfD ha];rfl
 rw [← show u8s 32 (lf (back8 a))=b32 (val8 a) by unfold b32;rw [e]]
 exact ztr a
def tReduce2:TF:=fun args=>match args with
 | [.sc (.vints _ .u8 1 n f)]=>some (Nat.ble n 1099511627776&&areB (fun j=>f j 0) n 0,b32 (hval (fun j=>f j 0) n 0 % ordL))
 | _=>none
def rs3:List (Nat × TF):=(F_rimeref02_Back,tBack8)::rs2
theorem R3:LibOK prog tt rs3 []:=R2.addT znx
theorem znI:fnChk prog (envP tt rs3 []) f_rimeref02_Reduce=true:=by kernel_rfl
def dgs (n:Nat) (f:Nat→Nat→Int):Nat→Nat→Int:=fun j _=>dK (fun j=>f j 0) n j
theorem zmt (t:Bool) (n:Nat) (f:Nat→Nat→Int):outP (apFunc (envP tt rs3 []) [] 5 f_rimeref02_Reduce [.sc (.vints t .u8 1 n f)] []) =
  some (ckL [Nat.ble n 1099511627776&&areB (fun j=>f j 0) n 0,big ((n+3) / 4)&&all32 (dgs n f) ((n+3) / 4),inW8 (limbs8 (dval (dgs n f) ((n+3) / 4) ((n+3) / 4) % ordL))],
   b32 (val8 (limbs8 (dval (dgs n f) ((n+3) / 4) ((n+3) / 4) % ordL)))):=by kernel_rfl
theorem zop {n:Nat} {f:Nat→Nat→Int} (ha:areB (fun j=>f j 0) n 0=true):all32 (dgs n f) ((n+3) / 4)=true∧dval (dgs n f) ((n+3) / 4) ((n+3) / 4)=hval (fun j=>f j 0) n 0:=by
 refine ⟨?_,by have:=zrN (fun j=>f j 0) (n:=n) (m:=(n+3) / 4) (by omega);simp only [Nat.zero_add] at this;exact this⟩
 simp only [all32,List.all_eq_true,List.mem_range]
 exact fun j _=>zbt (dK_W ha j)
theorem zii:TRow prog F_rimeref02_Reduce tReduce2:=by
 intro args r h
 unfold tReduce2 at h
 split at h
 case h_2=>simp at h
 rename_i t n f
 simp only [Option.some.injEq,Prod.mk.injEq,Bool.and_eq_true] at h
 obtain ⟨⟨hb,ha⟩,rfl⟩:=h
 refine zab R3 at_rimeref02_Reduce znI (N:=5) (gs:=[]) ?_
 obtain ⟨e1,e2⟩:=zop ha
 have hn:n≤1099511627776:=Nat.le_of_ble_eq_true hb
 have hm:=zaA (hval (fun j=>f j 0) n 0)
 have hv:val8 (limbs8 (hval (fun j=>f j 0) n 0 % ordL))=hval (fun j=>f j 0) n 0 % ordL:=zbs hm.1 (by unfold R256;omega)
 rw [zmt,e1,e2,hv,zbq,hb,ha,show big ((n+3) / 4)=true from Nat.ble_eq_true_of_le (by omega)];rfl
end Go.Proofs.YtplaklpfeabhiaaGreat
namespace Go.Proofs.YtplaklpfeabhiaaGreat
open Go.Proofs.Tryz
open Go Go.AM
def su1:List (Nat × TF):=(F_rimeref02_Reduce,tReduce2)::(F_rimeref02_Back,tBack8)::(F_rimeref02_mod,tMod)::(F_rimeref02_digits,tDigits)::ts11
theorem U1:LibOK prog tt su1 []:=((((L11).addT zki).addT r_mod).addT znx).addT zii
def tValue2:TF:=fun args=>match args with
 | [.agg [.ints .u8 32 s]]=>some (areB s 32 0,n8 (hval s 32 0 % ordL))
 | _=>none
theorem zpO:fnChk prog (envP tt su1 []) f_rimeref02_Value=true:=by kernel_rfl
def row1 (s:Nat→Int):Nat→Nat→Int:=fun j d=>s (0+j*1+d)
theorem zpZ (s:Nat→Int):outP (apFunc (envP tt su1 []) [] 5 f_rimeref02_Value [u8s 32 s] []) =
  some (ckL [areB s 32 0,all32 (dgs 32 (row1 s)) 8],n8 (dval (dgs 32 (row1 s)) 8 8 % ordL)):=by kernel_rfl
theorem ziL {s:Nat→Int} {n:Nat} (h:areB s n 0=true):areB (fun j=>row1 s j 0) n 0=true:=zoM fun i hi=>by
 have:=zch h i hi
 simpa [row1] using this
theorem ziH (s:Nat→Int) (n:Nat):hval (fun j=>row1 s j 0) n 0=hval s n 0:=za6 fun i _=>by simp [row1]
theorem zr1:TRow prog F_rimeref02_Value tValue2:=by
 intro args r h
 unfold tValue2 at h
 split at h
 case h_2=>simp at h
 rename_i s
 simp only [Option.some.injEq,Prod.mk.injEq] at h
 obtain ⟨ha,rfl⟩:=h
 refine zab U1 at_rimeref02_Value zpO (N:=5) (gs:=[]) ?_
 obtain ⟨e1,e2⟩:=zop (ziL ha)
 have e:=zpZ s
 rw [e1,e2,ziH,ha] at e
 exact e
def su2:List (Nat × TF):=(F_rimeref02_Value,tValue2)::su1
theorem U2:LibOK prog tt su2 []:=U1.addT zr1
def tCanon:TF:=fun args=>match args with
 | [.agg [.ints .u8 32 s]]=>some (areB s 32 0,.sc (.bool (decide (hval s 32 0<ordL))))
 | _=>none
theorem zvB:fnChk prog (envP tt su2 []) f_scalar_Canonical=true:=by kernel_rfl
theorem zvo (s:Nat→Int):outP (apFunc (envP tt su2 []) [] 5 f_scalar_Canonical [u8s 32 s] []) =
  some (ckL [areB s 32 0,inU4 (limbs4 (hval s 32 0))&&inU4 (limbs4 ordL)],.sc (.bool (b2i (decide (val4 (limbs4 (hval s 32 0))<val4 (limbs4 ordL)))==1))):=by kernel_rfl
theorem znQ:TRow prog F_scalar_Canonical tCanon:=by
 intro args r h
 unfold tCanon at h
 split at h
 case h_2=>simp at h
 rename_i s
 simp only [Option.some.injEq,Prod.mk.injEq] at h
 obtain ⟨ha,rfl⟩:=h
 refine zab U2 at_scalar_Canonical zvB (N:=5) (gs:=[]) ?_
 have e:=zvo s
 have hr:=zaQ ha
 rw [za9 hr.1 (by have:=hr.2;simpa using this),zfg,zaP,zaP,ha] at e
 have e2:(b2i (decide (hval s 32 0<ordL))==1)=decide (hval s 32 0<ordL):=by cases decide (hval s 32 0<ordL) <;> rfl
 rw [e2] at e
 exact e
def su3:List (Nat × TF):=(F_scalar_Canonical,tCanon)::su2
theorem U3:LibOK prog tt su3 []:=(U2).addT znQ
def su4:List (Nat × TF):=su3
theorem U4:LibOK prog tt su4 []:=(U3)
def tFromInt:TF:=fun args=>match args with
 | [.sc (.int .u64 n)]=>some (inU n,b32 n)
 | _=>none
theorem znZ:fnChk prog (envP tt su4 []) f_scalar_FromInt=true:=by kernel_rfl
theorem zoT (n:Int):outP (apFunc (envP tt su4 []) [] 5 f_scalar_FromInt [.sc (.int .u64 n)] [])=some (ckL [inU4 (lf [n,0,0,0])],b32 (val4 (lf [n,0,0,0]))):=by kernel_rfl
theorem zhY:TRow prog F_scalar_FromInt tFromInt:=by
 intro args r h
 unfold tFromInt at h
 split at h
 case h_2=>simp at h
 rename_i n
 simp only [Option.some.injEq,Prod.mk.injEq] at h
 obtain ⟨hb,rfl⟩:=h
 refine zab U4 at_scalar_FromInt znZ (N:=5) (gs:=[]) ?_
 have e:val4 (lf [n,0,0,0])=n:=by simp [val4,lf]
 have e2:inU4 (lf [n,0,0,0])=true:=by simp only [inU4,lf,hb];rfl
 rw [zoT,e,e2];rfl
end Go.Proofs.YtplaklpfeabhiaaGreat
namespace Go.Proofs.YtplaklpfeabhiaaGreat
open Go.Proofs.Tryz
open Go Go.AM
def grpS (w:Int):Int:=bif opOk w then (bif decide (w=1) then 42 else bif prS w then 0 else 43) else 41
def tGroup:TF:=fun args=>match args with
 | [.agg [.ints .u8 32 b]]=>some (areB b 32 0,.sc (.int .i64 (grpS (hval b 32 0))))
 | _=>none
noncomputable def el0:List (Nat × TF):=(F_edwards_Check,tCheck)::(F_edwards_Identity,tIdentity)::(F_edwards_IsPrime,tIsPrime)::(F_edwards_MulBase,tMulBase)::(F_scalar_Add,tAdd)::(F_scalar_IsZero,tIsZero)::(F_rimeref02_Reduce,tReduce2) ::
 (F_rimeref04_MulBase,tMulBase)::[]
theorem EL0:LibOK prog tt el0 []:=((((((((((L0.addT zf5)))).addT zii).addT zhm).addT r_add).addT ze3).addT zis).addT zd3).addT zmW
noncomputable abbrev elE:EnvP:=envP tt el0 []
theorem zg3:fnChk prog elE f_suite_group=true:=by kernel_rfl
def chkI (w:Int):Int:=bif opOk w then 0 else 41
theorem zwe (b:Nat→Int):outP (apFunc elE [(9,true)] 5 f_suite_group [u8s 32 b] [])=some (ckL [areB (ld0 b) 32 0,(chkI (hval (ld0 b) 32 0) != 0)==true],.sc (.int .i64 (chkI (hval (ld0 b) 32 0)))):=by kernel_rfl
theorem zwp (b:Nat→Int):outP (apFunc elE [(9,false),(13,true)] 5 f_suite_group [u8s 32 b] [])=some (ckL [areB (ld0 b) 32 0,(chkI (hval (ld0 b) 32 0) != 0)==false,(eqN 32 (ld0 b) (lf (byL 32 1))&&true)==true],.sc (.int .i64 42)):=by kernel_rfl
theorem zv6 (b:Nat→Int) (g:Bool):outP (apFunc elE [(9,false),(13,false),(20,true)] 5 f_suite_group [u8s 32 b] []) =
  some (ckL [areB (ld0 b) 32 0,(chkI (hval (ld0 b) 32 0) != 0)==false,(eqN 32 (ld0 b) (lf (byL 32 1))&&true)==false,areB (ld0 b) 32 0,(!prS (hval (ld0 b) 32 0))==true],.sc (.int .i64 43)):=by kernel_rfl
theorem zxa (b:Nat→Int) (g:Bool):outP (apFunc elE [(9,false),(13,false),(20,false)] 5 f_suite_group [u8s 32 b] []) =
  some (ckL [areB (ld0 b) 32 0,(chkI (hval (ld0 b) 32 0) != 0)==false,(eqN 32 (ld0 b) (lf (byL 32 1))&&true)==false,areB (ld0 b) 32 0,(!prS (hval (ld0 b) 32 0))==false],.sc (.int .i64 0)):=by kernel_rfl
theorem zuh {b:Nat→Int} (hb:areB b 32 0=true) {x:Int} (hx:0≤x∧x<R256):eqN 32 b (lf (byL 32 x))=decide (hval b 32 0=x):=by
 have hr:0≤hval b 32 0∧hval b 32 0<R256:=zaQ hb
 rw [← zj7 hr hx]
 exact zdA fun d hd=>by
  have:=zcF b 32 0 d hd
  rw [Nat.zero_add,← zcR hb] at this
  exact this.symm
theorem zuA {b:Nat→Int} (hb:areB b 32 0=true):eqN 32 b (lf (byL 32 1))=decide (hval b 32 0=1):=zuh hb (by decide)
theorem zur:TRow prog F_suite_group tGroup:=by
 intro args r h
 unfold tGroup at h
 split at h
 case h_2=>simp at h
 rename_i b
 simp only [Option.some.injEq,Prod.mk.injEq] at h
 obtain ⟨hb,rfl⟩:=h
 unfold grpS
 have e1:=zwe b
 have e2:=zwp b
 have e3:=zv6 b true
 have e4:=zxa b true
 rw [za1] at e1 e2 e3 e4
 rw [hb] at e1 e2 e3 e4
 rw [zuA hb] at e2 e3 e4
 unfold chkI at e1 e2 e3 e4
 cases ho:opOk (hval b 32 0) with
 | false =>
  rw [ho] at e1
  exact zab EL0 at_suite_group zg3 (N:=5) (gs:=[(9,true)]) e1
 | true =>
  rw [ho] at e2 e3 e4
  cases h1:decide (hval b 32 0=1) with
  | true =>
   rw [h1] at e2
   exact zab EL0 at_suite_group zg3 (N:=5) (gs:=[(9,false),(13,true)]) e2
  | false =>
   rw [h1] at e3 e4
   cases hp:prS (hval b 32 0) with
   | false=>rw [hp] at e3;exact zab EL0 at_suite_group zg3 (N:=5) (gs:=[(9,false),(13,false),(20,true)]) e3
   | true=>rw [hp] at e4;exact zab EL0 at_suite_group zg3 (N:=5) (gs:=[(9,false),(13,false),(20,false)]) e4
def expS (K:Int):Int:=bif decide (K=0) then 0 else formS (mulS baseS K)
def tExp:TF:=fun args=>match args with
 | [.agg [.ints .u8 32 s]]=>some (areB s 32 0,.tup [b32 (expS (hval s 32 0 % ordL)),.sc (.int .i64 (bif decide (hval s 32 0 % ordL=0) then 9 else 0))])
 | _=>none
theorem c_exp:fnChk prog elE f_suite_Exp=true:=by kernel_rfl
theorem zsO:fnChk prog elE f_rimeref06_Exp=true:=by kernel_rfl
def exE (s:Nat→Int):Int:=(hval (ld0 s) 32 0+hval (fun _=>0) 32 0) % ordL
theorem zxI (s:Nat→Int):outP (apFunc elE [(9,true)] 5 f_suite_Exp [u8s 32 s] []) =
  some (ckL [areB (ld0 s) 32 0&&true,areB (lf (byL 32 (exE s))) 32 0&&(decide (hval (lf (byL 32 (exE s))) 32 0 % ordL=0)==true)],.tup [b32 0,.sc (.int .i64 9)]):=by kernel_rfl
theorem zyj (s:Nat→Int):outP (apFunc elE [(9,false)] 5 f_suite_Exp [u8s 32 s] []) =
  some (ckL [areB (ld0 s) 32 0&&true,areB (lf (byL 32 (exE s))) 32 0&&(decide (hval (lf (byL 32 (exE s))) 32 0 % ordL=0)==false),areB (lf (byL 32 (exE s))) 32 0],.tup [b32 (formS (mulS baseS (hval (lf (byL 32 (exE s))) 32 0))),.sc (.int .i64 0)]):=by kernel_rfl
theorem zxf:hval (fun _=>0) 32 0=0:=by decide
theorem zjQ (x:Int):0≤x % ordL∧x % ordL<R256:=⟨Int.emod_nonneg _ (by decide),Int.lt_trans (Int.emod_lt_of_pos _ (by decide)) (by decide)⟩
theorem b_ord (x:Int):hval (lf (byL 32 (x % ordL))) 32 0=x % ordL:=zcj (zjQ x).1 (zjQ x).2
theorem zuw (x:Int):x % ordL % ordL=x % ordL:=Int.emod_emod_of_dvd x (Int.dvd_refl ordL)
theorem r_exp:TRow prog F_suite_Exp tExp:=by
 intro args r h
 unfold tExp at h
 split at h
 case h_2=>simp at h
 rename_i s
 simp only [Option.some.injEq,Prod.mk.injEq] at h
 obtain ⟨hs,rfl⟩:=h
 have e1:=zxI s
 have e2:=zyj s
 have ea:exE s=hval s 32 0 % ordL:=by unfold exE;rw [za1,zxf,Int.add_zero]
 rw [za1,ea,za0,b_ord,zuw,hs] at e1 e2
 unfold expS
 cases hz:decide (hval s 32 0 % ordL=0) with
 | true=>rw [hz] at e1;exact zab EL0 at_suite_Exp c_exp (N:=5) (gs:=[(9,true)]) e1
 | false=>rw [hz] at e2;exact zab EL0 at_suite_Exp c_exp (N:=5) (gs:=[(9,false)]) e2
theorem zi5 {x:Int} (hx:0≤x∧x<R256):eqN 32 (lf (byL 32 x)) (fun _=>0)=decide (x=0):=by
 rw [zes,zdA (f':=lf (byL 32 0)) (by decide),zes]
 exact zj7 hx (by decide)
theorem zxB (s:Nat→Int):outP (apFunc elE [(8,true)] 5 f_rimeref06_Exp [u8s 32 s] []) =
  some (ckL [areB (fun j=>row1 s j 0) 32 0,(eqN 32 (lf (byL 32 (hval (fun j=>row1 s j 0) 32 0 % ordL))) (fun _=>0)&&true)==true],.tup [b32 0,.sc (.int .i64 9)]):=by kernel_rfl
theorem zyG (s:Nat→Int):outP (apFunc elE [(8,false)] 5 f_rimeref06_Exp [u8s 32 s] []) =
  some (ckL [areB (fun j=>row1 s j 0) 32 0,(eqN 32 (lf (byL 32 (hval (fun j=>row1 s j 0) 32 0 % ordL))) (fun _=>0)&&true)==false,areB (lf (byL 32 (hval (fun j=>row1 s j 0) 32 0 % ordL))) 32 0],.tup [b32 (formS (mulS baseS (hval (lf (byL 32 (hval (fun j=>row1 s j 0) 32 0 % ordL))) 32 0))),.sc (.int .i64 0)]):=by kernel_rfl
theorem zwH:TRow prog F_rimeref06_Exp tExp:=by
 intro args r h
 unfold tExp at h
 split at h
 case h_2=>simp at h
 rename_i s
 simp only [Option.some.injEq,Prod.mk.injEq] at h
 obtain ⟨hs,rfl⟩:=h
 have e1:=zxB s
 have e2:=zyG s
 rw [ziL hs,ziH,zi5 (zjQ _)] at e1 e2
 rw [za0,b_ord] at e2
 unfold expS
 cases hz:decide (hval s 32 0 % ordL=0) with
 | true=>rw [hz] at e1;exact zab EL0 at_rimeref06_Exp zsO (N:=5) (gs:=[(8,true)]) e1
 | false=>rw [hz] at e2;exact zab EL0 at_rimeref06_Exp zsO (N:=5) (gs:=[(8,false)]) e2
end Go.Proofs.YtplaklpfeabhiaaGreat
namespace Go.Proofs.YtplaklpfeabhiaaGreat
open Go.Proofs.Tryz
open Go Go.AM
def rowsB (f:Nat→Nat→Int) (n:Nat):Bool:=(List.range n).all fun j=>areB (f j) 32 0
theorem rowsB_t {f:Nat→Nat→Int} {n:Nat}:rowsB f n=true ↔ ∀ j,j<n→areB (f j) 32 0=true:=by simp [rowsB]
end Go.Proofs.YtplaklpfeabhiaaGreat
namespace Go.Proofs.YtplaklpfeabhiaaGreat
open Go.Proofs.Tryz
open Go Go.AM
noncomputable def ve0:List (Nat × TF):=[(F_scalar_MulAdd,tMulAdd)]
theorem VE0:LibOK prog tt ve0 []:=L0.addT zky
noncomputable def evB:Code:=match Func.body f_shamir_Eval with | some c=>(match bodiesOf 0 c with | [.loop b]=>b | _=>.skip) | none=>.skip
theorem zjv:(Func.body f_shamir_Eval).map (bodiesOf 0)=some [.loop evB]:=by kernel_rfl
theorem ev_ok:codeOK prog (EnvP.env (envL tt ve0 [] [])).isW evB=true:=by kernel_rfl
def evS (t:Bool) (n:Nat) (f:Nat→Nat→Int) (x:Nat→Int) (i1:Int) (x1:Nat→Int):St:=⟨tmOf [(0,AV.sc (SV.vints t IntKind.u8 32 n f)),(3,AV.sc (SV.ptr 0 32 0 0 32)),(4,AV.sc (SV.ptr 1 32 0 0 32)),(5,AV.sc (SV.ptr 2 32 0 0 32)),(6,AV.sc (SV.int IntKind.i64 i1))] 22 0,[some (Blk.ints IntKind.u8 32 1 fun r=>x),some (Blk.ints IntKind.u8 32 1 fun r d=>0),some (Blk.ints IntKind.u8 32 1 fun r=>x1)]⟩
noncomputable def zhp (t:Bool) (n:Nat) (f:Nat→Nat→Int) (x:Nat→Int) (i1:Int) (x1:Nat→Int):Nat→Int:=lf (byL 32 ((hval x1 32 0*hval x 32 0+hval (f (Int.toNat i1)) 32 0) % ordL))
def evT1 (x x1:Nat→Int):St:=⟨tmOf [(4,(AV.sc (SV.ptr 1 32 0 0 32))),(5,(AV.sc (SV.ptr 2 32 0 0 32)))] 22 0,[some (Blk.ints IntKind.u8 32 1 (fun _=>x)),some (Blk.ints IntKind.u8 32 1 (fun _=>(fun d=>0))),some (Blk.ints IntKind.u8 32 1 (fun _=>x1))]⟩
inductive evO where
 | e1 (x x1:Nat→Int)
def evex:evO→Ex
 | .e1 ..=>.normal
def evT:evO→St
 | .e1 x x1=>evT1 x x1
noncomputable def evrun (t:Bool) (n:Nat) (f:Nat→Nat→Int) (x:Nat→Int):Nat→(Int)→(Nat→Int)→Option evO
 | 0,_,_=>none
 | m_+1,i1,x1=>bif ckL [decide (i1 ≥ 0)==true,inR i1 n,areB x1 32 0&&(areB x 32 0&&areB (f (Int.toNat i1)) 32 0)] then evrun t n f x m_ (wr IntKind.i64 (i1 - 1)) (zhp t n f x i1 x1)
  else bif ckL [decide (i1 ≥ 0)==false] then some (.e1 (x) (x1))
  else none
theorem evq (t:Bool) (n:Nat) (f:Nat→Nat→Int) (x:Nat→Int):∀ (m_:Nat) (i1:Int) (x1:Nat→Int) (o_:evO),evrun t n f x m_ i1 x1=some o_→∃ e1,leave 0 e1=some (evex o_)∧Runs prog 5 3 evB (evS t n f x i1 x1) e1 (evT o_):=by
 intro m_
 induction m_ with
 | zero=>intro i1 x1 o_ h;cases h
 | succ m_ ih =>
  intro i1 x1 o_ h
  rw [evrun] at h
  rcases bifS h with ⟨h1,h⟩ | ⟨_,h⟩
  ·obtain ⟨e1,q1,q2⟩:=ih _ _ o_ h
   exact ⟨e1,q1,.step (Rd.of_round VE0 LsOK.nil zjv ev_ok (gs:=[(11,true)]) (N:=5) (n:=3) (zs:=[]) (l:=[]) (keep:=[0,3,4,5,6]) (bs:=[.one,.one,.one]) (by kernel_rfl) h1 rfl) (Nat.le_of_ble_eq_true rfl) q2⟩
  rcases bifS h with ⟨h1,h⟩ | ⟨_,h⟩
  ·obtain rfl:=Option.some.inj h
   exact ⟨(.exit 0),rfl,.stop (Rd.of_round VE0 LsOK.nil zjv ev_ok (gs:=[(11,false)]) (N:=5) (n:=3) (zs:=[]) (l:=[]) (keep:=[4,5]) (bs:=[.one,.one,.one]) (by kernel_rfl) h1 rfl)⟩
  cases h
theorem evL (t:Bool) (n:Nat) (f:Nat→Nat→Int) (x:Nat→Int) {l_:List Nat} {m_:Nat} {i1:Int} {x1:Nat→Int} {o_:evO} (h:evrun t n f x m_ i1 x1=some o_):LRow prog f_shamir_Eval 0 (famV 3 l_ (evS t n f x i1 x1) (evex o_) (evT o_)):=LRow.runs mix zjv rfl (evq t n f x m_ i1 x1 o_ h)
theorem zqs (t:Bool) (n:Nat) (f:Nat→Nat→Int) (x x_1 x1:Nat→Int):stZ [] (rnm 3 []) { tm:=tmOf [(0,AV.sc (SV.vints t IntKind.u8 32 n f)),(3,AV.sc (SV.ptr 0 32 0 0 32)),(4,AV.sc (SV.ptr 1 32 0 0 32)),(5,AV.sc (SV.ptr 2 32 0 0 32)),(6,AV.sc (SV.int IntKind.i64 (wr IntKind.i64 ((n:Int) - 1))))] 22 0,hp:=[some (Blk.ints IntKind.u8 32 1 fun j=>x),some (Blk.ints IntKind.u8 32 1 fun j d=>0),some (Blk.ints IntKind.u8 32 1 fun j d=>0)] } (evS t n f x (wr IntKind.i64 ((n:Int) - 1)) fun d=>0)=true:=by simp [stZ,tmOf,tmZ,avZ,svZ,segZ,svR,capR,segR,rIs,rnm,zaj,eqF_1,zam,zaD,zan,hpZ,blkZ,dP_t,newEl,kdOfZ,ndR,isZ,evS] <;> decide
theorem zyo (t:Bool) (n:Nat) (f:Nat→Nat→Int) (x x_1 x1:Nat→Int) (m1:Nat) (r1:evrun (t) (n) (f) (x) m1 (wr IntKind.i64 ((n:Int) - 1)) (fun d=>0)=some (evO.e1 x_1 x1)) (h:ckL []=true):Pure prog F_shamir_Eval [AV.sc (SV.vints t IntKind.u8 32 n f),u8s 32 x] (AV.agg [Seg.ints IntKind.u8 32 (lf (tabL x1 32 0))]) :=
 zad VE0 at_shamir_Eval (LsOK.nil.cons (evL (t) (n) (f) (x) (l_:=[]) r1)) (by kernel_rfl) (N:=5) (gs:=[]) (Eq.trans (by kernel_rfl) (o1 (ckIns 0 (zqs t n f x x_1 x1) h)))
def hF (f:Nat→Nat→Int):Nat→Int:=fun j=>hval (f j) 32 0
theorem zjl (x:Int):hval (lf (byL 32 (x % ordL))) 32 0=x % ordL:=zcj (zaA x).1 (by have:=zaA x;omega)
theorem ze6 {y:Nat→Int} (h:areB y 32 0=true):AV.agg [Seg.ints IntKind.u8 32 (lf (tabL y 32 0))]=b32 (hval y 32 0):=by rw [← zcR h];rfl
theorem zy5 {t:Bool} {n:Nat} {f:Nat→Nat→Int} {x:Nat→Int} (hn:n≤1073741824) (hf:rowsB f n=true) (hx:areB x 32 0=true):∀ (k m:Nat) (y:Nat→Int),k≤n→k<m→areB y 32 0=true →
  hval y 32 0=hs (hF f) (hval x 32 0) (n - k) k→∃ z,evrun t n f x m ((k:Int) - 1) y=some (.e1 x z)∧areB z 32 0=true∧hval z 32 0=hs (hF f) (hval x 32 0) n 0:=by
 intro k
 induction k with
 | zero =>
  intro m y _ hm hy e
  obtain ⟨m,rfl⟩:∃ k,m=k+1:=⟨m - 1,by omega⟩
  refine ⟨y,?_,hy,e⟩
  rw [evrun];simp [ckL]
 | succ k ih =>
  intro m y hk hm hy e
  obtain ⟨m,rfl⟩:∃ k,m=k+1:=⟨m - 1,by omega⟩
  have e1:((k+1:Nat):Int) - 1=(k:Int):=by omega
  have e2:wr .i64 ((k:Int) - 1)=(k:Int) - 1:=zbn (by omega) (by omega)
  have hfk:=rowsB_t.1 hf k (by omega)
  obtain ⟨z,h1,h2⟩:=ih m (zhp t n f x (k:Int) y) (by omega) (by omega) (za0 _) (by
   unfold zhp
   rw [zjl,Int.toNat_natCast,e,show n - k=(n - (k+1))+1 by omega];rfl)
  refine ⟨z,?_,h2⟩
  rw [evrun,e1,e2,h1]
  simp [ckL,zaM (show k<n by omega),hy,hx,hfk]
def tEval:TF:=fun args=>match args with
 | [.sc (.vints _ .u8 32 n f),.agg [.ints .u8 32 x]]=>some (Nat.ble n 1073741824&&(rowsB f n&&areB x 32 0),b32 (hs (hF f) (hval x 32 0) n 0))
 | _=>none
theorem zyJ:TRow prog F_shamir_Eval tEval:=by
 intro args r h
 unfold tEval at h
 split at h
 case h_2=>simp at h
 rename_i t n f x
 simp only [Option.some.injEq,Prod.mk.injEq,Bool.and_eq_true,ble_t] at h
 obtain ⟨⟨hn,hf,hx⟩,rfl⟩:=h
 obtain ⟨z,h1,h2,h3⟩:=zy5 (t:=t) hn hf hx n (n+1) (fun _=>0) (Nat.le_refl _) (by omega) (by decide) (by rw [Nat.sub_self];show hval (fun _=>(0:Int)) 32 0=0;decide)
 rw [← zbn (x:=(n:Int) - 1) (by omega) (by omega)] at h1
 have e:=zyo t n f x _ _ _ h1 rfl
 rw [ze6 h2,h3] at e
 exact e
end Go.Proofs.YtplaklpfeabhiaaGreat
namespace Go.Proofs.YtplaklpfeabhiaaGreat
open Go.Proofs.Tryz
open Go Go.AM
theorem wr64n {x:Int} (h0:0≤x) (h1:x<18446744073709551616):wr .u64 x=x:=by
 rw [wr64];omega
noncomputable def mzB:Code:=match f_rimeref02_mul.body with | some c=>(match bodiesOf 0 c with | [.loop b]=>b | _=>.skip) | none=>.skip
def mzC (x y:Nat→Int) (F:Nat→Nat→Int) (i:Nat):Nat→Int
 | 0=>0
 | k+1=>ishr .u64 (wr .u64 (wr .u64 (mzC x y F i k+wr .u64 (F (i+k) 0))+wr .u64 (wr .u64 (x i)*wr .u64 (y k)))) 32
def mzV (x y:Nat→Int) (F:Nat→Nat→Int) (i k:Nat):Int:=wr .u32 (wr .u64 (wr .u64 (mzC x y F i k+wr .u64 (F (i+k) 0))+wr .u64 (wr .u64 (x i)*wr .u64 (y k))))
def mzN (x y:Nat→Int) (F:Nat→Nat→Int) (i:Nat):Nat→Nat→Int:=fun r d =>
 bif Nat.beq r (i+8)&&Nat.beq d 0 then wr .u32 (mzC x y F i 8)
 else bif Nat.beq r (i+7)&&Nat.beq d 0 then mzV x y F i 7
 else bif Nat.beq r (i+6)&&Nat.beq d 0 then mzV x y F i 6
 else bif Nat.beq r (i+5)&&Nat.beq d 0 then mzV x y F i 5
 else bif Nat.beq r (i+4)&&Nat.beq d 0 then mzV x y F i 4
 else bif Nat.beq r (i+3)&&Nat.beq d 0 then mzV x y F i 3
 else bif Nat.beq r (i+2)&&Nat.beq d 0 then mzV x y F i 2
 else bif Nat.beq r (i+1)&&Nat.beq d 0 then mzV x y F i 1
 else bif Nat.beq r (i+0)&&Nat.beq d 0 then mzV x y F i 0
 else F r d
def mzW (x y:Nat→Int) (v:Int) (F:Nat→Nat→Int):St:=⟨tmOf [(2,.sc (.ptr 0 8 0 0 8)),(3,.sc (.ptr 1 8 0 0 8)),(4,.sc (.ptr 2 8 0 0 8)),(5,.sc (.slice 3 1 0 0 1 16)),(6,.sc (.int .i64 v))] 54 0,
 [some (.ints .u32 8 1 (fun _ d=>x d)),some (.ints .u32 8 1 (fun _ d=>y d)),some (.ints .u32 8 1 (fun _ _=>0)),some (.ints .u32 1 16 F)]⟩
theorem zuS (x y:Nat→Int) (v:Int) {F G:Nat→Nat→Int} (h:eqF 16 1 F G=true):stB (mzW x y v F) (mzW x y v G)=true:=by
 simp [stB,mzW,tmOf,tmB,avB,svB,hpB,blkB,zam,kEq,h]
def mzT (x y:Nat→Int) (F:Nat→Nat→Int):St:=⟨tmOf [(4,.sc (.ptr 2 8 0 0 8)),(5,.sc (.slice 3 1 0 0 1 16))] 54 0,(mzW x y 0 F).hp⟩
theorem zqr (x y:Nat→Int) {F G:Nat→Nat→Int} (h:eqF 16 1 F G=true):stB (mzT x y F) (mzT x y G)=true:=by
 simp [stB,mzT,mzW,tmOf,tmB,avB,svB,hpB,blkB,zam,kEq,h]
theorem zvn (x y:Nat→Int) (F:Nat→Nat→Int):roundB pE [] 20 mzB (mzW x y 8 F) (.exit 0) (mzT x y F)=some (ckL []&&stB (mzT x y F) (mzT x y F)):=by kernel_rfl
theorem mz_r0 (x y:Nat→Int) (F G:Nat→Nat→Int):roundB pE [] 20 mzB (mzW x y 0 F) .normal (mzW x y 1 G)=some (ckL []&&stB (mzW x y 1 (mzN x y F 0)) (mzW x y 1 G)):=by kernel_rfl
theorem mz_r1 (x y:Nat→Int) (F G:Nat→Nat→Int):roundB pE [] 20 mzB (mzW x y 1 F) .normal (mzW x y 2 G)=some (ckL []&&stB (mzW x y 2 (mzN x y F 1)) (mzW x y 2 G)):=by kernel_rfl
theorem mz_r2 (x y:Nat→Int) (F G:Nat→Nat→Int):roundB pE [] 20 mzB (mzW x y 2 F) .normal (mzW x y 3 G)=some (ckL []&&stB (mzW x y 3 (mzN x y F 2)) (mzW x y 3 G)):=by kernel_rfl
theorem mz_r3 (x y:Nat→Int) (F G:Nat→Nat→Int):roundB pE [] 20 mzB (mzW x y 3 F) .normal (mzW x y 4 G)=some (ckL []&&stB (mzW x y 4 (mzN x y F 3)) (mzW x y 4 G)):=by kernel_rfl
theorem mz_r4 (x y:Nat→Int) (F G:Nat→Nat→Int):roundB pE [] 20 mzB (mzW x y 4 F) .normal (mzW x y 5 G)=some (ckL []&&stB (mzW x y 5 (mzN x y F 4)) (mzW x y 5 G)):=by kernel_rfl
theorem mz_r5 (x y:Nat→Int) (F G:Nat→Nat→Int):roundB pE [] 20 mzB (mzW x y 5 F) .normal (mzW x y 6 G)=some (ckL []&&stB (mzW x y 6 (mzN x y F 5)) (mzW x y 6 G)):=by kernel_rfl
theorem mz_r6 (x y:Nat→Int) (F G:Nat→Nat→Int):roundB pE [] 20 mzB (mzW x y 6 F) .normal (mzW x y 7 G)=some (ckL []&&stB (mzW x y 7 (mzN x y F 6)) (mzW x y 7 G)):=by kernel_rfl
theorem mz_r7 (x y:Nat→Int) (F G:Nat→Nat→Int):roundB pE [] 20 mzB (mzW x y 7 F) .normal (mzW x y 8 G)=some (ckL []&&stB (mzW x y 8 (mzN x y F 7)) (mzW x y 8 G)):=by kernel_rfl
theorem zqM (x y:Nat→Int) (F G:Nat→Nat→Int):∀ i:Nat,i<8→roundB pE [] 20 mzB (mzW x y (i:Int) F) .normal (mzW x y ((i+1:Nat):Int) G)=some (ckL []&&stB (mzW x y ((i+1:Nat):Int) (mzN x y F i)) (mzW x y ((i+1:Nat):Int) G))
 | 0,_=>mz_r0 x y F G
 | 1,_=>mz_r1 x y F G
 | 2,_=>mz_r2 x y F G
 | 3,_=>mz_r3 x y F G
 | 4,_=>mz_r4 x y F G
 | 5,_=>mz_r5 x y F G
 | 6,_=>mz_r6 x y F G
 | 7,_=>mz_r7 x y F G
 | _+8,h=>by omega
theorem ziJ (P:Int) (i j:Nat):dig (sh P i) j=dig P (i+j):=by rw [zcD,zcD,zmF]
theorem mz_ca {x y:Nat→Int} {F:Nat→Nat→Int} {i:Nat} {Hi Y:Int} (hx:W32 (x i)) (hy:∀ j,j<8→y j=dig Y j) (hF:∀ j,j<8→F (i+j) 0=dig Hi j) :
  ∀ k,k≤8→mzC x y F i k=caC (dig Hi) (dig Y) (x i) k∧(k<8→mzV x y F i k=dig (Hi+x i*Y) k)
 | k,hk=>by
  have hc:mzC x y F i k=caC (dig Hi) (dig Y) (x i) k:=by
   cases k with
   | zero=>rfl
   | succ k =>
    have e:=(mz_ca (F:=F) (Hi:=Hi) hx hy hF k (by omega)).1
    obtain ⟨_,c0,c1⟩:=zee (f:=dig Hi) (g:=dig Y) (F:=Hi) (G:=Y) hx (fun _=>rfl) (fun _=>rfl) k
    obtain ⟨_,s0,s1⟩:=znW (f:=dig Hi) (g:=dig Y) (F:=Hi) (G:=Y) hx (fun _=>rfl) (fun _=>rfl) k
    rw [zfl] at s0 s1
    have d0:=dig_W k Hi
    have d1:=dig_W k Y
    unfold W32 at hx d0 d1
    have hp:0≤x i*dig Y k∧x i*dig Y k≤4294967295*4294967295:=⟨Int.mul_nonneg hx.1 d1.1,Int.mul_le_mul (by omega) (by omega) (by omega) (by omega)⟩
    show ishr .u64 (wr .u64 (wr .u64 (mzC x y F i k+wr .u64 (F (i+k) 0))+wr .u64 (wr .u64 (x i)*wr .u64 (y k)))) 32=caS (dig Hi) (dig Y) (x i) k / 4294967296
    rw [e,hF k (by omega),hy k (by omega),zfl]
    generalize caC (dig Hi) (dig Y) (x i) k=c at *
    generalize dig Hi k=f at *
    generalize dig Y k=g at *
    generalize x i=u at *
    rw [wr64n (x:=f) (by omega) (by omega),wr64n (x:=u) (by omega) (by omega),wr64n (x:=g) (by omega) (by omega),wr64n (x:=u*g) (by omega) (by omega),wr64n (x:=c+f) (by omega) (by omega),wr64n (by omega) (by omega)]
    exact ishr32
  refine ⟨hc,fun hk8=>?_⟩
  obtain ⟨_,c0,c1⟩:=zee (f:=dig Hi) (g:=dig Y) (F:=Hi) (G:=Y) hx (fun _=>rfl) (fun _=>rfl) k
  obtain ⟨sd,s0,s1⟩:=znW (f:=dig Hi) (g:=dig Y) (F:=Hi) (G:=Y) hx (fun _=>rfl) (fun _=>rfl) k
  rw [zfl] at s0 s1 sd
  have d0:=dig_W k Hi
  have d1:=dig_W k Y
  unfold W32 at hx d0 d1
  have hp:0≤x i*dig Y k∧x i*dig Y k≤4294967295*4294967295:=⟨Int.mul_nonneg hx.1 d1.1,Int.mul_le_mul (by omega) (by omega) (by omega) (by omega)⟩
  unfold mzV
  rw [hc,hF k (by omega),hy k (by omega),← sd,wr32]
  generalize caC (dig Hi) (dig Y) (x i) k=c at *
  generalize dig Hi k=f at *
  generalize dig Y k=g at *
  generalize x i=u at *
  rw [wr64n (x:=f) (by omega) (by omega),wr64n (x:=u) (by omega) (by omega),wr64n (x:=g) (by omega) (by omega),wr64n (x:=u*g) (by omega) (by omega),wr64n (x:=c+f) (by omega) (by omega),wr64n (by omega) (by omega)]
def pK (x:Nat→Int) (Y:Int):Nat→Int
 | 0=>0
 | k+1=>pK x Y k+4294967296 ^ k*(x k*Y)
theorem zkh {x:Nat→Int} {Y:Int} (hx:∀ j,j<8→W32 (x j)) (h0:0≤Y):∀ k,k≤8→0≤pK x Y k∧pK x Y k≤(4294967296 ^ k - 1)*Y
 | 0,_=>by
  show (0:Int)≤0∧(0:Int)≤(4294967296 ^ 0 - 1)*Y
  rw [Int.pow_zero];omega
 | k+1,hk=>by
  obtain ⟨a,b⟩:=zkh hx h0 k (by omega)
  have hw:=hx k (by omega)
  unfold W32 at hw
  have hp:(0:Int)<4294967296 ^ k:=Int.pow_pos (by omega)
  show 0≤pK x Y k+4294967296 ^ k*(x k*Y)∧pK x Y k+4294967296 ^ k*(x k*Y)≤(4294967296 ^ (k+1) - 1)*Y
  rw [Int.pow_succ]
  generalize (4294967296:Int) ^ k=B at *
  have h1:0≤x k*Y:=Int.mul_nonneg hw.1 h0
  have h2:x k*Y≤4294967295*Y:=Int.mul_le_mul_of_nonneg_right (by omega) h0
  have h3:0≤B*(x k*Y):=Int.mul_nonneg (by omega) h1
  have h4:B*(x k*Y)≤B*(4294967295*Y):=Int.mul_le_mul_of_nonneg_left h2 (by omega)
  refine ⟨by omega,?_⟩
  have e1:(B*4294967296 - 1)*Y=(B - 1)*Y+B*(4294967295*Y):=by
   generalize x k=xx at *
   clear a b h1 h2 h3 h4 hp hw
   grind
  rw [e1];omega
theorem zwN {Y:Int} {k:Nat} (h0:0≤Y) (h1:Y<4294967296 ^ 8):(4294967296 ^ k - 1)*Y<4294967296 ^ (k+8):=by
 have hp:(0:Int)<4294967296 ^ k:=Int.pow_pos (by omega)
 rw [Int.pow_add]
 generalize (4294967296:Int) ^ k=B at *
 have e1:(B - 1)*Y≤(B - 1)*4294967296 ^ 8:=Int.mul_le_mul_of_nonneg_left (by omega) (by omega)
 have e2:(B - 1)*(4294967296:Int) ^ 8=B*4294967296 ^ 8 - 4294967296 ^ 8:=by rw [Int.sub_mul,Int.one_mul]
 have:(0:Int)<4294967296 ^ 8:=by decide
 omega
theorem nbd (a b:Nat):Nat.beq a b=decide (a=b):=by
 by_cases h:a=b
 ·rw [decide_eq_true h];exact beq_t.2 h
 ·rw [decide_eq_false h]
  cases hb:Nat.beq a b with
  | false=>rfl
  | true=>exact absurd (Nat.eq_of_beq_eq_true hb) h
theorem zns {x y:Nat→Int} {i:Nat} {P Y:Int} (hx:W32 (x i)) (hy:∀ j,j<8→y j=dig Y j) (hY:0≤Y∧Y<4294967296 ^ 8) (hP:0≤P∧P<4294967296 ^ (i+8))
  (hP2:P+4294967296 ^ i*(x i*Y)<4294967296 ^ (i+9)):∀ r,mzN x y (fun r _=>dig P r) i r 0=dig (P+4294967296 ^ i*(x i*Y)) r:=by
 intro r
 have hca:=mz_ca (x:=x) (y:=y) (F:=fun r _=>dig P r) (i:=i) (Hi:=sh P i) hx hy (fun j _=>(ziJ P i j).symm)
 have hh:=zum P (x i*Y) i
 have hnn:0≤P+4294967296 ^ i*(x i*Y):=by
  have hp:(0:Int)<4294967296 ^ i:=Int.pow_pos (by omega)
  have h1:0≤x i*Y:=Int.mul_nonneg hx.1 hY.1
  have h3:0≤4294967296 ^ i*(x i*Y):=Int.mul_nonneg (by omega) h1
  omega
 by_cases h1:r<i
 ·rw [zv1 P (x i*Y) i r h1]
  simp only [mzN,nbd,decide_eq_false (show ¬ r=i+8 by omega),decide_eq_false (show ¬ r=i+7 by omega),decide_eq_false (show ¬ r=i+6 by omega),decide_eq_false (show ¬ r=i+5 by omega),decide_eq_false (show ¬ r=i+4 by omega),decide_eq_false (show ¬ r=i+3 by omega),decide_eq_false (show ¬ r=i+2 by omega),decide_eq_false (show ¬ r=i+1 by omega),decide_eq_false (show ¬ r=i+0 by omega),Bool.false_and,cond_false]
 ·by_cases h2:i+8<r
  ·rw [zgu hnn hP2 (by omega)]
   simp only [mzN,nbd,decide_eq_false (show ¬ r=i+8 by omega),decide_eq_false (show ¬ r=i+7 by omega),decide_eq_false (show ¬ r=i+6 by omega),decide_eq_false (show ¬ r=i+5 by omega),decide_eq_false (show ¬ r=i+4 by omega),decide_eq_false (show ¬ r=i+3 by omega),decide_eq_false (show ¬ r=i+2 by omega),decide_eq_false (show ¬ r=i+1 by omega),decide_eq_false (show ¬ r=i+0 by omega),Bool.false_and,cond_false]
   exact zgu hP.1 hP.2 (by omega)
  ·obtain ⟨j,rfl⟩:∃ j,r=i+j:=⟨r - i,by omega⟩
   rw [← ziJ (P+4294967296 ^ i*(x i*Y)) i j,hh]
   have hj:j<9:=by omega
   match j,hj with
   | 0,_=>simp only [mzN,nbd,decide_eq_false (show ¬ i+0=i+8 by omega),decide_eq_false (show ¬ i+0=i+7 by omega),decide_eq_false (show ¬ i+0=i+6 by omega),decide_eq_false (show ¬ i+0=i+5 by omega),decide_eq_false (show ¬ i+0=i+4 by omega),decide_eq_false (show ¬ i+0=i+3 by omega),decide_eq_false (show ¬ i+0=i+2 by omega),decide_eq_false (show ¬ i+0=i+1 by omega),decide_true,Bool.false_and,Bool.true_and,cond_false,cond_true];exact (hca 0 (by omega)).2 (by omega)
   | 1,_=>simp only [mzN,nbd,decide_eq_false (show ¬ i+1=i+8 by omega),decide_eq_false (show ¬ i+1=i+7 by omega),decide_eq_false (show ¬ i+1=i+6 by omega),decide_eq_false (show ¬ i+1=i+5 by omega),decide_eq_false (show ¬ i+1=i+4 by omega),decide_eq_false (show ¬ i+1=i+3 by omega),decide_eq_false (show ¬ i+1=i+2 by omega),decide_true,Bool.false_and,Bool.true_and,cond_false,cond_true];exact (hca 1 (by omega)).2 (by omega)
   | 2,_=>simp only [mzN,nbd,decide_eq_false (show ¬ i+2=i+8 by omega),decide_eq_false (show ¬ i+2=i+7 by omega),decide_eq_false (show ¬ i+2=i+6 by omega),decide_eq_false (show ¬ i+2=i+5 by omega),decide_eq_false (show ¬ i+2=i+4 by omega),decide_eq_false (show ¬ i+2=i+3 by omega),decide_true,Bool.false_and,Bool.true_and,cond_false,cond_true];exact (hca 2 (by omega)).2 (by omega)
   | 3,_=>simp only [mzN,nbd,decide_eq_false (show ¬ i+3=i+8 by omega),decide_eq_false (show ¬ i+3=i+7 by omega),decide_eq_false (show ¬ i+3=i+6 by omega),decide_eq_false (show ¬ i+3=i+5 by omega),decide_eq_false (show ¬ i+3=i+4 by omega),decide_true,Bool.false_and,Bool.true_and,cond_false,cond_true];exact (hca 3 (by omega)).2 (by omega)
   | 4,_=>simp only [mzN,nbd,decide_eq_false (show ¬ i+4=i+8 by omega),decide_eq_false (show ¬ i+4=i+7 by omega),decide_eq_false (show ¬ i+4=i+6 by omega),decide_eq_false (show ¬ i+4=i+5 by omega),decide_true,Bool.false_and,Bool.true_and,cond_false,cond_true];exact (hca 4 (by omega)).2 (by omega)
   | 5,_=>simp only [mzN,nbd,decide_eq_false (show ¬ i+5=i+8 by omega),decide_eq_false (show ¬ i+5=i+7 by omega),decide_eq_false (show ¬ i+5=i+6 by omega),decide_true,Bool.false_and,Bool.true_and,cond_false,cond_true];exact (hca 5 (by omega)).2 (by omega)
   | 6,_=>simp only [mzN,nbd,decide_eq_false (show ¬ i+6=i+8 by omega),decide_eq_false (show ¬ i+6=i+7 by omega),decide_true,Bool.false_and,Bool.true_and,cond_false,cond_true];exact (hca 6 (by omega)).2 (by omega)
   | 7,_=>simp only [mzN,nbd,decide_eq_false (show ¬ i+7=i+8 by omega),decide_true,Bool.false_and,Bool.true_and,cond_false,cond_true];exact (hca 7 (by omega)).2 (by omega)
   | 8,_ =>
    simp only [mzN,nbd,decide_true,Bool.true_and,cond_true]
    rw [(hca 8 (by omega)).1,wr32,zcD]
    have e:=(zee (f:=dig (sh P i)) (g:=dig Y) (F:=sh P i) (G:=Y) hx (fun _=>rfl) (fun _=>rfl) 8).1
    have z1:=zcT hP.1 (k:=i+8) (m:=0) (by rw [Nat.add_zero];exact hP.2)
    have z2:=zcT hY.1 (k:=8) (m:=0) (by rw [Nat.add_zero];exact hY.2)
    rw [← zmF,Int.pow_zero] at z1
    rw [Int.pow_zero] at z2
    rw [show sh (sh P i) 8=0 by omega,show sh Y 8=0 by omega] at e
    rw [← e]
    simp
   | _+9,h=>omega
end Go.Proofs.YtplaklpfeabhiaaGreat
namespace Go.Proofs.YtplaklpfeabhiaaGreat
open Go.Proofs.Tryz
open Go Go.AM
def mzS (p:(Nat→Int) × (Nat→Int)) (k:Nat):St:=mzW p.1 p.2 (k:Int) (fun r _=>dig (pK p.1 (val8 p.2) k) r)
def mzRd (s:St):Option ((Nat→Int) × (Nat→Int)):=match s.hp with
 | [some (.ints _ _ _ f),some (.ints _ _ _ g),some (.ints _ _ _ _),some (.ints _ _ _ _)]=>some (fun d=>f 0 d,fun d=>g 0 d)
 | _=>none
def mzCk (p:(Nat→Int) × (Nat→Int)):Bool:=inW8 p.1&&inW8 p.2
def mzF:LF:=famF mzRd mzS mzCk (fun _=>.normal) (fun p=>mzT p.1 p.2 (fun r _=>dig (pK p.1 (val8 p.2) 8) r))
theorem zuI:f_rimeref02_mul.body.map (bodiesOf 0)=some [.loop mzB]:=by kernel_rfl
theorem mz_ok:codeOK prog pE.env.isW mzB=true:=by kernel_rfl
theorem mz_hp {s:St} {p:(Nat→Int) × (Nat→Int)} (h:mzRd s=some p):s.hp.length=4∧∀ (i:Nat) (t:Heap),s.hp[i]?=some none→t[i]?=some none:=by
 unfold mzRd at h
 split at h
 ·rename_i hh
  rw [hh]
  refine ⟨rfl,fun i t hi=>?_⟩
  match i,hi with
  | 0,hi=>simp at hi
  | 1,hi=>simp at hi
  | 2,hi=>simp at hi
  | 3,hi=>simp at hi
  | n+4,hi=>simp at hi
 ·simp at h
theorem zjM {a:Nat→Int} (h:inW8 a=true):∀ j,j<8→W32 (a j)∧a j=dig (val8 a) j:=by
 have e:=zfD h
 obtain ⟨h0,h1,h2,h3,h4,h5,h6,h7⟩:=zfc h
 intro j hj
 have q:a j=limbs8 (val8 a) j:=by
  rw [← e]
  match j,hj with
  | 0,_ | 1,_ | 2,_ | 3,_ | 4,_ | 5,_ | 6,_ | 7,_=>rfl
  | _+8,h=>omega
 rw [zeY _ j hj] at q
 exact ⟨by rw [q];exact dig_W j _,q⟩
theorem zkq:R256=(4294967296:Int) ^ 8:=by decide
theorem zgq {x y:Nat→Int} (hx:inW8 x=true) (hy:inW8 y=true) {k:Nat} (hk:k≤8):0≤pK x (val8 y) k∧pK x (val8 y) k<4294967296 ^ (k+8):=by
 have hr:=zbG hy
 obtain ⟨a,b⟩:=zkh (fun j hj=>(zjM hx j hj).1) hr.1 k hk
 exact ⟨a,Int.lt_of_le_of_lt b (zwN hr.1 (by rw [← zkq];exact hr.2))⟩
theorem zvk (p:(Nat→Int) × (Nat→Int)) (hp:mzCk p=true) (k:Nat) (hk:k<8):∃ s1,am pE.env 20 mzB (mzS p k)=some (.normal,s1)∧StLe s1 (mzS p (k+1)):=by
 simp only [mzCk,Bool.and_eq_true] at hp
 refine zaH (zqM p.1 p.2 _ (fun r _=>dig (pK p.1 (val8 p.2) (k+1)) r) k hk) ?_
 have hF:eqF 16 1 (mzN p.1 p.2 (fun r _=>dig (pK p.1 (val8 p.2) k) r) k) (fun r _=>dig (pK p.1 (val8 p.2) (k+1)) r)=true:=by
  refine zaK fun r _ d hd=>?_
  obtain rfl:d=0:=by omega
  have hr:=zbG hp.2
  exact zns (zjM hp.1 k hk).1 (fun j hj=>(zjM hp.2 j hj).2) ⟨hr.1,by rw [← zkq];exact hr.2⟩ (zgq hp.1 hp.2 (by omega)) (zgq hp.1 hp.2 (k:=k+1) (by omega)).2 r
 rw [zuS _ _ _ hF];rfl
theorem l_mz:LRow prog f_rimeref02_mul 0 mzF:=by
 refine LRow.fam (N:=20) (L0.env []) mix (fun _=>8) (zb8 zuI) mz_ok (fun w0 own0=>zat (fun id=>rfl) mzB) (fun s a h=>⟨by rw [(mz_hp h).1];rfl,fun i hi=>(mz_hp h).2 i _ hi⟩) (fun _ _=>rfl) (fun _=>Nat.le_refl _) (fun a ha k hk=>zvk a ha k hk) ?_
 intro p hp
 obtain ⟨s1,h1,h2⟩:=zaH (zvn p.1 p.2 (fun r _=>dig (pK p.1 (val8 p.2) 8) r)) (by rw [zqr _ _ (zam _ _ _)];simp [ckL])
 exact ⟨_,s1,h1,rfl,h2⟩
def tMulN:TF:=fun args=>match args with
 | [.agg [.ints .u32 8 x],.agg [.ints .u32 8 y]]=>some (inW8 x&&inW8 y,n8 (val8 x*val8 y % ordL))
 | _=>none
def mzI (x y:Nat→Int):St:=⟨tmOf [(0,u8w x),(1,u8w y),(2,.sc (.ptr 0 8 0 0 8)),(3,.sc (.ptr 1 8 0 0 8)),(4,.sc (.ptr 2 8 0 0 8)),(5,.sc (.slice 3 1 0 0 1 16)),(6,.sc (.int .i64 0)),(9,.sc (.slice 3 1 0 0 1 16))] 54 0,
 [some (.ints .u32 8 1 (fun _ d=>x d)),some (.ints .u32 8 1 (fun _ d=>y d)),some (.ints .u32 8 1 (fun _ _=>0)),some (.ints .u32 1 16 (fun _ _=>0))]⟩
def mzL (x y:Nat→Int):Nat→Nat→Int:=fun j _=>dig (pK x (val8 y) 8) (0+j)
theorem zwV:fnChk prog (envL tt su2 [] [(0,mzF)]) f_rimeref02_mul=true:=by kernel_rfl
theorem zya (x y:Nat→Int):outP (apFunc (envL tt su2 [] [(0,mzF)]) [] 7 f_rimeref02_mul [u8w x,u8w y] []) =
  some (ckL [mzCk (x,y)&&stB (mzI x y) (mzS (x,y) 0),all32 (mzL x y) 16],n8 (dval (mzL x y) 16 16 % ordL)):=by kernel_rfl
theorem pK8 {x y:Nat→Int}:pK x (val8 y) 8=val8 x*val8 y:=by
 generalize val8 y=Y
 simp only [pK,val8]
 generalize x 0=a0
 generalize x 1=a1
 generalize x 2=a2
 generalize x 3=a3
 generalize x 4=a4
 generalize x 5=a5
 generalize x 6=a6
 generalize x 7=a7
 grind
theorem zys:TRow prog F_rimeref02_mul tMulN:=by
 intro args r h
 unfold tMulN at h
 split at h
 case h_2=>simp at h
 rename_i x y
 simp only [Option.some.injEq,Prod.mk.injEq] at h
 obtain ⟨hb,rfl⟩:=h
 refine zad U2 at_rimeref02_mul (LsOK.nil.cons l_mz) zwV (N:=7) (gs:=[]) ?_
 have hc:mzCk (x,y)=true:=hb
 simp only [Bool.and_eq_true] at hb
 have hs:stB (mzI x y) (mzS (x,y) 0)=true:=by
  have h0:eqF 16 1 (fun _ _=>0) (fun r _=>dig (pK x (val8 y) 0) r)=true:=zaK fun r _ d _=>by
   show 0=dig 0 r
   exact (zgu (k:=0) (by omega) (by decide) (by omega)).symm
  unfold mzI mzS
  simp [stB,mzW,tmOf,tmB,avB,svB,hpB,blkB,zam,kEq,h0]
 have ha:all32 (mzL x y) 16=true:=by
  simp only [all32,List.all_eq_true,List.mem_range]
  exact fun j _=>zbt (dig_W _ _)
 have hv:dval (mzL x y) 16 16=val8 x*val8 y:=by
  rw [zdQ (g:=fun r _=>dig (val8 x*val8 y) r) (fun r _=>by show dig (pK x (val8 y) 8) (0+r)=_;rw [Nat.zero_add,pK8]) 16 (by omega)]
  have hbd:=zgq hb.1 hb.2 (k:=8) (by omega)
  rw [pK8] at hbd
  exact zen hbd.1 hbd.2
 have e:=zya x y
 rw [hs,hc,ha,hv] at e
 exact e
def sv5:List (Nat × TF):=(F_rimeref02_mul,tMulN)::su2
theorem V5:LibOK prog tt sv5 []:=U2.addT zys
def tMul2:TF:=fun args=>match args with
 | [.agg [.ints .u8 32 a],.agg [.ints .u8 32 b]]=>some (areB a 32 0&&areB b 32 0,b32 (hval a 32 0*hval b 32 0 % ordL))
 | _=>none
theorem zwh:fnChk prog (envP tt sv5 []) f_rimeref02_Mul=true:=by kernel_rfl
theorem zyT (a b:Nat→Int):outP (apFunc (envP tt sv5 []) [] 5 f_rimeref02_Mul [u8s 32 a,u8s 32 b] []) =
  some (ckL [areB a 32 0,areB b 32 0,inW8 (limbs8 (hval a 32 0 % ordL))&&inW8 (limbs8 (hval b 32 0 % ordL)),inW8 (limbs8 (val8 (limbs8 (hval a 32 0 % ordL))*val8 (limbs8 (hval b 32 0 % ordL)) % ordL))],
   b32 (val8 (limbs8 (val8 (limbs8 (hval a 32 0 % ordL))*val8 (limbs8 (hval b 32 0 % ordL)) % ordL)))):=by kernel_rfl
theorem zsZ (x:Int):val8 (limbs8 (x % ordL))=x % ordL:=by
 have hm:=zaA x
 exact zbs hm.1 (by unfold R256;omega)
theorem zsl:TRow prog F_rimeref02_Mul tMul2:=by
 intro args r h
 unfold tMul2 at h
 split at h
 case h_2=>simp at h
 rename_i a b
 simp only [Option.some.injEq,Prod.mk.injEq] at h
 obtain ⟨hb,rfl⟩:=h
 refine zab V5 at_rimeref02_Mul zwh (N:=5) (gs:=[]) ?_
 simp only [Bool.and_eq_true] at hb
 have e:=zyT a b
 rw [hb.1,hb.2] at e
 simp only [zbq,zsZ,← Int.mul_emod] at e
 exact e
def adC (x y:Nat→Int):Nat→Int
 | 0=>0
 | k+1=>ishr .u64 (wr .u64 (wr .u64 (adC x y k+wr .u64 (x k))+wr .u64 (y k))) 32
def adV (x y:Nat→Int) (k:Nat):Int:=wr .u32 (wr .u64 (wr .u64 (adC x y k+wr .u64 (x k))+wr .u64 (y k)))
def adL (x y:Nat→Int):Nat→Nat→Int:=fun j d=>bif Nat.beq (0+j) 8&&Nat.beq (0+d) 0 then wr .u32 (adC x y 8)
 else bif Nat.beq (0+j) 7&&Nat.beq (0+d) 0 then adV x y 7
 else bif Nat.beq (0+j) 6&&Nat.beq (0+d) 0 then adV x y 6
 else bif Nat.beq (0+j) 5&&Nat.beq (0+d) 0 then adV x y 5
 else bif Nat.beq (0+j) 4&&Nat.beq (0+d) 0 then adV x y 4
 else bif Nat.beq (0+j) 3&&Nat.beq (0+d) 0 then adV x y 3
 else bif Nat.beq (0+j) 2&&Nat.beq (0+d) 0 then adV x y 2
 else bif Nat.beq (0+j) 1&&Nat.beq (0+d) 0 then adV x y 1
 else bif Nat.beq (0+j) 0&&Nat.beq (0+d) 0 then adV x y 0
 else 0
def tAdd2:TF:=fun args=>match args with
 | [.agg [.ints .u8 32 a],.agg [.ints .u8 32 b]]=>some (areB a 32 0&&areB b 32 0,b32 ((hval a 32 0+hval b 32 0) % ordL))
 | _=>none
theorem zyN:fnChk prog (envP tt sv5 []) f_rimeref02_Add=true:=by kernel_rfl
theorem zyS (a b:Nat→Int):outP (apFunc (envP tt sv5 []) [] 20 f_rimeref02_Add [u8s 32 a,u8s 32 b] []) =
  some (ckL [areB a 32 0,areB b 32 0,all32 (adL (limbs8 (hval a 32 0 % ordL)) (limbs8 (hval b 32 0 % ordL))) 9,
   inW8 (limbs8 (dval (adL (limbs8 (hval a 32 0 % ordL)) (limbs8 (hval b 32 0 % ordL))) 9 9 % ordL))],b32 (val8 (limbs8 (dval (adL (limbs8 (hval a 32 0 % ordL)) (limbs8 (hval b 32 0 % ordL))) 9 9 % ordL)))):=by kernel_rfl
theorem ad_ca {x y:Nat→Int} {X Y:Int} (hx:∀ j,j<8→x j=dig X j) (hy:∀ j,j<8→y j=dig Y j) :
  ∀ k,k≤8→adC x y k=caC (dig X) (dig Y) 1 k∧(k<8→adV x y k=dig (X+1*Y) k)
 | k,hk=>by
  have h1:W32 1:=⟨by omega,by omega⟩
  have hc:adC x y k=caC (dig X) (dig Y) 1 k:=by
   cases k with
   | zero=>rfl
   | succ k =>
    have e:=(ad_ca hx hy k (by omega)).1
    obtain ⟨_,c0,c1⟩:=zee (f:=dig X) (g:=dig Y) (F:=X) (G:=Y) h1 (fun _=>rfl) (fun _=>rfl) k
    have d0:=dig_W k X
    have d1:=dig_W k Y
    unfold W32 at d0 d1
    show ishr .u64 (wr .u64 (wr .u64 (adC x y k+wr .u64 (x k))+wr .u64 (y k))) 32=caS (dig X) (dig Y) 1 k / 4294967296
    rw [e,hx k (by omega),hy k (by omega),zfl,Int.one_mul]
    generalize caC (dig X) (dig Y) 1 k=c at *
    generalize dig X k=f at *
    generalize dig Y k=g at *
    rw [wr64n (x:=f) (by omega) (by omega),wr64n (x:=g) (by omega) (by omega),wr64n (x:=c+f) (by omega) (by omega),wr64n (by omega) (by omega)]
    exact ishr32
  refine ⟨hc,fun hk8=>?_⟩
  obtain ⟨_,c0,c1⟩:=zee (f:=dig X) (g:=dig Y) (F:=X) (G:=Y) h1 (fun _=>rfl) (fun _=>rfl) k
  obtain ⟨sd,_,_⟩:=znW (f:=dig X) (g:=dig Y) (F:=X) (G:=Y) h1 (fun _=>rfl) (fun _=>rfl) k
  rw [zfl] at sd
  have d0:=dig_W k X
  have d1:=dig_W k Y
  unfold W32 at d0 d1
  unfold adV
  rw [hc,hx k (by omega),hy k (by omega),← sd,wr32,Int.one_mul]
  generalize caC (dig X) (dig Y) 1 k=c at *
  generalize dig X k=f at *
  generalize dig Y k=g at *
  rw [wr64n (x:=f) (by omega) (by omega),wr64n (x:=g) (by omega) (by omega),wr64n (x:=c+f) (by omega) (by omega),wr64n (by omega) (by omega)]
theorem adL_0 (x y:Nat→Int):adL x y 0 0=adV x y 0:=by kernel_rfl
theorem adL_1 (x y:Nat→Int):adL x y 1 0=adV x y 1:=by kernel_rfl
theorem adL_2 (x y:Nat→Int):adL x y 2 0=adV x y 2:=by kernel_rfl
theorem adL_3 (x y:Nat→Int):adL x y 3 0=adV x y 3:=by kernel_rfl
theorem adL_4 (x y:Nat→Int):adL x y 4 0=adV x y 4:=by kernel_rfl
theorem adL_5 (x y:Nat→Int):adL x y 5 0=adV x y 5:=by kernel_rfl
theorem adL_6 (x y:Nat→Int):adL x y 6 0=adV x y 6:=by kernel_rfl
theorem adL_7 (x y:Nat→Int):adL x y 7 0=adV x y 7:=by kernel_rfl
theorem adL_8 (x y:Nat→Int):adL x y 8 0=wr .u32 (adC x y 8):=by kernel_rfl
theorem ztk {X Y:Int} (hX:0≤X∧X<ordL) (hY:0≤Y∧Y<ordL):all32 (adL (limbs8 X) (limbs8 Y)) 9=true∧dval (adL (limbs8 X) (limbs8 Y)) 9 9=X+Y:=by
 have hca:=ad_ca (fun j hj=>zeY X j hj) (fun j hj=>zeY Y j hj)
 have hd:∀ r,r<9→adL (limbs8 X) (limbs8 Y) r 0=dig (X+Y) r:=fun r hr=>by
  match r,hr with
  | 0,_=>rw [adL_0,(hca 0 (by omega)).2 (by omega),Int.one_mul]
  | 1,_=>rw [adL_1,(hca 1 (by omega)).2 (by omega),Int.one_mul]
  | 2,_=>rw [adL_2,(hca 2 (by omega)).2 (by omega),Int.one_mul]
  | 3,_=>rw [adL_3,(hca 3 (by omega)).2 (by omega),Int.one_mul]
  | 4,_=>rw [adL_4,(hca 4 (by omega)).2 (by omega),Int.one_mul]
  | 5,_=>rw [adL_5,(hca 5 (by omega)).2 (by omega),Int.one_mul]
  | 6,_=>rw [adL_6,(hca 6 (by omega)).2 (by omega),Int.one_mul]
  | 7,_=>rw [adL_7,(hca 7 (by omega)).2 (by omega),Int.one_mul]
  | 8,_ =>
   rw [adL_8,(hca 8 (by omega)).1,wr32,zcD]
   have e:=(zee (f:=dig X) (g:=dig Y) (F:=X) (G:=Y) (x:=1) ⟨by omega,by omega⟩ (fun _=>rfl) (fun _=>rfl) 8).1
   have z1:=zcT hX.1 (k:=8) (m:=0) (Int.lt_trans hX.2 (by decide))
   have z2:=zcT hY.1 (k:=8) (m:=0) (Int.lt_trans hY.2 (by decide))
   rw [Int.pow_zero] at z1 z2
   rw [show sh X 8=0 by omega,show sh Y 8=0 by omega] at e
   rw [Int.mul_zero,Int.add_zero,Int.add_zero,Int.one_mul] at e
   rw [e]
  | _+9,h=>omega
 refine ⟨?_,?_⟩
 ·simp only [all32,List.all_eq_true,List.mem_range]
  exact fun j hj=>zbt (by rw [hd j hj];exact dig_W _ _)
 ·rw [zdQ (g:=fun r _=>dig (X+Y) r) hd 9 (by omega)]
  have h1:=hX.2
  have h2:=hY.2
  unfold ordL at h1 h2
  exact zen (by omega) (by omega)
theorem zsL:TRow prog F_rimeref02_Add tAdd2:=by
 intro args r h
 unfold tAdd2 at h
 split at h
 case h_2=>simp at h
 rename_i a b
 simp only [Option.some.injEq,Prod.mk.injEq] at h
 obtain ⟨hb,rfl⟩:=h
 refine zab V5 at_rimeref02_Add zyN (N:=20) (gs:=[]) ?_
 simp only [Bool.and_eq_true] at hb
 obtain ⟨e1,e2⟩:=ztk (X:=hval a 32 0 % ordL) (Y:=hval b 32 0 % ordL) ⟨(zaA _).1,(zaA _).2.1⟩ ⟨(zaA _).1,(zaA _).2.1⟩
 have e:=zyS a b
 rw [hb.1,hb.2,e1,e2] at e
 simp only [zbq,zsZ,← Int.add_emod] at e
 exact e
theorem zmU:fnChk prog (envP tt sv5 []) f_rimeref02_IsZero=true:=by kernel_rfl
theorem zoz (a:Nat→Int):outP (apFunc (envP tt sv5 []) [] 5 f_rimeref02_IsZero [u8s 32 a] []) =
  some (ckL [areB a 32 0],.sc (.bool (eqN 8 (limbs8 (hval a 32 0 % ordL)) (fun _=>0)&&true))):=by kernel_rfl
theorem zoc {n:Int} (h0:0≤n) (h1:n<R256):eqN 8 (limbs8 n) (fun _=>0)=decide (n=0):=by
 by_cases h:n=0
 ·subst h;decide
 ·rw [decide_eq_false h]
  cases hb:eqN 8 (limbs8 n) (fun _=>0) with
  | false=>rfl
  | true =>
   exfalso
   have e:=zbs h0 h1
   have z:=eqN_t hb
   unfold val8 at e
   rw [z 0 (by omega),z 1 (by omega),z 2 (by omega),z 3 (by omega),z 4 (by omega),z 5 (by omega),z 6 (by omega),z 7 (by omega)] at e
   omega
theorem zoE:TRow prog F_rimeref02_IsZero tIsZero:=by
 intro args r h
 unfold tIsZero at h
 split at h
 case h_2=>simp at h
 rename_i s
 simp only [Option.some.injEq,Prod.mk.injEq] at h
 obtain ⟨hs,rfl⟩:=h
 refine zab V5 at_rimeref02_IsZero zmU (N:=5) (gs:=[]) ?_
 have e:=zoz s
 have hr:=zaA (hval s 32 0)
 rw [zoc hr.1 (by unfold R256;omega),Bool.and_true,hs] at e
 exact e
end Go.Proofs.YtplaklpfeabhiaaGreat
namespace Go.Proofs.YtplaklpfeabhiaaGreat
open Go.Proofs.Tryz
open Go Go.AM
theorem zm9:∀ (n K i:Nat),i<n→lf (byL n (K:Int)) i=((K / 256 ^ i % 256:Nat):Int)
 | 0,K,i,h=>by omega
 | n+1,K,0,h=>by
  show ((K:Int) % 256)=_
  rw [Nat.pow_zero,Nat.div_one];rfl
 | n+1,K,i+1,h=>by
  show lf (byL n ((K:Int) / 256)) i=_
  have:=zm9 n (K / 256) i (by omega)
  rw [show ((K:Int) / 256)=((K / 256:Nat):Int) by omega,this,Nat.div_div_eq_div_mul,Nat.pow_succ,Nat.mul_comm 256]
theorem zwM (K i:Nat) (hi:i<64):nib (lf (byL 32 (K:Int))) i=((K / 16 ^ i % 16:Nat):Int):=by
 unfold nib
 rw [zm9 32 K (i / 2) (by omega)]
 have e:(256:Nat) ^ (i / 2)=16 ^ (2*(i / 2)):=by rw [Nat.pow_mul]
 rcases Nat.mod_two_eq_zero_or_one i with h | h
 ·rw [h,e,show 2*(i / 2)=i by omega]
  generalize K / 16 ^ i=x
  show (((x % 256:Nat):Int) / 2 ^ 0 % 16)=_
  rw [Int.pow_zero,Int.ediv_one]
  omega
 ·rw [h,e,show i=2*(i / 2)+1 by omega,Nat.pow_succ,← Nat.div_div_eq_div_mul,show 2*((2*(i / 2)+1) / 2)=2*(i / 2) by omega]
  generalize K / 16 ^ (2*(i / 2))=x
  show (((x % 256:Nat):Int) / 2 ^ 4 % 16)=_
  rw [show (2:Int) ^ 4=16 by decide]
  omega
theorem is_tb {q:Q4} {p:EP} (h:Is q p):∀ j,Is (tbS q j) (EP.nsm j p)
 | 0=>is_id
 | j+1=>zlb (is_tb h j) h
theorem nsm_2 (n:Nat) (p:EP):(EP.nsm n p).add (EP.nsm n p)=EP.nsm (2*n) p:=by rw [← EP.nsm_add,Nat.two_mul]
theorem is_tm {q:Q4} {p:EP} (h:Is q p) (K:Nat) (hK:K<16 ^ 64):∀ k,k≤64→Is (tmSp q (lf (byL 32 (K:Int))) k) (EP.nsm (K / 16 ^ (64 - k)) p)
 | 0,_=>by
  rw [Nat.div_eq_of_lt (by simpa using hK)]
  exact is_id
 | k+1,hk=>by
  have ih:=is_tm h K hK k (by omega)
  have h1:=zku ih
  rw [nsm_2] at h1
  have h2:=zku h1
  rw [nsm_2] at h2
  have h3:=zku h2
  rw [nsm_2] at h3
  have h4:=zku h3
  rw [nsm_2] at h4
  have en:=zwM K (63 - k) (by omega)
  have e0:K / 16 ^ (64 - (k+1))=2*(2*(2*(2*(K / 16 ^ (64 - k)))))+K / 16 ^ (63 - k) % 16:=by
   rw [show 64 - (k+1)=63 - k by omega,show 64 - k=(63 - k)+1 by omega,Nat.pow_succ,← Nat.div_div_eq_div_mul]
   omega
  unfold tmSp
  rw [e0,en]
  by_cases hz:K / 16 ^ (63 - k) % 16=0
  ·rw [hz,Nat.add_zero]
   exact h4
  ·rw [decide_eq_true (show ((K / 16 ^ (63 - k) % 16:Nat):Int) > 0 by omega),EP.nsm_add]
   show Is (addS _ (tbS q ((K / 16 ^ (63 - k) % 16:Nat):Int).toNat)) _
   rw [Int.toNat_natCast]
   exact zlb h4 (is_tb h _)
theorem zkx {q:Q4} {p:EP} (h:Is q p) {k:Int} (h0:0≤k) (h1:k<R256):Is (mulS q k) (EP.nsm k.toNat p):=by
 have hK:k.toNat<16 ^ 64:=by
  have:R256=((16 ^ 64:Nat):Int):=by decide
  rw [this] at h1
  omega
 have:=is_tm h k.toNat hK 64 (Nat.le_refl _)
 rw [Int.toNat_of_nonneg h0,Nat.sub_self,Nat.pow_zero,Nat.div_one] at this
 exact this
def encP (p:EP):Int:=(p.y.val:Int)+(p.x.val:Int) % 2*57896044618658097711785492504343953926634992332820282019728792003956564819968
theorem zm5 {x:Int} (hx:inP x) {a:FF} (h:fq x=a):x=(a.val:Int):=by
 rw [← h,zce,md_id hx]
theorem zzg {X Y z:Int} {p:EP} (h1:fq X*fq z=p.x) (h2:fq Y*fq z=p.y):mM Y z+mM X z % 2*57896044618658097711785492504343953926634992332820282019728792003956564819968=encP p:=by
 rw [zm5 (mM_in Y z) (by rw [zaU,h2]),zm5 (mM_in X z) (by rw [zaU,h1])]
 rfl
theorem zeW {q:Q4} {p:EP} (h:Is q p):formS q=encP p:=by
 have hz:fq q.2.2.1*fq (invM q.2.2.1)=1:=zss rfl h.on.on.z
 unfold formS
 generalize invM q.2.2.1=w at *
 refine zzg ?_ ?_
 ·rw [h.x]
  have:p.x*fq q.2.2.1*fq w=p.x*(fq q.2.2.1*fq w):=by grind
  rw [this,hz];grind
 ·rw [h.y]
  have:p.y*fq q.2.2.1*fq w=p.y*(fq q.2.2.1*fq w):=by grind
  rw [this,hz];grind
end Go.Proofs.YtplaklpfeabhiaaGreat
namespace Go.Proofs.YtplaklpfeabhiaaGreat
open Go.Proofs.Tryz
open Go Go.AM
def eE:Nat:=7237005577332262213973186563042994240829374041602535252466099000494570602493
def pmq:Nat:=14474011154664524427946373126085988481658748083205070504932198000989141204987
theorem pmq_e:2*eE+1=pmq:=by decide
theorem pmq_h:2*pmq=pmh:=by decide
theorem iM_sq:fq iM*fq iM=-1:=by decide +kernel
theorem ztO {a:FF} (h:a≠0):fpow a pmh=1 ∨ fpow a pmh=-1:=by
 have e:fpow a pmh*fpow a pmh=1:=by rw [← zeE,← Nat.two_mul,pmh_2];exact zg5 h
 have k:(fpow a pmh - 1)*(fpow a pmh+1)=0:=by
  generalize fpow a pmh=s at *
  grind
 rcases za3 k with q | q
 ·left
  generalize fpow a pmh=s at *
  grind
 ·right
  generalize fpow a pmh=s at *
  grind
theorem zwA {u v r c e x k:FF} (hu:u=v*(x*x)) (hr:r=u*(v*v*v)*e) (he:c=u*(v*v*v*(v*v*v)*v)) (hk:e*e*c=k):v*(r*r)=u*k:=by
 rw [← hk,hr,he]
 clear hk hr he
 subst hu
 grind
theorem ztv {v x:FF}:v*(x*x)*(v*v*v*(v*v*v)*v)=(x*(v*v)*(v*v))*(x*(v*v)*(v*v)):=by grind
theorem zre {u v:Int} {x:FF} (hv:fq v≠0) (hx:fq v*(x*x)=fq u) (hu:inP u) :
  Nat.ble (rootM u v) 1=true∧(fq (rootX u v (rootM u v))=x ∨ fq (rootX u v (rootM u v))=0 - x):=by
 have e0:fq (rootX u v 0)=fq u*(fq v*fq v*fq v)*fpow (fq u*(fq v*fq v*fq v*(fq v*fq v*fq v)*fq v)) eE:=by
  show fq (mM (mM u (mM (mM v v) v)) (powM (mM u (mM (mM (mM (mM v v) v) (mM (mM v v) v)) v)) eE))=_
  rw [zaU,zsu]
  simp only [zaU]
 have k1:fq v*(fq (rootX u v 0)*fq (rootX u v 0))=fq u ∨ fq v*(fq (rootX u v 0)*fq (rootX u v 0))=0 - fq u:=by
  have hc:fpow (fq u*(fq v*fq v*fq v*(fq v*fq v*fq v)*fq v)) eE*fpow (fq u*(fq v*fq v*fq v*(fq v*fq v*fq v)*fq v)) eE*(fq u*(fq v*fq v*fq v*(fq v*fq v*fq v)*fq v))=fpow (fq u*(fq v*fq v*fq v*(fq v*fq v*fq v)*fq v)) pmq:=by
   rw [← zeE,← Nat.two_mul]
   conv=>lhs;rhs;rw [← zkZ (fq u*(fq v*fq v*fq v*(fq v*fq v*fq v)*fq v))]
   rw [← zeE,pmq_e]
  have h1:=zwA hx.symm e0 rfl hc
  have h2:fpow (fq u*(fq v*fq v*fq v*(fq v*fq v*fq v)*fq v)) pmq=fpow (x*(fq v*fq v)*(fq v*fq v)) pmh:=by
   rw [← hx,ztv,zna,pmq_h]
  rw [h2] at h1
  rw [h1]
  by_cases hz:x=0
  ·left
   have:fq u=0:=by rw [← hx,hz];grind
   rw [this];grind
  ·rcases ztO (zeg (zeg hz (zeg hv hv)) (zeg hv hv)) with q | q
   ·left;rw [q];grind
   ·right;rw [q];grind
 have ok:∀ t,fq v*(fq t*fq t)=fq u→rootOk u v t=true:=fun t h=>decide_eq_true (zhB (mM_in _ _) hu (by rw [zaU,zaU];exact h))
 have okc:∀ t,rootOk u v t=true→fq t=x ∨ fq t=0 - x:=fun t h=>by
  have h:=congrArg fq (of_decide_eq_true h)
  rw [zaU,zaU,← hx] at h
  have k:fq v*((fq t - x)*(fq t+x))=0:=by
   generalize fq t=r at *
   generalize fq v=w at *
   clear k1 e0 ok
   grind
  rcases za3 k with q | q
  ·exact absurd q hv
  ·rcases za3 q with q | q
   ·left;generalize fq t=r at *;clear k1 e0 ok h k;grind
   ·right;generalize fq t=r at *;clear k1 e0 ok h k;grind
 have key:rootOk u v (rootX u v 0)=true ∨ rootOk u v (rootX u v 1)=true:=by
  rcases k1 with q | q
  ·exact .inl (ok _ q)
  ·right
   refine ok _ ?_
   show fq v*(fq (mM (rootX u v 0) iM)*fq (mM (rootX u v 0) iM))=fq u
   rw [zaU]
   have hi:=iM_sq
   generalize fq (rootX u v 0)=r at *
   generalize fq iM=i at *
   clear e0 ok okc
   have:fq v*(r*i*(r*i))=fq v*(r*r)*(i*i):=by grind
   rw [this,q,hi];grind
 unfold rootM
 cases h0:rootOk u v (rootX u v 0) with
 | true=>exact ⟨rfl,okc _ h0⟩
 | false =>
  cases h1:rootOk u v (rootX u v 1) with
  | true=>exact ⟨rfl,okc _ h1⟩
  | false=>rw [h0,h1] at key;rcases key with q | q <;> cases q
theorem g_ne {d y:FF} (hy:y=0) (h:d*(y*y)+1=0):(1:FF)=0:=by
 have e:d*(y*y)+1=1+d*(y*y):=by grind
 rw [e,hy] at h
 have e2:(1:FF)+d*(0*0)=1:=by generalize (1:FF)=o at *;grind
 rw [e2] at h
 exact h
theorem v_ne (y:FF):dF*(y*y)+1≠0:=fun h=>by
 by_cases hy:y=0
 ·exact f01 (g_ne hy h)
 ·obtain ⟨z,hz⟩:=zf7 hy
  have hi:=iF_sq
  have nd:=zsq (iF*z)
  generalize dF=d at *
  generalize iF=i at *
  refine nd ?_
  have e1:(d*(y*y)+1)*(z*z)=d*((y*z)*(y*z))+z*z:=by grind
  rw [h,hz] at e1
  have e2:i*z*(i*z)=(i*i)*(z*z):=by grind
  rw [e2]
  grind
theorem okBd {e v:Int} (hm:Nat.ble (opM e) 1=true) (hy:opY e<pP) (ho:opOdd e=decide (v % 2=1)) (hx:opX e=0→v=0):opOk e=true:=by
 unfold opOk
 generalize opX e=X at *
 generalize opM e=M at *
 rw [hm,decide_eq_true hy,ho]
 by_cases h0:X=0
 ·rw [hx h0];simp
 ·rw [decide_eq_false h0];simp
theorem zfM (a:FF):0≤(a.val:Int)∧(a.val:Int)<pP:=by
 have:=a.isLt
 rw [pP_PN]
 omega
theorem zcb (a:FF):fq (a.val:Int)=a:=zhK (by rw [zce,md_id (zfM a)])
theorem zf0 (p:EP):opY (encP p)=(p.y.val:Int)∧opOdd (encP p)=decide ((p.x.val:Int) % 2=1):=by
 have h1:=zfM p.y
 have hb:(p.x.val:Int) % 2=0 ∨ (p.x.val:Int) % 2=1:=by omega
 unfold opY opOdd encP
 unfold pP at h1
 rcases hb with h | h
 ·rw [h]
  refine ⟨by omega,?_⟩
  rw [decide_eq_false (by omega),decide_eq_false (by omega)]
 ·rw [h]
  refine ⟨by omega,?_⟩
  rw [decide_eq_true (by omega),decide_eq_true (by omega)]
theorem m_one (x:FF):x=x*1:=by grind
theorem s00:(0:FF) - 0=0:=by decide
theorem zyL (p:EP):fq (opU (encP p))=p.y*p.y - 1:=by
 have hyy:fq (opY (encP p))=p.y:=by rw [(zf0 p).1,zcb]
 unfold opU;rw [zbR,zaU,hyy,fq_1]
theorem zyU (p:EP):fq (opV (encP p))=dF*(p.y*p.y)+1:=by
 have hyy:fq (opY (encP p))=p.y:=by rw [(zf0 p).1,zcb]
 unfold opV;rw [zcu,zaU,zaU,hyy,fq_1];rfl
theorem zrv {a b:Int} {p:EP} (hU:fq a=p.y*p.y - 1) (hV:fq b=dF*(p.y*p.y)+1) (hu:inP a) :
  Nat.ble (rootM a b) 1=true∧(fq (rootX a b (rootM a b))=p.x ∨ fq (rootX a b (rootM a b))=0 - p.x) :=
 zre (u:=a) (v:=b) (x:=p.x) (by rw [hV];exact v_ne p.y) (by
  rw [hU,hV]
  have:=p.c
  generalize dF=d at *
  generalize p.x=x at *
  generalize p.y=y at *
  clear hU hV
  grind) hu
theorem zm2 (p:EP):Nat.ble (opM (encP p)) 1=true∧(fq (opX (encP p))=p.x ∨ fq (opX (encP p))=0 - p.x) :=
 zrv (zyL p) (zyU p) (mS_in _ _)
theorem zt7 {X:Int} {x:FF} (hxi:inP X) (hx:fq X=x ∨ fq X=0 - x):X=(x.val:Int) ∨ (x.val≠0∧X=pP - (x.val:Int)):=by
 have hvx:=zfM x
 rcases hx with q | q
 ·exact .inl (zm5 hxi q)
 ·by_cases h0:x.val=0
  ·left
   have e:x=0:=Fin.ext h0
   rw [e] at q
   rw [h0]
   exact (ziV hxi).1 (q.trans s00)
  ·right
   refine ⟨h0,?_⟩
   refine zhB hxi ⟨by omega,by omega⟩ ?_
   rw [q]
   have e:fq (mS pP (x.val:Int))=fq pP - fq (x.val:Int):=zbR _ _
   rw [zcb,show fq pP=0 by decide +kernel] at e
   rw [← e]
   exact fq_eq (by unfold mS;rw [md_md])
theorem opX_v (p:EP):opX (encP p)=(p.x.val:Int) ∨ (p.x.val≠0∧opX (encP p)=pP - (p.x.val:Int)) :=
 zt7 (zk4 _ _ _) (zm2 p).2
theorem zij (p:EP):opOk (encP p)=true :=
 okBd (v:=(p.x.val:Int)) (zm2 p).1 (by rw [(zf0 p).1];exact (zfM p.y).2) (zf0 p).2 (fun h0=>by
  have:=zfM p.x
  rcases opX_v p with q | ⟨_,q⟩ <;> omega)
theorem zx4 {X:Int} {x:FF} (h:X=(x.val:Int) ∨ (x.val≠0∧X=pP - (x.val:Int))) :
  fq (bif decide (X % 2=1) != decide ((x.val:Int) % 2=1) then mS 0 X else X)=x:=by
 have hvx:=zfM x
 have hp2:pP % 2=1:=by decide
 rcases h with q | ⟨hn,q⟩
 ·rw [q,bne_self_eq_false,cond_false]
  exact zcb _
 ·have hne:(decide (X % 2=1) != decide ((x.val:Int) % 2=1))=true:=by
   rcases (show (x.val:Int) % 2=0 ∨ (x.val:Int) % 2=1 by omega) with h | h
   ·rw [decide_eq_true (show X % 2=1 by omega),decide_eq_false (show ¬ (x.val:Int) % 2=1 by omega)];rfl
   ·rw [decide_eq_false (show ¬ X % 2=1 by omega),decide_eq_true h];rfl
  rw [hne,cond_true,zbR,fq_0,q]
  have e:fq (mS pP (x.val:Int))=fq pP - fq (x.val:Int):=zbR _ _
  rw [zcb,show fq pP=0 by decide +kernel] at e
  have e2:fq (pP - (x.val:Int))=0 - x:=by rw [← e];exact fq_eq (by unfold mS;rw [md_md])
  rw [e2]
  clear e e2 hne
  generalize (0:FF)=z
  grind
theorem zcJ (p:EP):opOk (encP p)=true∧Is (openS (encP p)) p:=by
 have hxs:fq (opXs (encP p))=p.x:=by
  have h:=zx4 (opX_v p)
  unfold opXs
  rw [(zf0 p).2]
  exact h
 have hyy:fq (opY (encP p))=p.y:=by rw [(zf0 p).1,zcb]
 have hok:=zij p
 refine ⟨hok,zqw hok,?_,?_⟩
 ·show fq (opXs (encP p))=p.x*fq 1
  rw [hxs,fq_1]
  exact m_one _
 ·show fq (opY (encP p))=p.y*fq 1
  rw [hyy,fq_1]
  exact m_one _
theorem znw {p q:EP} (h:encP p=encP q):p=q:=by
 have h1:=(zcJ p).2
 rw [h] at h1
 exact h1.unique (zcJ q).2
end Go.Proofs.YtplaklpfeabhiaaGreat
namespace Go.Proofs.YtplaklpfeabhiaaGreat
open Go.Proofs.Tryz
open Go Go.AM
noncomputable def el1:List (Nat × TF):=(F_suite_group,tGroup)::[]
theorem EL1:LibOK prog tt el1 []:=(L0).addT zur
noncomputable abbrev el1E:EnvP:=envP tt el1 []
theorem ne0 (x:Int):(x != 0)=!decide (x=0):=by by_cases h:x=0 <;> simp [h]
def getS (n:Nat) (w:Int):Int × Int:=if n=32 then (bif decide (grpS w=0) then w else 0,grpS w) else (0,3)
def tGetE:TF:=fun args=>match args with
 | [.sc (.vints _ .u8 1 n f)]=>some (areB (fun j=>f j 0) n 0,.tup [b32 (getS n (hval (fun j=>f j 0) n 0)).1,.sc (.int .i64 (getS n (hval (fun j=>f j 0) n 0)).2)])
 | _=>none
theorem znV:fnChk prog el1E f_suite_GetElement=true:=by kernel_rfl
def gB (f:Nat→Nat→Int):Nat→Int:=fun j=>f j 0
theorem ztW (t:Bool) (n:Nat) (f:Nat→Nat→Int):outP (apFunc el1E [(8,true)] 5 f_suite_GetElement [.sc (.vints t .u8 1 n f)] [])=some (ckL [((n:Int) != 32)==true],.tup [b32 0,.sc (.int .i64 3)]):=by kernel_rfl
theorem zu0 (t:Bool) (f:Nat→Nat→Int):outP (apFunc el1E [(16,true)] 5 f_suite_GetElement [.sc (.vints t .u8 1 32 f)] [])=some (ckL [areB (gB f) 32 0,(grpS (hval (gB f) 32 0) != 0)==true],.tup [b32 0,.sc (.int .i64 (grpS (hval (gB f) 32 0)))]):=by kernel_rfl
theorem zvM (t:Bool) (f:Nat→Nat→Int):outP (apFunc el1E [(16,false)] 5 f_suite_GetElement [.sc (.vints t .u8 1 32 f)] [])=some (ckL [areB (gB f) 32 0,(grpS (hval (gB f) 32 0) != 0)==false],.tup [u8s 32 (lf (tabL (gB f) 32 0)),.sc (.int .i64 0)]):=by kernel_rfl
theorem zyQ:TRow prog F_suite_GetElement tGetE:=by
 intro args r h
 unfold tGetE at h
 split at h
 case h_2=>simp at h
 rename_i t n f
 simp only [Option.some.injEq,Prod.mk.injEq] at h
 obtain ⟨hb,rfl⟩:=h
 unfold getS
 by_cases hn:n=32
 ·subst hn
  rw [if_pos rfl]
  have e1:=zu0 t f
  have e2:=zvM t f
  have hb':areB (gB f) 32 0=true:=hb
  rw [hb',ne0] at e1 e2
  rw [← zcR hb'] at e2
  change Pure _ _ _ (.tup [b32 (bif decide (grpS (hval (gB f) 32 0)=0) then hval (gB f) 32 0 else 0),.sc (.int .i64 (grpS (hval (gB f) 32 0)))])
  generalize hval (gB f) 32 0=w at e1 e2 ⊢
  cases hz:decide (grpS w=0) with
  | false=>rw [hz] at e1;exact zab EL1 at_suite_GetElement znV (N:=5) (gs:=[(16,true)]) e1
  | true =>
   rw [hz] at e2
   rw [of_decide_eq_true hz]
   exact zab EL1 at_suite_GetElement znV (N:=5) (gs:=[(16,false)]) e2
 ·rw [if_neg hn]
  have e:=ztW t n f
  have en:((n:Int) != 32)=true:=by simp;omega
  rw [en] at e
  exact zab EL1 at_suite_GetElement znV (N:=5) (gs:=[(8,true)]) e
end Go.Proofs.YtplaklpfeabhiaaGreat
namespace Go.Proofs.YtplaklpfeabhiaaGreat
open Go.Proofs.Tryz
open Go Go.AM
def tabH (x:Nat→Option Blk):Nat→Heap
 | 0=>[]
 | n+1=>tabH x n++[x n]
theorem zah (x:Nat→Option Blk):∀ n,(tabH x n).length=n
 | 0=>rfl
 | n+1=>by simp [tabH,zah x n]
theorem zcp (x:Nat→Option Blk):∀ n i,i<n→(tabH x n)[i]?=some (x i)
 | 0,i,h=>by omega
 | n+1,i,h=>by
  by_cases e:i=n
  ·subst e
   rw [tabH,List.getElem?_append_right (by rw [zah];exact Nat.le_refl _),zah,Nat.sub_self];rfl
  ·rw [tabH,List.getElem?_append_left (by rw [zah];omega)]
   exact zcp x n i (by omega)
theorem zhE (l:Heap) (n:Nat) (h:n≤l.length):l.take n=tabH (fun i=>(l[i]?).getD none) n:=by
 refine List.ext_getElem? fun i=>?_
 by_cases hi:i<n
 ·rw [zcp _ _ _ hi,List.getElem?_take,if_pos hi,List.getElem?_eq_getElem (show i<l.length by omega)]
  rfl
 ·rw [List.getElem?_take,if_neg hi,List.getElem?_eq_none (by rw [zah];omega)]
theorem LRow.dep {P:Program} {fn:Func} {id:Nat} {F:Nat→LF} (g:St→Nat) (h:∀ p,LRow P fn id (F p)):LRow P fn id (fun s=>F (g s) s) :=
 ⟨fun c hc b hb w0 own0 n0 s s' e σ pr a w Q hF H hQ=>(h (g s)).1 c hc b hb w0 own0 n0 s s' e σ pr a w Q hF H hQ,fun s e s' hF i hi=>(h (g s)).2 s e s' hF i hi⟩
structure GV where
 q:Nat
 bs:Nat
 x:Nat→Option Blk
 t:Bool
 n:Nat
 f:Nat→Nat→Int
 m:Nat
theorem bls_t {r k:Nat} (h:r<k):Nat.ble (r+1) k=true:=Nat.ble_eq_true_of_le h
theorem bls_f {r k:Nat} (h:¬ r<k):Nat.ble (r+1) k=false:=by
 cases hb:Nat.ble (r+1) k with
 | false=>rfl
 | true=>exact absurd (Nat.le_of_ble_eq_true hb) h
def upto (k:Nat) (f g:Nat→Nat→Int):Nat→Nat→Int:=fun r d=>bif Nat.ble (r+1) k then f r d else g r d
theorem zbI {k:Nat} {f g:Nat→Nat→Int} {r:Nat} (h:r<k) (d:Nat):upto k f g r d=f r d:=by unfold upto;rw [bls_t h];rfl
theorem zcI {k:Nat} {f g:Nat→Nat→Int} {r:Nat} (h:¬ r<k) (d:Nat):upto k f g r d=g r d:=by unfold upto;rw [bls_f h];rfl
def put1 (D:Nat→Nat→Int) (i:Nat) (x:Int):Nat→Nat→Int:=fun r d=>bif Nat.beq r i&&Nat.beq d 0 then x else D r d
def putR (D:Nat→Nat→Int) (i _z:Nat) (g:Nat→Int):Nat→Nat→Int:=fun r d=>bif Nat.beq r i then g d else D r d
theorem zit {k m:Nat} {f g:Nat→Nat→Int} {x:Int} (hx:x=f k 0):eqF m 1 (put1 (upto k f g) ((k:Nat):Int).toNat x) (upto (k+1) f g)=true:=zaK fun r hr d hd=>by
 obtain rfl:d=0:=by omega
 rw [Int.toNat_natCast]
 unfold put1
 by_cases e:r=k
 ·subst e
  rw [zbI (Nat.lt_succ_self r),show Nat.beq r r=true from beq_t.2 rfl,hx];rfl
 ·rw [show Nat.beq r k=false from beq_f.2 e]
  show upto k f g r 0=_
  by_cases h:r<k
  ·rw [zbI h,zbI (by omega)]
  ·rw [zcI h,zcI (by omega)]
theorem ziF {k m z:Nat} {f g:Nat→Nat→Int} {x:Nat→Int} (hx:∀ d,d<z→x d=f k d):eqF m z (putR (upto k f g) ((k:Nat):Int).toNat z x) (upto (k+1) f g)=true:=zaK fun r hr d hd=>by
 rw [Int.toNat_natCast]
 unfold putR
 by_cases e:r=k
 ·subst e
  rw [zbI (Nat.lt_succ_self r),show Nat.beq r r=true from beq_t.2 rfl,← hx d hd];rfl
 ·rw [show Nat.beq r k=false from beq_f.2 e]
  show upto k f g r d=_
  by_cases h:r<k
  ·rw [zbI h,zbI (by omega)]
  ·rw [zcI h,zcI (by omega)]
def hp1 (s:St):Nat:=s.hp.length - 1
def bookAt (q:Nat) (row:Nat→List Seg) (x:Nat→Option Blk):Nat→Option Blk:=fun i=>bif Nat.beq i q then some (.mix 30 1 row) else x i
def bookUp (c0 c1 c2:Nat→SV):Nat→List Seg:=fun r=>bif Nat.beq r 0 then onesS c2 30 0 else bif Nat.beq r 0 then onesS c1 30 0 else onesS c0 30 0
def bkC (l:List SV):Nat→SV:=fun i=>l.getD i .unk
def gvM (n:Nat):Nat:=(wr .i64 ((n:Int)+3)).toNat
theorem zgk {n:Nat} (h:n≤1073741824):wr .i64 ((n:Int)+3)=((n+3:Nat):Int)∧gvM n=n+3:=by
 have e:wr .i64 ((n:Int)+3)=((n+3:Nat):Int):=by rw [za8 (by omega) (by omega)];omega
 exact ⟨e,by unfold gvM;rw [e,Int.toNat_natCast]⟩
theorem znU {q p:Nat} {row row':Nat→List Seg} {x:Nat→Option Blk} {a b:Heap} (hr:row' 0=row 0) (hl:b.length=a.length) (hab:∀ (id:Nat) (c:Blk),b[id]?=some (some c)→∃ d,a[id]?=some (some d)∧BSame d c) :
  HSame (tabH (bookAt q row x) p++a) (tabH (bookAt q row' x) p++b):=by
 refine ⟨by simp [zah,hl],fun id c hc=>?_⟩
 by_cases h:id<p
 ·rw [List.getElem?_append_left (by rw [zah];exact h),zcp _ _ _ h] at hc ⊢
  unfold bookAt at hc ⊢
  cases hq:Nat.beq id q with
  | true =>
   rw [hq] at hc
   simp only [cond_true,Option.some.injEq] at hc
   subst hc
   refine ⟨_,rfl,rfl,rfl,fun i hi=>?_,.inr ⟨rfl,rfl⟩⟩
   have:i=0:=Nat.lt_one_iff.1 hi
   subst this
   exact hr
  | false =>
   rw [hq] at hc
   exact ⟨c,hc,BSame.refl c⟩
 ·rw [List.getElem?_append_right (by rw [zah];omega),zah] at hc ⊢
  exact hab _ c hc
theorem zkI {hp:Heap} {q:Nat} {row:Nat→List Seg} {c:Nat→SV} (hq:hp[q]?=some (some (.mix 30 1 row))) (hr:row 0=onesS c 30 0) :
  HSame hp (tabH (bookAt q (fun _=>onesS c 30 0) (fun i=>(hp[i]?).getD none)) hp.length):=by
 refine ⟨zah _ _,fun id b hb=>?_⟩
 have h:id<hp.length:=by
  have:=(List.getElem?_eq_some_iff.1 hb).1
  rwa [zah] at this
 rw [zcp _ _ _ h] at hb
 unfold bookAt at hb
 cases e:Nat.beq id q with
 | true =>
  rw [e] at hb
  simp only [cond_true,Option.some.injEq] at hb
  subst hb
  rw [beq_t.1 e]
  refine ⟨_,hq,rfl,rfl,fun i hi=>?_,.inr ⟨rfl,rfl⟩⟩
  have:i=0:=Nat.lt_one_iff.1 hi
  subst this
  exact hr.symm
 | false =>
  rw [e] at hb
  simp only [cond_false,Option.some.injEq] at hb
  refine ⟨b,?_,BSame.refl b⟩
  cases hx:hp[id]? with
  | none=>rw [hx] at hb;simp at hb
  | some y=>rw [hx] at hb;simp at hb;rw [hb]
theorem zlf {hp:Heap} {q:Nat} {row row':Nat→List Seg} (hq:hp[q]?=some (some (.mix 30 1 row))) {b:Heap}:∀ (i:Nat),hp[i]?=some none→(tabH (bookAt q row' (fun i=>(hp[i]?).getD none)) hp.length++b)[i]?=some none:=fun i hi=>by
 have h:=(List.getElem?_eq_some_iff.1 hi).1
 rw [List.getElem?_append_left (by rw [zah];exact h),zcp _ _ _ h]
 unfold bookAt
 have e:Nat.beq i q=false:=by
  cases e:Nat.beq i q with
  | false=>rfl
  | true=>rw [beq_t.1 e,hq] at hi;simp at hi
 rw [e]
 show some ((hp[i]?).getD none)=_
 rw [hi];rfl
theorem zhS {i:Nat} {c:Nat→SV} (h1:c i=.nils) (h2:c (i+1)=.nils):set2 i .nils .nils c=c:=by
 funext j;unfold set2
 cases e:Nat.beq j i with
 | true=>rw [beq_t.1 e,h1];rfl
 | false=>cases e2:Nat.beq j (i+1) with
  | true=>rw [beq_t.1 e2,h2];rfl
  | false=>rfl
theorem zbX {sz:Nat} {row row':Nat→List Seg} (h:row' 0=row 0):BSame (.mix sz 1 row) (.mix sz 1 row'):=⟨rfl,rfl,fun i hi=>by
 have hi:i<1:=hi
 obtain rfl:i=0:=by omega
 exact h,.inr ⟨rfl,rfl⟩⟩
theorem zhQ {a0 a1 a2 a3 a4 b0 b1 b2 b3 b4:Blk} (h0:BSame a0 b0) (h1:BSame a1 b1) (h2:BSame a2 b2) (h3:BSame a3 b3) (h4:BSame a4 b4) :
  ∀ (id:Nat) (c:Blk),([some b0,some b1,some b2,some b3,some b4]:Heap)[id]?=some (some c)→∃ d,([some a0,some a1,some a2,some a3,some a4]:Heap)[id]?=some (some d)∧BSame d c:=by
 intro id c hc
 match id,hc with
 | 0,hc=>simp only [List.getElem?_cons_zero,Option.some.injEq] at hc;subst hc;exact ⟨_,rfl,h0⟩
 | 1,hc=>simp only [List.getElem?_cons_succ,List.getElem?_cons_zero,Option.some.injEq] at hc;subst hc;exact ⟨_,rfl,h1⟩
 | 2,hc=>simp only [List.getElem?_cons_succ,List.getElem?_cons_zero,Option.some.injEq] at hc;subst hc;exact ⟨_,rfl,h2⟩
 | 3,hc=>simp only [List.getElem?_cons_succ,List.getElem?_cons_zero,Option.some.injEq] at hc;subst hc;exact ⟨_,rfl,h3⟩
 | 4,hc=>simp only [List.getElem?_cons_succ,List.getElem?_cons_zero,Option.some.injEq] at hc;subst hc;exact ⟨_,rfl,h4⟩
 | k+5,hc=>simp at hc
def isNils:SV→Bool | .nils=>true | _=>false
theorem zet {v:SV} (h:isNils v=true):v=.nils:=by cases v <;> simp [isNils] at h;rfl
end Go.Proofs.YtplaklpfeabhiaaGreat
namespace Go.Proofs.YtplaklpfeabhiaaGreat
open Go.Proofs.Tryz
open Go Go.AM
def firstF (p:Nat→Bool):Nat→Nat→Nat
 | 0,j=>j
 | n+1,j=>bif p j then firstF p n (j+1) else j
theorem zaG (p:Nat→Bool):∀ (n j:Nat),j≤firstF p n j∧firstF p n j≤j+n∧(∀ k,j≤k→k<firstF p n j→p k=true)∧(firstF p n j<j+n→p (firstF p n j)=false)
 | 0,j=>⟨Nat.le_refl _,Nat.le_refl _,fun k h1 h2=>by simp only [firstF] at h2;omega,fun h=>by simp only [firstF] at h;omega⟩
 | n+1,j=>by
  unfold firstF
  cases e:p j with
  | true =>
   obtain ⟨h1,h2,h3,h4⟩:=zaG p n (j+1)
   show j≤firstF p n (j+1)∧_
   refine ⟨by omega,by show firstF p n (j+1)≤_;omega,fun k hk1 hk2=>?_,fun h=>h4 (by have h:firstF p n (j+1)<_:=h;omega)⟩
   by_cases q:k=j
   ·rw [q];exact e
   ·exact h3 k (by omega) hk2
  | false=>exact ⟨Nat.le_refl _,by show j≤_;omega,fun k h1 h2=>by have h2:k<j:=h2;omega,fun _=>e⟩
theorem nn_t (n:Nat):(((n:Int) != (n:Int))==false)=true:=by simp
theorem nm_t {n m:Nat} (h:n≠m):(((n:Int) != (m:Int))==true)=true:=by simp;omega
end Go.Proofs.YtplaklpfeabhiaaGreat
namespace Go.Proofs.YtplaklpfeabhiaaGreat
open Go.Proofs.Tryz
open Go Go.AM
theorem zgl:encP EP.zero=1:=by decide
def nL (p:EP):EP:=EP.nsm ordL.toNat p
theorem zcy:0≤ordL∧ordL<R256:=by decide
theorem zi0 (p:EP):encP p=1 ↔ p=EP.zero:=by
 rw [← zgl]
 exact ⟨znw,fun h=>by rw [h]⟩
theorem zyE (p:EP):prS (encP p)=decide (encP (nL p)=1):=by
 obtain ⟨ho,hp⟩:=zcJ p
 have hm:=zkx hp zcy.1 zcy.2
 have e:prS (encP p)=isIdS (mulS (openS (encP p)) ordL):=by unfold prS;rw [ho,Bool.true_and]
 rw [e,zld hm.on,zeW hm]
 rfl
theorem zxr {p:EP} (h1:p≠EP.zero) (h2:nL p=EP.zero):grpS (encP p)=0:=by
 unfold grpS
 rw [zij,zyE,decide_eq_false (fun h=>h1 ((zi0 p).1 h)),decide_eq_true ((zi0 _).2 h2)]
 rfl
def bP:EP:=⟨fq bxI,fq byI,by decide +kernel⟩
theorem b_on:On4 baseS:=⟨by decide,by decide,by decide,by decide +kernel,by decide +kernel,by decide +kernel,by decide +kernel⟩
theorem b_is:Is baseS bP:=⟨b_on,by decide +kernel,by decide +kernel⟩
theorem zxw:isIdS (mulS baseS ordL)=true:=by decide +kernel
theorem b_nL:nL bP=EP.zero:=by
 have hm:=zkx b_is zcy.1 zcy.2
 have e:=zld hm.on
 rw [zxw,zeW hm] at e
 exact (zi0 _).1 (of_decide_eq_true e.symm)
theorem b_ne:bP≠EP.zero:=fun h=>by
 have e:=congrArg encP h
 rw [zgl] at e
 exact absurd e (by decide +kernel)
end Go.Proofs.YtplaklpfeabhiaaGreat
namespace Go.Proofs.YtplaklpfeabhiaaGreat
open Go.Proofs.Tryz
open Go Go.AM
def ordN:Nat:=ordL.toNat
theorem zoe:(ordN:Int)=ordL:=by decide
theorem zpY:ordN=7237005577332262213973186563042994240857116359379907606001950938285454250989:=by decide
def nI (k:Int) (p:EP):EP:=EP.nsm k.toNat p
theorem zw4 {p:EP} (h:nL p=EP.zero) (n:Nat):nL (EP.nsm n p)=EP.zero:=by
 have h:EP.nsm ordN p=EP.zero:=h
 show EP.nsm ordN (EP.nsm n p)=EP.zero
 generalize ordN=m at *
 rw [← EP.nsm_mul,Nat.mul_comm,EP.nsm_mul,h,EP.nsm_zero]
theorem nL_nI {p:EP} (h:nL p=EP.zero) (k:Int):nL (nI k p)=EP.zero:=zw4 h _
theorem zn2 {k:Int} (h:0≤k):(k % ordL).toNat=k.toNat % ordN:=by
 have e:=zoe
 generalize ordN=m at *
 rw [← e]
 obtain ⟨n,rfl⟩:=Int.eq_ofNat_of_zero_le h
 rw [Int.toNat_natCast]
 exact (by omega:((n:Int) % (m:Int)).toNat=n % m)
theorem zxU {p:EP} (hp:nL p=EP.zero) {k:Int} (h:0≤k):nI (k % ordL) p=nI k p:=by
 have hp:EP.nsm ordN p=EP.zero:=hp
 unfold nI
 rw [zn2 h]
 generalize ordN=m at *
 exact EP.nsm_mod hp _
theorem zs8 {a b:Int} (ha:0≤a) (hb:0≤b) (p:EP):nI (a+b) p=(nI a p).add (nI b p):=by
 unfold nI
 rw [Int.toNat_add ha hb,EP.nsm_add]
theorem zyk {a b:Int} (ha:0≤a) (hb:0≤b) (p:EP):nI (a*b) p=nI a (nI b p):=by
 unfold nI
 rw [Int.mul_comm,Int.toNat_mul hb ha,EP.nsm_mul]
theorem inv_L {x:Nat} (h:x % ordN≠0):∃ u,x*u % ordN=1:=by
 rw [zpY] at h ⊢
 refine ⟨x ^ (7237005577332262213973186563042994240857116359379907606001950938285454250989 - 2),?_⟩
 have e:=zyF.2.2 x h
 generalize hm:(7237005577332262213973186563042994240857116359379907606001950938285454250989:Nat)=m at *
 have e2:m - 1=(m - 2)+1:=by omega
 rw [e2,Nat.pow_succ,Nat.mul_comm] at e
 exact e
theorem zxM {p:EP} (h1:p≠EP.zero) (h2:nL p=EP.zero) {x:Nat} (hx:x % ordN≠0):EP.nsm x p≠EP.zero:=fun h=>by
 obtain ⟨u,hu⟩:=inv_L hx
 have h2:EP.nsm ordN p=EP.zero:=h2
 generalize ordN=m at *
 have e:EP.nsm (x*u % m) p=EP.nsm (x*u) p:=EP.nsm_mod h2 _
 rw [hu,EP.nsm_one,EP.nsm_mul,h,EP.nsm_zero] at e
 exact h1 e
theorem nI_ne {p:EP} (h1:p≠EP.zero) (h2:nL p=EP.zero) {x:Int} (h0:0<x) (hx:x<ordL):nI x p≠EP.zero:=by
 refine zxM h1 h2 ?_
 have e:=zoe
 generalize ordN=m at *
 rw [Nat.mod_eq_of_lt (by omega)]
 omega
theorem zpa {K:Int} (h0:0<K) (h1:K<ordL):expS K=encP (nI K bP):=by
 have hr:=zcy.2
 unfold expS
 rw [decide_eq_false (by omega)]
 exact zeW (zkx b_is (by omega) (by omega))
theorem zuX (p q:EP):addOk (encP p) (encP q)=true∧formS (addS (openS (encP p)) (openS (encP q)))=encP (p.add q):=by
 refine ⟨?_,zeW (zlb (zcJ p).2 (zcJ q).2)⟩
 unfold addOk
 rw [zij,zij];rfl
end Go.Proofs.YtplaklpfeabhiaaGreat
namespace Go.Proofs.YtplaklpfeabhiaaGreat
open Go.Proofs.Tryz
open Go Go.AM
theorem hwr {x:Int} (h0:0≤x) (h1:x<9223372036854775808):wr .i64 x=x:=by
 show IntKind.i64.wrap x=x
 rw [IntKind.wrap_i64];omega
theorem hin {k n:Nat} (h:k<n):inR k n=true:=by simp [inR];omega
end Go.Proofs.YtplaklpfeabhiaaGreat
namespace Go.Proofs.YtplaklpfeabhiaaGreat
open Go.Proofs.Tryz
open Go Go.AM
theorem zbY (k:IntKind) (a b:Int):ior k a b=ior k b a:=by unfold ior;rw [BitVec.or_comm]
end Go.Proofs.YtplaklpfeabhiaaGreat
namespace Go.Proofs.YtplaklpfeabhiaaGreat
open Go.Proofs.Tryz
open Go Go.AM
def isW (w:List UInt8):Bool:=w==[114,104,111] || (w==[110,111,110,99,101] || (w==[109,115,103] || w==[99,111,109]))
end Go.Proofs.YtplaklpfeabhiaaGreat
namespace Go.Proofs.YtplaklpfeabhiaaGreat
open Go.Proofs.Tryz
open Go Go.AM
def isId (i:Int):Bool:=decide (i ≥ 1)&&decide (i≤255)
def tIsIdn:TF:=fun args=>match args with
 | [.sc (.int .i64 i)]=>some (true,.sc (.bool (isId i)))
 | _=>none
end Go.Proofs.YtplaklpfeabhiaaGreat
