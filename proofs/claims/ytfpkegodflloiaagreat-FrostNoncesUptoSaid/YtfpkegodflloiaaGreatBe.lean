/-
  Texts of the claim: DGio2 DPow DPow2 DPtG DPtG2 DPtG3 DTimG DFormG DPtO2 DEdwG DMth DEl DMulti DFro DFro2 DFro3 DFro4 DGrp DDec DCrv DCrv2 DAlive DLNon.
-/
import Derived.Test.YtfpkegodflloiaaGreatAc
import Derived.Test.YtfpkegodflloiaaGreatAd
import Derived.Test.YtfpkegodflloiaaGreatAe
import Derived.Test.YtfpkegodflloiaaGreatAf
import Derived.Test.YtfpkegodflloiaaGreatBa
import Derived.Test.YtfpkegodflloiaaGreatBb
import Derived.Test.YtfpkegodflloiaaGreatBd
namespace Go.Proofs.YtfpkegodflloiaaGreat
open Go.Proofs.Tryz
open Go Go.AM
def eAt (k:Nat):Nat:=match k with
 | 0=>0
 | 1=>26
 | 2=>51
 | 3=>77
 | 4=>102
 | 5=>128
 | 6=>153
 | 7=>179
 | 8=>204
 | 9=>230
 | _=>255
def byW_gio2 (D:Nat → Int) (k:Nat):St:=byS D k (eAt k:Nat) (outK D (eAt k))
theorem by_same {D:Nat → Int} {i i' n n':Int} {f g:Nat → Int} (hi:i=i') (hn:n=n') (h:∀ d,d < 32 → f d=g d):stR (rnm 4 []) (byS D i n f) (byS D i' n' g)=true:=by
 subst hi hn
 have e:eqF 1 32 (fun _ d=>f d) (fun _ d=>g d)=true:=eqF_of fun r _ d hd=>h d hd
 simp [stR,byS,tmOf,tmR,avR,svR,rIs,rnm,kEq_refl,eqF_refl,hpR,blkR,ndR,e]
 decide
theorem by_sameT {f g:Nat → Int} (h:∀ d,d < 32 → f d=g d):stR (rnm 4 []) (byT f) (byT g)=true:=by
 have e:eqF 1 32 (fun _ d=>f d) (fun _ d=>g d)=true:=eqF_of fun r _ d hd=>h d hd
 simp [stR,byT,tmOf,tmR,avR,svR,rIs,rnm,kEq_refl,eqF_refl,hpR,blkR,ndR,e]
 decide
def byF (D:Nat → Int):LF:=famA 4 [] (byW_gio2 D 0) true .normal (byT (outK D 255))
theorem by_body:f_rimeref04_Bytes.body.map (bodiesOf 2)=some [.loop byB]:=by kernel_rfl
theorem by_ok:codeOK prog byE.env.isW byB=true:=by kernel_rfl
theorem l_by (D:Nat → Int):LRow prog f_rimeref04_Bytes 2 (byF D):=by
 refine LRow.famA (N:=30) (S:=byW_gio2 D) (GX3.env []) mix 10 (loop_of by_body) by_ok (fun w0 own0=>accOK_none (fun id=>rfl) byB) (fun _ _=>Nat.le_refl _) (Nat.le_refl _) fun _=>?_
 refine ⟨fun k hk=>?_,?_⟩
 ·match k,hk with
  | 0,_=>exact roundR_toR (by_r0 D (outK D 26)) (and_t.2 ⟨rfl,by_same rfl rfl fun _ _=>rfl⟩)
  | 1,_=>exact roundR_toR (by_r1 D (outK D 51)) (and_t.2 ⟨rfl,by_same rfl rfl fun _ _=>rfl⟩)
  | 2,_=>exact roundR_toR (by_r2 D (outK D 77)) (and_t.2 ⟨rfl,by_same rfl rfl fun _ _=>rfl⟩)
  | 3,_=>exact roundR_toR (by_r3 D (outK D 102)) (and_t.2 ⟨rfl,by_same rfl rfl fun _ _=>rfl⟩)
  | 4,_=>exact roundR_toR (by_r4 D (outK D 128)) (and_t.2 ⟨rfl,by_same rfl rfl fun _ _=>rfl⟩)
  | 5,_=>exact roundR_toR (by_r5 D (outK D 153)) (and_t.2 ⟨rfl,by_same rfl rfl fun _ _=>rfl⟩)
  | 6,_=>exact roundR_toR (by_r6 D (outK D 179)) (and_t.2 ⟨rfl,by_same rfl rfl fun _ _=>rfl⟩)
  | 7,_=>exact roundR_toR (by_r7 D (outK D 204)) (and_t.2 ⟨rfl,by_same rfl rfl fun _ _=>rfl⟩)
  | 8,_=>exact roundR_toR (by_r8 D (outK D 230)) (and_t.2 ⟨rfl,by_same rfl rfl fun _ _=>rfl⟩)
  | 9,_=>exact roundR_toR (by_r9 D (outK D 255)) (and_t.2 ⟨rfl,by_same rfl rfl fun _ _=>rfl⟩)
 ·obtain ⟨s1,r,q1,q2,q3⟩:=roundR_toR (n:=4) (by_x D (outK D 255)) (and_t.2 ⟨rfl,by_sameT fun _ _=>rfl⟩)
  exact ⟨_,s1,r,q1,rfl,q2,q3⟩
noncomputable abbrev byL1 (D:Nat → Int):EnvP:=envL tt gx3 [] [(2,byF D)]
theorem c_by1 (D:Nat → Int):fnChk prog (byL1 D) f_rimeref04_Bytes=true:=by kernel_rfl
def byIn (D f:Nat → Int):St:=byS D 0 0 f
theorem k_bytesGt (a:Nat → Int):outP (apFunc (byL1 (xG (lf (c3G (l10 a)))).y) [(51,true)] 30 f_rimeref04_Bytes [u10 a] []) =
  some (ckL (byCk (l10 a) true ++ [true && stR (rnm 4 []) (byIn (xG (lf (c3G (l10 a)))).y (fun _=>0)) (byW_gio2 (xG (lf (c3G (l10 a)))).y 0)]),u8s 32 (lf (tabL (outK (xG (lf (c3G (l10 a)))).y 255) 32 0))):=by kernel_rfl
theorem k_bytesGf (a:Nat → Int):outP (apFunc (byL1 (lf (c3G (l10 a)))) [(51,false)] 30 f_rimeref04_Bytes [u10 a] []) =
  some (ckL (byCk (l10 a) false ++ [true && stR (rnm 4 []) (byIn (lf (c3G (l10 a))) (fun _=>0)) (byW_gio2 (lf (c3G (l10 a))) 0)]),u8s 32 (lf (tabL (outK (lf (c3G (l10 a))) 255) 32 0))):=by kernel_rfl
theorem c3_law {l:List Int} (h:gd10 l=true):Cn (lf (c3G l)) ∧ gvF (lf (c3G l)) % pP=gm l ∧ gw10 (lf l)=true ∧ gw10 (lf (carD (lf l)))=true ∧ gw10 (lf (carD (lf (carD (lf l)))))=true:=by
 have w1:=gd_gw h
 have g1:=carD_gd w1
 have w2:=gd_gw g1
 have g2:=carD_gd w2
 have w3:=gd_gw g2
 refine ⟨carD_two (Cn.one (carD_two (carD_one h))),?_,gw10_t.2 w1,gw10_t.2 w2,gw10_t.2 w3⟩
 obtain ⟨q1,e1⟩:=carD_val (lf l)
 obtain ⟨q2,e2⟩:=carD_val (lf (carD (lf l)))
 obtain ⟨q3,e3⟩:=carD_val (lf (carD (lf (carD (lf l)))))
 have f1:gv (carD (lf l))=gv l+q1 * pP:=e1
 have f2:gv (carD (lf (carD (lf l))))=gv (carD (lf l))+q2 * pP:=e2
 have f3:gvF (lf (c3G l))=gv (carD (lf (carD (lf l))))+q3 * pP:=e3
 unfold gm
 rw [f3,Int.add_mul_emod_self_right,f2,Int.add_mul_emod_self_right,f1,Int.add_mul_emod_self_right]
theorem outK_all (D:Nat → Int):tabL (outK D 255) 32 0=outG D:=rfl
theorem gm_range (l:List Int):0 ≤ gm l ∧ gm l < pP:=⟨Int.emod_nonneg _ (by decide),Int.emod_lt_of_pos _ pP_pos⟩
def tBytesG:TF:=fun args=>match args with
 | [.agg [.ints .i64 10 a]]=>some (gd10 (l10 a),b32 (gm (l10 a)))
 | _=>none
theorem r_bytesG:TRow prog F_rimeref04_Bytes tBytesG:=by
 intro args r h
 unfold tBytesG at h
 split at h
 case h_2=>simp at h
 rename_i a
 simp only [Option.some.injEq,Prod.mk.injEq] at h
 obtain ⟨ha,rfl⟩:=h
 obtain ⟨hc,hv,w1,w2,w3⟩:=c3_law ha
 obtain ⟨g0,g1,g2⟩:=xG_law hc
 cases hg:(xG (lf (c3G (l10 a)))).g with
 | true =>
  obtain ⟨c1,v1⟩:=g1 hg
  refine pure_of_outL GX3 at_rimeref04_Bytes (LsOK.nil.cons (l_by (xG (lf (c3G (l10 a)))).y)) (c_by1 (xG (lf (c3G (l10 a)))).y) (N:=30) (gs:=[(51,true)]) ?_
  have e:=k_bytesGt a
  rw [show byCk (l10 a) true=[true,true,true,true] by unfold byCk; rw [w1,w2,w3,hg]; rfl,
   show stR (rnm 4 []) (byIn (xG (lf (c3G (l10 a)))).y (fun _=>0)) (byW_gio2 (xG (lf (c3G (l10 a)))).y 0)=true from by_same rfl rfl fun d _=>by
    show (0:Int)=byteG _ d (cntB 0 d)
    have:cntB 0 d=0:=by unfold cntB; rw [ble_n (by omega)]; show 0 - 8 * d=0; omega
    rw [this]; rfl,outK_all,outG_law c1,v1,hv] at e
  exact e
 | false =>
  have v1:=g2 hg
  refine pure_of_outL GX3 at_rimeref04_Bytes (LsOK.nil.cons (l_by (lf (c3G (l10 a))))) (c_by1 (lf (c3G (l10 a)))) (N:=30) (gs:=[(51,false)]) ?_
  have e:=k_bytesGf a
  rw [show byCk (l10 a) false=[true,true,true,true] by unfold byCk; rw [w1,w2,w3,hg]; rfl,
   show stR (rnm 4 []) (byIn (lf (c3G (l10 a))) (fun _=>0)) (byW_gio2 (lf (c3G (l10 a))) 0)=true from by_same rfl rfl fun d _=>by
    show (0:Int)=byteG _ d (cntB 0 d)
    have:cntB 0 d=0:=by unfold cntB; rw [ble_n (by omega)]; show 0 - 8 * d=0; omega
    rw [this]; rfl,outK_all,outG_law hc,v1,hv] at e
  exact e
noncomputable def gx4:List (Nat × TF):=(F_rimeref04_Bytes,tBytesG) :: (F_rimeref04_From,tFromG) :: gx2
theorem GX4:LibOK prog tt gx4 []:=(GX2.addT r_fromG).addT r_bytesG
def tSmallG:TF:=fun args=>match args with
 | [.sc (.int .i64 n)]=>some (gwB n,u10 (lf (carD (lf [n,0,0,0,0,0,0,0,0,0]))))
 | _=>none
theorem c_smallG:fnChk prog (envP tt gx4 []) f_rimeref04_Small=true:=by kernel_rfl
theorem k_smallG (n:Int):outP (apFunc (envP tt gx4 []) [] 60 f_rimeref04_Small [.sc (.int .i64 n)] [])=some (ckL [gw10 (lf [n,0,0,0,0,0,0,0,0,0])],u10 (lf (carD (lf [n,0,0,0,0,0,0,0,0,0])))):=by kernel_rfl
theorem r_smallG:TRow prog F_rimeref04_Small tSmallG:=by
 intro args r h
 unfold tSmallG at h
 split at h
 case h_2=>simp at h
 rename_i n
 simp only [Option.some.injEq,Prod.mk.injEq] at h
 obtain ⟨ha,rfl⟩:=h
 refine pure_of_out GX4 at_rimeref04_Small c_smallG (N:=60) (gs:=[]) ?_
 have e:=k_smallG n
 rw [show gw10 (lf [n,0,0,0,0,0,0,0,0,0])=true by unfold gw10; rw [show gwB (lf [n,0,0,0,0,0,0,0,0,0] 0)=true from ha]; rfl] at e
 exact e
noncomputable def gx5:List (Nat × TF):=(F_rimeref04_Small,tSmallG) :: gx4
theorem GX5:LibOK prog tt gx5 []:=(GX4).addT r_smallG
end Go.Proofs.YtfpkegodflloiaaGreat
namespace Go.Proofs.YtfpkegodflloiaaGreat
open Go.Proofs.Tryz
open Go Go.AM
def tG (a b:List Int):List Int:=mulG (q10 a) (q10 b)
theorem q10_gd (l:List Int):gd10 (q10 l)=gd10 l:=rfl
theorem q10_gm (l:List Int):gm (q10 l)=gm l:=rfl
theorem tG_gd {a b:List Int} (ha:gd10 a=true) (hb:gd10 b=true):gd10 (tG a b)=true:=(mulG_law (a:=q10 a) (b:=q10 b) ha hb).1
theorem tG_gm {a b:List Int} (ha:gd10 a=true) (hb:gd10 b=true):gm (tG a b)=mM (gm a) (gm b):=mulG_gm (a:=q10 a) (b:=q10 b) ha hb
def one10:List Int:=carD (lf [1,0,0,0,0,0,0,0,0,0])
def pwG (a:List Int):List Bool → List Int → List Int
 | [],r=>r
 | b :: bs,r=>pwG a bs (match b with | true=>tG (tG r r) a | false=>tG r r)
def pwCk (a:List Int):List Bool → List Int → List Bool
 | [],_=>[]
 | b :: bs,r=>match b with
  | true=>(gd10 (q10 r) && gd10 (q10 r)) :: (gd10 (q10 (tG r r)) && gd10 (q10 a)) :: pwCk a bs (tG (tG r r) a)
  | false=>(gd10 (q10 r) && gd10 (q10 r)) :: pwCk a bs (tG r r)
def bitsV (n:Nat):List Bool → Nat
 | []=>n
 | b :: bs=>bitsV (match b with | true=>n+n+1 | false=>n+n) bs
theorem pwG_law {a:List Int} (ha:gd10 a=true):∀ (bs:List Bool) (r:List Int) (n:Nat),gd10 r=true → gm r=powM (gm a) n → gd10 (pwG a bs r)=true ∧ gm (pwG a bs r)=powM (gm a) (bitsV n bs) ∧ ∀ c ∈ pwCk a bs r,c=true
 | [],r,n,hr,hn=>⟨hr,hn,fun c hc=>by simp [pwCk] at hc⟩
 | true :: bs,r,n,hr,hn=>by
  have h2:=tG_gd hr hr
  have h3:=tG_gd h2 ha
  obtain ⟨q1,q2,q3⟩:=pwG_law ha bs (tG (tG r r) a) (n+n+1) h3 (by rw [tG_gm h2 ha,tG_gm hr hr,hn,powM_mul,← powM_mul (gm a) (n+n) 1,powM_one (gm_range a)])
  refine ⟨q1,q2,fun c hc=>?_⟩
  simp only [pwCk,List.mem_cons] at hc
  rcases hc with rfl | rfl | hc
  ·exact and_t.2 ⟨hr,hr⟩
  ·exact and_t.2 ⟨h2,ha⟩
  ·exact q3 c hc
 | false :: bs,r,n,hr,hn=>by
  have h2:=tG_gd hr hr
  obtain ⟨q1,q2,q3⟩:=pwG_law ha bs (tG r r) (n+n) h2 (by rw [tG_gm hr hr,hn,powM_mul])
  refine ⟨q1,q2,fun c hc=>?_⟩
  simp only [pwCk,List.mem_cons] at hc
  rcases hc with rfl | hc
  ·exact and_t.2 ⟨hr,hr⟩
  ·exact q3 c hc
theorem one10_law (x:Int):gd10 one10=true ∧ gm one10=powM x 0:=by
 refine ⟨by decide,?_⟩
 unfold powM
 rw [Int.pow_zero]
 decide
def eIL:List Int:=[235,255,255,255,255,255,255,255,255,255,255,255,255,255,255,255,255,255,255,255,255,255,255,255,255,255,255,255,255,255,255,127]
def eEL:List Int:=[253,255,255,255,255,255,255,255,255,255,255,255,255,255,255,255,255,255,255,255,255,255,255,255,255,255,255,255,255,255,255,15]
noncomputable abbrev pwE:EnvP:=envP tt gx5 []
noncomputable def pwB:Code:=match f_rimeref04_power.body with | some c=>(match bodiesOf 0 c with | [.loop b]=>b | _=>.skip) | none=>.skip
def pwS (a s:Nat → Int) (i:Int) (x:Nat → Int):St:=⟨tmOf [(2,.sc (.ptr 0 10 0 0 10)),(3,.sc (.ptr 1 32 0 0 32)),(4,.sc (.ptr 2 10 0 0 10)),(5,.sc (.ptr 3 10 0 0 10)),(6,.sc (.int .i64 i))] 32 0,
 [some (.ints .i64 10 1 (fun _ d=>a d)),some (.ints .u8 32 1 (fun _ d=>s d)),some (.ints .i64 10 1 (fun _ _=>0)),some (.ints .i64 10 1 (fun _ d=>x d))]⟩
def pwT (x:Nat → Int):St:=⟨tmOf [(4,.sc (.ptr 2 10 0 0 10)),(5,.sc (.ptr 3 10 0 0 10))] 32 0,[none,none,some (.ints .i64 10 1 (fun _ _=>0)),some (.ints .i64 10 1 (fun _ d=>x d))]⟩
def ones8:List Bool:=[true,true,true,true,true,true,true,true]
def onCk (a:List Int) (s:Nat → Int) (v:Int):Nat → List Int → List Bool
 | 0,_=>[]
 | k+1,r=>(gd10 (q10 r) && gd10 (q10 r)) :: inR v 32 :: ((iand .u8 (ishr .u8 (s (0+v.toNat * 1)) (k:Int)) 1 == 1) == true) :: (gd10 (q10 (tG r r)) && gd10 (q10 a)) :: onCk a s v k (tG (tG r r) a)
theorem pw_ones (a s:Nat → Int) (v v':Int) (x x':Nat → Int):roundR pwE [(10,true),(27,true)] 12 4 [] pwB (pwS a s v x) .normal (pwS a s v' x') =
  some (ckL ((decide (v ≥ 0) == true) :: onCk (l10 a) s v 8 (l10 x)) && stR (rnm 4 []) (pwS a s (wr .i64 (v - 1)) (lf (pwG (l10 a) ones8 (l10 x)))) (pwS a s v' x')):=by kernel_rfl
theorem pw_exit (a s:Nat → Int) (x x':Nat → Int):roundR pwE [] 12 4 [] pwB (pwS a s (-1) x) (.exit 0) (pwT x')=some (true && stR (rnm 4 []) (pwT x) (pwT x')):=by kernel_rfl
def b31I:List Bool:=[false,true,true,true,true,true,true,true]
def b0I:List Bool:=[true,true,true,false,true,false,true,true]
theorem pw_31I (a:Nat → Int) (x x':Nat → Int):roundR pwE [] 12 4 [] pwB (pwS a (lf eIL) 31 x) .normal (pwS a (lf eIL) 30 x') =
  some (ckL (pwCk (l10 a) b31I (l10 x)) && stR (rnm 4 []) (pwS a (lf eIL) 30 (lf (pwG (l10 a) b31I (l10 x)))) (pwS a (lf eIL) 30 x')):=by kernel_rfl
theorem pw_0I (a:Nat → Int) (x x':Nat → Int):roundR pwE [] 12 4 [] pwB (pwS a (lf eIL) 0 x) .normal (pwS a (lf eIL) (-1) x') =
  some (ckL (pwCk (l10 a) b0I (l10 x)) && stR (rnm 4 []) (pwS a (lf eIL) (-1) (lf (pwG (l10 a) b0I (l10 x)))) (pwS a (lf eIL) (-1) x')):=by kernel_rfl
def b31E:List Bool:=[false,false,false,false,true,true,true,true]
def b0E:List Bool:=[true,true,true,true,true,true,false,true]
theorem pw_31E (a:Nat → Int) (x x':Nat → Int):roundR pwE [] 12 4 [] pwB (pwS a (lf eEL) 31 x) .normal (pwS a (lf eEL) 30 x') =
  some (ckL (pwCk (l10 a) b31E (l10 x)) && stR (rnm 4 []) (pwS a (lf eEL) 30 (lf (pwG (l10 a) b31E (l10 x)))) (pwS a (lf eEL) 30 x')):=by kernel_rfl
theorem pw_0E (a:Nat → Int) (x x':Nat → Int):roundR pwE [] 12 4 [] pwB (pwS a (lf eEL) 0 x) .normal (pwS a (lf eEL) (-1) x') =
  some (ckL (pwCk (l10 a) b0E (l10 x)) && stR (rnm 4 []) (pwS a (lf eEL) (-1) (lf (pwG (l10 a) b0E (l10 x)))) (pwS a (lf eEL) (-1) x')):=by kernel_rfl
end Go.Proofs.YtfpkegodflloiaaGreat
namespace Go.Proofs.YtfpkegodflloiaaGreat
open Go.Proofs.Tryz
open Go Go.AM
theorem pw_same {a s:Nat → Int} {v v':Int} {f g:Nat → Int} (hv:v=v') (h:∀ d,d < 10 → f d=g d):stR (rnm 4 []) (pwS a s v f) (pwS a s v' g)=true:=by
 subst hv
 have e:eqF 1 10 (fun _ d=>f d) (fun _ d=>g d)=true:=eqF_of fun r _ d hd=>h d hd
 simp [stR,pwS,tmOf,tmR,avR,svR,rIs,rnm,kEq_refl,eqF_refl,hpR,blkR,ndR,e]
 decide
theorem pw_sameT {f g:Nat → Int} (h:∀ d,d < 10 → f d=g d):stR (rnm 4 []) (pwT f) (pwT g)=true:=by
 have e:eqF 1 10 (fun _ d=>f d) (fun _ d=>g d)=true:=eqF_of fun r _ d hd=>h d hd
 simp [stR,pwT,tmOf,tmR,avR,svR,rIs,rnm,kEq_refl,eqF_refl,hpR,blkR,ndR,e]
 decide
theorem on_bit:∀ k:Nat,k < 8 → (iand .u8 (ishr .u8 255 (k:Int)) 1 == 1)=true:=by decide
theorem onCk_law {a:List Int} (ha:gd10 a=true) {s:Nat → Int} {v:Int} (hv:inR v 32=true) (hs:s (0+v.toNat * 1)=255):∀ (k:Nat) (r:List Int),k ≤ 8 → gd10 r=true → ∀ c ∈ onCk a s v k r,c=true
 | 0,r,_,_,c,hc=>by simp [onCk] at hc
 | k+1,r,hk,hr,c,hc=>by
  have h2:=tG_gd hr hr
  simp only [onCk,List.mem_cons] at hc
  rcases hc with rfl | rfl | rfl | rfl | hc
  ·exact and_t.2 ⟨hr,hr⟩
  ·exact hv
  ·rw [hs,on_bit k (by omega)]; rfl
  ·exact and_t.2 ⟨h2,ha⟩
  ·exact onCk_law ha hv hs k _ (by omega) (tG_gd h2 ha) c hc
def btI (k:Nat):List Bool:=match k with
 | 0=>b31I
 | 31=>b0I
 | _=>ones8
def rkI (a:List Int):Nat → List Int
 | 0=>one10
 | k+1=>pwG a (btI k) (q10 (rkI a k))
def nkI:Nat → Nat
 | 0=>0
 | k+1=>bitsV (nkI k) (btI k)
theorem nkI_val:nkI 32=57896044618658097711785492504343953926634992332820282019728792003956564819947:=by decide +kernel
theorem rkI_law {a:List Int} (ha:gd10 a=true):∀ k,gd10 (rkI a k)=true ∧ gm (rkI a k)=powM (gm a) (nkI k)
 | 0=>one10_law _
 | k+1=>by
  obtain ⟨h1,h2⟩:=rkI_law ha k
  obtain ⟨q1,q2,q3⟩:=pwG_law ha (btI k) (q10 (rkI a k)) (nkI k) h1 h2
  exact ⟨q1,q2⟩
def pwWI (a:Nat → Int) (k:Nat):St:=pwS a (lf eIL) (31 - (k:Int)) (lf (rkI (l10 a) k))
def pwFI (a:Nat → Int):LF:=famA 4 [] (pwWI a 0) (gd10 (l10 a)) .normal (pwT (lf (rkI (l10 a) 32)))
theorem midI:∀ k,k < 31 → 0 < k → lf eIL (0+(31 - k) * 1)=255 ∧ btI k=ones8:=by decide
def btE (k:Nat):List Bool:=match k with
 | 0=>b31E
 | 31=>b0E
 | _=>ones8
def rkE (a:List Int):Nat → List Int
 | 0=>one10
 | k+1=>pwG a (btE k) (q10 (rkE a k))
def nkE:Nat → Nat
 | 0=>0
 | k+1=>bitsV (nkE k) (btE k)
theorem rkE_law {a:List Int} (ha:gd10 a=true):∀ k,gd10 (rkE a k)=true ∧ gm (rkE a k)=powM (gm a) (nkE k)
 | 0=>one10_law _
 | k+1=>by
  obtain ⟨h1,h2⟩:=rkE_law ha k
  obtain ⟨q1,q2,q3⟩:=pwG_law ha (btE k) (q10 (rkE a k)) (nkE k) h1 h2
  exact ⟨q1,q2⟩
def pwWE (a:Nat → Int) (k:Nat):St:=pwS a (lf eEL) (31 - (k:Int)) (lf (rkE (l10 a) k))
def pwFE (a:Nat → Int):LF:=famA 4 [] (pwWE a 0) (gd10 (l10 a)) .normal (pwT (lf (rkE (l10 a) 32)))
theorem midE:∀ k,k < 31 → 0 < k → lf eEL (0+(31 - k) * 1)=255 ∧ btE k=ones8:=by decide
theorem pw_body:f_rimeref04_power.body.map (bodiesOf 0)=some [.loop pwB]:=by kernel_rfl
theorem pw_ok:codeOK prog pwE.env.isW pwB=true:=by kernel_rfl
set_option maxRecDepth 100000 in
theorem l_pwI (a:Nat → Int):LRow prog f_rimeref04_power 0 (pwFI a):=by
 refine LRow.famA (N:=12) (S:=pwWI a) (GX5.env []) mix 32 (loop_of pw_body) pw_ok (fun w0 own0=>accOK_none (fun id=>rfl) pwB) (fun _ _=>Nat.le_refl _) (Nat.le_refl _) fun ha=>?_
 refine ⟨fun k hk=>?_,?_⟩
 ·obtain ⟨h1,h2⟩:=rkI_law ha k
  obtain ⟨q1,q2,q3⟩:=pwG_law ha (btI k) (q10 (rkI (l10 a) k)) (nkI k) h1 h2
  by_cases k0:k=0
  ·subst k0
   exact roundR_toR (pw_31I a (lf (rkI (l10 a) 0)) (lf (rkI (l10 a) 1))) (and_t.2 ⟨ckL_t.2 q3,pw_same rfl fun _ _=>rfl⟩)
  ·by_cases k31:k=31
   ·subst k31
    exact roundR_toR (pw_0I a (lf (rkI (l10 a) 31)) (lf (rkI (l10 a) 32))) (and_t.2 ⟨ckL_t.2 q3,pw_same rfl fun _ _=>rfl⟩)
   ·obtain ⟨m1,m2⟩:=midI k (by omega) (by omega)
    have hv:(31 - (k:Int)).toNat=31 - k:=by omega
    refine roundR_toR (pw_ones a (lf eIL) (31 - (k:Int)) (31 - ((k+1:Nat):Int)) (lf (rkI (l10 a) k)) (lf (rkI (l10 a) (k+1)))) (and_t.2 ⟨ckL_t.2 fun c hc=>?_,pw_same ((wr_i64 (by omega) (by omega)).trans (by omega)) fun d _=>?_⟩)
    ·simp only [List.mem_cons] at hc
     rcases hc with rfl | hc
     ·rw [decide_eq_true (by omega)]; rfl
     ·exact onCk_law ha (by simp [inR]; omega) (by rw [hv]; exact m1) 8 _ (Nat.le_refl _) h1 c hc
    ·show lf (pwG (l10 a) ones8 _) d=lf (pwG (l10 a) (btI k) _) d
     rw [m2]; rfl
 ·obtain ⟨s1,r,q1,q2,q3⟩:=roundR_toR (n:=4) (pw_exit a (lf eIL) (lf (rkI (l10 a) 32)) (lf (rkI (l10 a) 32))) (and_t.2 ⟨rfl,pw_sameT fun _ _=>rfl⟩)
  exact ⟨_,s1,r,q1,rfl,q2,q3⟩
theorem c_pwI (a:Nat → Int):fnChk prog (envL tt gx5 [] [(0,pwFI a)]) f_rimeref04_power=true:=by kernel_rfl
set_option maxRecDepth 100000 in
theorem k_pwI (a:Nat → Int):outP (apFunc (envL tt gx5 [] [(0,pwFI a)]) [] 5 f_rimeref04_power [u10 a,u8s 32 (lf eIL)] []) =
  some (ckL [gd10 (l10 a) && stR (rnm 4 []) (pwS a (lf eIL) 31 (lf one10)) (pwWI a 0)],u10 (lf (q10 (rkI (l10 a) 32)))):=by kernel_rfl
theorem p_pwI (a:Nat → Int) (ha:gd10 (l10 a)=true):Pure prog F_rimeref04_power [u10 a,u8s 32 (lf eIL)] (u10 (lf (q10 (rkI (l10 a) 32)))):=by
 refine pure_of_outL GX5 at_rimeref04_power (LsOK.nil.cons (l_pwI a)) (c_pwI a) (N:=5) (gs:=[]) ?_
 have e:=k_pwI a
 rw [ha,show stR (rnm 4 []) (pwS a (lf eIL) 31 (lf one10)) (pwWI a 0)=true from pw_same rfl fun _ _=>rfl] at e
 exact e
set_option maxRecDepth 100000 in
theorem l_pwE (a:Nat → Int):LRow prog f_rimeref04_power 0 (pwFE a):=by
 refine LRow.famA (N:=12) (S:=pwWE a) (GX5.env []) mix 32 (loop_of pw_body) pw_ok (fun w0 own0=>accOK_none (fun id=>rfl) pwB) (fun _ _=>Nat.le_refl _) (Nat.le_refl _) fun ha=>?_
 refine ⟨fun k hk=>?_,?_⟩
 ·obtain ⟨h1,h2⟩:=rkE_law ha k
  obtain ⟨q1,q2,q3⟩:=pwG_law ha (btE k) (q10 (rkE (l10 a) k)) (nkE k) h1 h2
  by_cases k0:k=0
  ·subst k0
   exact roundR_toR (pw_31E a (lf (rkE (l10 a) 0)) (lf (rkE (l10 a) 1))) (and_t.2 ⟨ckL_t.2 q3,pw_same rfl fun _ _=>rfl⟩)
  ·by_cases k31:k=31
   ·subst k31
    exact roundR_toR (pw_0E a (lf (rkE (l10 a) 31)) (lf (rkE (l10 a) 32))) (and_t.2 ⟨ckL_t.2 q3,pw_same rfl fun _ _=>rfl⟩)
   ·obtain ⟨m1,m2⟩:=midE k (by omega) (by omega)
    have hv:(31 - (k:Int)).toNat=31 - k:=by omega
    refine roundR_toR (pw_ones a (lf eEL) (31 - (k:Int)) (31 - ((k+1:Nat):Int)) (lf (rkE (l10 a) k)) (lf (rkE (l10 a) (k+1)))) (and_t.2 ⟨ckL_t.2 fun c hc=>?_,pw_same ((wr_i64 (by omega) (by omega)).trans (by omega)) fun d _=>?_⟩)
    ·simp only [List.mem_cons] at hc
     rcases hc with rfl | hc
     ·rw [decide_eq_true (by omega)]; rfl
     ·exact onCk_law ha (by simp [inR]; omega) (by rw [hv]; exact m1) 8 _ (Nat.le_refl _) h1 c hc
    ·show lf (pwG (l10 a) ones8 _) d=lf (pwG (l10 a) (btE k) _) d
     rw [m2]; rfl
 ·obtain ⟨s1,r,q1,q2,q3⟩:=roundR_toR (n:=4) (pw_exit a (lf eEL) (lf (rkE (l10 a) 32)) (lf (rkE (l10 a) 32))) (and_t.2 ⟨rfl,pw_sameT fun _ _=>rfl⟩)
  exact ⟨_,s1,r,q1,rfl,q2,q3⟩
theorem c_pwE (a:Nat → Int):fnChk prog (envL tt gx5 [] [(0,pwFE a)]) f_rimeref04_power=true:=by kernel_rfl
set_option maxRecDepth 100000 in
theorem k_pwE (a:Nat → Int):outP (apFunc (envL tt gx5 [] [(0,pwFE a)]) [] 5 f_rimeref04_power [u10 a,u8s 32 (lf eEL)] []) =
  some (ckL [gd10 (l10 a) && stR (rnm 4 []) (pwS a (lf eEL) 31 (lf one10)) (pwWE a 0)],u10 (lf (q10 (rkE (l10 a) 32)))):=by kernel_rfl
theorem p_pwE (a:Nat → Int) (ha:gd10 (l10 a)=true):Pure prog F_rimeref04_power [u10 a,u8s 32 (lf eEL)] (u10 (lf (q10 (rkE (l10 a) 32)))):=by
 refine pure_of_outL GX5 at_rimeref04_power (LsOK.nil.cons (l_pwE a)) (c_pwE a) (N:=5) (gs:=[]) ?_
 have e:=k_pwE a
 rw [ha,show stR (rnm 4 []) (pwS a (lf eEL) 31 (lf one10)) (pwWE a 0)=true from pw_same rfl fun _ _=>rfl] at e
 exact e
def tPowerG:TF:=fun args=>match args with
 | [.agg [.ints .i64 10 a],.agg [.ints .u8 32 s]]=>(match eqN 32 s (lf eIL) with
  | true=>some (gd10 (l10 a),u10 (lf (q10 (rkI (l10 a) 32))))
  | false=>some (gd10 (l10 a) && eqN 32 s (lf eEL),u10 (lf (q10 (rkE (l10 a) 32)))))
 | _=>none
theorem RG_eqN {σ:Sg} {pr:Pr} {w:World} {k:IntKind} {n:Nat} {f g:Nat → Int} (h:eqN n f g=true) {v:Value} (hv:RV σ pr w (.agg [.ints k n f]) v):RV σ pr w (.agg [.ints k n g]) v:=by
 obtain ⟨cs,rfl,h1,h2⟩:=hv
 refine ⟨cs,rfl,h1,fun c x hx=>?_⟩
 have hc:c < n:=by
  have:=(List.getElem?_eq_some_iff.1 hx).1
  rw [h1] at this
  simpa [lenS] using this
 have:=h2 c x hx
 have e:f c=g c:=eqN_t h c hc
 show RS σ pr w (.int k (g c)) x
 rw [← e]; exact this
theorem pure_eqN {f:FuncId} {a:AV} {k:IntKind} {n:Nat} {s s':Nat → Int} {r:AV} (h:eqN n s s'=true) (hP:Pure prog f [a,.agg [.ints k n s']] r):Pure prog f [a,.agg [.ints k n s]] r:=by
 intro pr w vs ha hlt
 refine hP pr w vs ⟨by simpa using ha.1,fun j x v e1 e2=>?_⟩ hlt
 match j,e1 with
 | 0,e1=>exact ha.2 0 x v (by simpa using e1) e2
 | 1,e1 =>
  simp only [List.getElem?_cons_succ,List.getElem?_cons_zero,Option.some.injEq] at e1
  subst e1
  exact RG_eqN h (ha.2 1 _ v rfl e2)
 | j+2,e1=>simp at e1
theorem r_powerG:TRow prog F_rimeref04_power tPowerG:=by
 intro args r h
 unfold tPowerG at h
 split at h
 case h_2=>simp at h
 rename_i a s
 split at h
 ·rename_i hs
  simp only [Option.some.injEq,Prod.mk.injEq] at h
  obtain ⟨ha,rfl⟩:=h
  exact pure_eqN hs (p_pwI a ha)
 ·simp only [Option.some.injEq,Prod.mk.injEq,Bool.and_eq_true] at h
  obtain ⟨⟨ha,hs⟩,rfl⟩:=h
  exact pure_eqN hs (p_pwE a ha)
end Go.Proofs.YtfpkegodflloiaaGreat
namespace Go.Proofs.YtfpkegodflloiaaGreat
open Go.Proofs.Tryz
open Go Go.AM
def tExpG:TF:=fun args=>match args with
 | [.sc (.int .u8 l),.sc (.int .i64 h)]=>(match decide (l=2) && decide (h=0) with
  | true=>some (true,u8s 32 (lf eIL))
  | false=>some (decide (l=0) && decide (h=3),u8s 32 (lf eEL)))
 | _=>none
theorem c_expG:fnChk prog (envP tt gx5 []) f_rimeref04_exponent=true:=by kernel_rfl
theorem r_expG:TRow prog F_rimeref04_exponent tExpG:=by
 intro args r h
 unfold tExpG at h
 split at h
 case h_2=>simp at h
 rename_i l hh
 split at h
 ·rename_i hc
  simp only [Bool.and_eq_true,decide_eq_true_eq] at hc
  obtain ⟨rfl,rfl⟩:=hc
  simp only [Option.some.injEq,Prod.mk.injEq,true_and] at h
  subst h
  exact pure_of_out GX5 at_rimeref04_exponent c_expG (N:=40) (gs:=[]) (by kernel_rfl)
 ·simp only [Option.some.injEq,Prod.mk.injEq,Bool.and_eq_true,decide_eq_true_eq] at h
  obtain ⟨⟨rfl,rfl⟩,rfl⟩:=h
  exact pure_of_out GX5 at_rimeref04_exponent c_expG (N:=40) (gs:=[]) (by kernel_rfl)
noncomputable def gx6:List (Nat × TF):=(F_rimeref04_exponent,tExpG) :: (F_rimeref04_power,tPowerG) :: gx5
theorem GX6:LibOK prog tt gx6 []:=(GX5.addT r_powerG).addT r_expG
def invG (a:List Int):List Int:=q10 (rkI a 32)
theorem invG_law {a:List Int} (h:gd10 a=true):gd10 (invG a)=true ∧ gm (invG a)=invM (gm a):=by
 obtain ⟨h1,h2⟩:=rkI_law h 32
 rw [nkI_val] at h2
 exact ⟨(q10_gd _).trans h1,(q10_gm _).trans h2⟩
def tInvG:TF:=fun args=>match args with
 | [.agg [.ints .i64 10 a]]=>some (gd10 (l10 a),u10 (lf (invG (l10 a))))
 | _=>none
theorem c_invG:fnChk prog (envP tt gx6 []) f_rimeref04_Invert=true:=by kernel_rfl
set_option maxRecDepth 100000 in
theorem k_invG (a:Nat → Int):outP (apFunc (envP tt gx6 []) [] 5 f_rimeref04_Invert [u10 a] [])=some (ckL [gd10 (l10 a)],u10 (lf (invG (l10 a)))):=by kernel_rfl
theorem r_invG:TRow prog F_rimeref04_Invert tInvG:=by
 intro args r h
 unfold tInvG at h
 split at h
 case h_2=>simp at h
 rename_i a
 simp only [Option.some.injEq,Prod.mk.injEq] at h
 obtain ⟨ha,rfl⟩:=h
 refine pure_of_out GX6 at_rimeref04_Invert c_invG (N:=5) (gs:=[]) ?_
 have e:=k_invG a
 rw [ha] at e
 exact e
def gM (a b:List Int):Bool:=gd10 (q10 a) && gd10 (q10 b)
theorem gM_t {a b:List Int} (ha:gd10 a=true) (hb:gd10 b=true):gM a b=true:=and_t.2 ⟨ha,hb⟩
noncomputable def gx7:List (Nat × TF):=(F_rimeref04_Invert,tInvG) :: gx6
theorem GX7:LibOK prog tt gx7 []:=(GX6.addT r_invG)
end Go.Proofs.YtfpkegodflloiaaGreat
namespace Go.Proofs.YtfpkegodflloiaaGreat
open Go.Proofs.Tryz
open Go Go.AM
def dGL:List Int:=carD (lf (fromL eD))
def iGL:List Int:=carD (lf (fromL iM))
def bxGL:List Int:=carD (lf (fromL bxI))
def byGL:List Int:=carD (lf (fromL byI))
def zer10:List Int:=[0,0,0,0,0,0,0,0,0,0]
def idGL:List Int:=zer10 ++ (one10 ++ (one10 ++ zer10))
def baGL:List Int:=bxGL ++ (byGL ++ (one10 ++ q10 (tG bxGL byGL)))
def mdL:List Int:=dGL ++ (iGL ++ baGL)
def gpt (p:Nat → Int):AV:=.agg [.ints .i64 40 p]
def crv (c:Nat → Int):AV:=.agg [.ints .i64 60 c]
theorem dGL_law:gd10 dGL=true ∧ gm dGL=eD:=by
 obtain ⟨h1,h2,h3⟩:=fromL_law (v:=eD) (by decide)
 exact ⟨h2,h3.trans (by decide)⟩
def tDG:TF:=fun args=>match args with
 | []=>some (true,u10 (lf dGL))
 | _=>none
theorem c_DG:fnChk prog (envP tt gx7 []) f_rimeref04_D=true:=by kernel_rfl
theorem r_DG:TRow prog F_rimeref04_D tDG:=by
 intro args r h
 unfold tDG at h
 split at h
 case h_2=>simp at h
 simp only [Option.some.injEq,Prod.mk.injEq,true_and] at h
 subst h
 exact pure_of_out GX7 at_rimeref04_D c_DG (N:=60) (gs:=[]) (by kernel_rfl)
def tSqrtM1G:TF:=fun args=>match args with
 | []=>some (true,u10 (lf iGL))
 | _=>none
theorem c_SqrtM1G:fnChk prog (envP tt gx7 []) f_rimeref04_SqrtM1=true:=by kernel_rfl
theorem r_SqrtM1G:TRow prog F_rimeref04_SqrtM1 tSqrtM1G:=by
 intro args r h
 unfold tSqrtM1G at h
 split at h
 case h_2=>simp at h
 simp only [Option.some.injEq,Prod.mk.injEq,true_and] at h
 subst h
 exact pure_of_out GX7 at_rimeref04_SqrtM1 c_SqrtM1G (N:=60) (gs:=[]) (by kernel_rfl)
def tNoneG:TF:=fun args=>match args with
 | []=>some (true,gpt (lf idGL))
 | _=>none
theorem c_NoneG:fnChk prog (envP tt gx7 []) f_rimeref04_None=true:=by kernel_rfl
theorem r_NoneG:TRow prog F_rimeref04_None tNoneG:=by
 intro args r h
 unfold tNoneG at h
 split at h
 case h_2=>simp at h
 simp only [Option.some.injEq,Prod.mk.injEq,true_and] at h
 subst h
 exact pure_of_out GX7 at_rimeref04_None c_NoneG (N:=60) (gs:=[]) (by kernel_rfl)
def tAffG:TF:=fun args=>match args with
 | [.agg [.ints .i64 10 x],.agg [.ints .i64 10 y]]=>some (gd10 (l10 x) && gd10 (l10 y),gpt (lf (q10 (l10 x) ++ (q10 (l10 y) ++ (one10 ++ q10 (tG (l10 x) (l10 y)))))))
 | _=>none
theorem c_affG:fnChk prog (envP tt gx7 []) f_rimeref04_Affine=true:=by kernel_rfl
theorem k_affG (x y:Nat → Int):outP (apFunc (envP tt gx7 []) [] 5 f_rimeref04_Affine [u10 x,u10 y] [])=some (ckL [gM (l10 x) (l10 y)],gpt (lf (q10 (l10 x) ++ (q10 (l10 y) ++ (one10 ++ q10 (tG (l10 x) (l10 y))))))):=by kernel_rfl
theorem r_affG:TRow prog F_rimeref04_Affine tAffG:=by
 intro args r h
 unfold tAffG at h
 split at h
 case h_2=>simp at h
 rename_i x y
 simp only [Option.some.injEq,Prod.mk.injEq,Bool.and_eq_true] at h
 obtain ⟨⟨hx,hy⟩,rfl⟩:=h
 refine pure_of_out GX7 at_rimeref04_Affine c_affG (N:=5) (gs:=[]) ?_
 have e:=k_affG x y
 rw [gM_t hx hy] at e
 exact e
noncomputable def gx8:List (Nat × TF):=(F_rimeref04_Affine,tAffG) :: (F_rimeref04_None,tNoneG) :: (F_rimeref04_SqrtM1,tSqrtM1G) :: (F_rimeref04_D,tDG) :: gx7
theorem GX8:LibOK prog tt gx8 []:=(((GX7.addT r_DG).addT r_SqrtM1G).addT r_NoneG).addT r_affG
def tMadeG:TF:=fun args=>match args with
 | []=>some (true,crv (lf mdL))
 | _=>none
theorem c_MadeG:fnChk prog (envP tt gx8 []) f_rimeref04_Made=true:=by kernel_rfl
theorem r_MadeG:TRow prog F_rimeref04_Made tMadeG:=by
 intro args r h
 unfold tMadeG at h
 split at h
 case h_2=>simp at h
 simp only [Option.some.injEq,Prod.mk.injEq,true_and] at h
 subst h
 exact pure_of_out GX8 at_rimeref04_Made c_MadeG (N:=60) (gs:=[]) (by kernel_rfl)
def gX (p:Nat → Int):List Int:=[p 0,p 1,p 2,p 3,p 4,p 5,p 6,p 7,p 8,p 9]
def gY (p:Nat → Int):List Int:=[p 10,p 11,p 12,p 13,p 14,p 15,p 16,p 17,p 18,p 19]
def gZ (p:Nat → Int):List Int:=[p 20,p 21,p 22,p 23,p 24,p 25,p 26,p 27,p 28,p 29]
def gT_ptg2 (p:Nat → Int):List Int:=[p 30,p 31,p 32,p 33,p 34,p 35,p 36,p 37,p 38,p 39]
def aG (a b:List Int):List Int:=addG (q10 a) (q10 b)
def sG (a b:List Int):List Int:=subG (q10 a) (q10 b)
def ptAddG (p q:Nat → Int):List Int :=
 let a:=tG (gX p) (gX q)
 let b:=tG (gY p) (gY q)
 let e:=tG dGL (tG (gT_ptg2 p) (gT_ptg2 q))
 let z:=tG (gZ p) (gZ q)
 let x:=sG (sG (tG (aG (gX p) (gY p)) (aG (gX q) (gY q))) a) b
 let f:=sG z e
 let g:=aG z e
 let h:=aG b a
 tG x f ++ (tG g h ++ (tG f g ++ tG x h))
def ptAddGCk (p q:Nat → Int):List Bool :=
 let a:=tG (gX p) (gX q)
 let b:=tG (gY p) (gY q)
 let e:=tG dGL (tG (gT_ptg2 p) (gT_ptg2 q))
 let z:=tG (gZ p) (gZ q)
 let s:=tG (aG (gX p) (gY p)) (aG (gX q) (gY q))
 let x:=sG (sG s a) b
 let f:=sG z e
 let g:=aG z e
 let h:=aG b a
 [gM (gX p) (gX q),gM (gY p) (gY q),gM (gT_ptg2 p) (gT_ptg2 q),gM dGL (tG (gT_ptg2 p) (gT_ptg2 q)),gM (gZ p) (gZ q),gM (gX p) (gY p),gM (gX q) (gY q),gM (aG (gX p) (gY p)) (aG (gX q) (gY q)),gM s a,gM (sG s a) b,gM z e,gM z e,gM b a,gM x f,gM g h,gM f g,gM x h]
def ptDblG (p:Nat → Int):List Int :=
 let a:=tG (gX p) (gX p)
 let b:=tG (gY p) (gY p)
 let z:=tG (gZ p) (gZ p)
 let s:=aG (gX p) (gY p)
 let e:=sG (sG (tG s s) a) b
 let g:=sG b a
 let f:=sG g (aG z z)
 let h:=sG zer10 (aG a b)
 tG e f ++ (tG g h ++ (tG f g ++ tG e h))
def ptDblGCk (p:Nat → Int):List Bool :=
 let a:=tG (gX p) (gX p)
 let b:=tG (gY p) (gY p)
 let z:=tG (gZ p) (gZ p)
 let s:=aG (gX p) (gY p)
 let e:=sG (sG (tG s s) a) b
 let g:=sG b a
 let f:=sG g (aG z z)
 let h:=sG zer10 (aG a b)
 [gM (gX p) (gX p),gM (gY p) (gY p),gM (gZ p) (gZ p),gM (gX p) (gY p),gM s s,gM (tG s s) a,gM (sG (tG s s) a) b,gM b a,gM z z,gM g (aG z z),gM a b,gM zer10 (aG a b),gM e f,gM g h,gM f g,gM e h]
theorem c_SumG:fnChk prog (envP tt gx8 []) f_rimeref04_Curve_Sum=true:=by kernel_rfl
theorem c_TwiceG:fnChk prog (envP tt gx8 []) f_rimeref04_Twice=true:=by kernel_rfl
theorem k_SumG (p q:Nat → Int):(outP (apFunc (envP tt gx8 []) [] 5 f_rimeref04_Curve_Sum [crv (lf mdL),gpt p,gpt q] [])).map (·.2)=some (gpt (lf (ptAddG p q))):=by kernel_rfl
theorem ck_SumG (p q:Nat → Int):(outP (apFunc (envP tt gx8 []) [] 5 f_rimeref04_Curve_Sum [crv (lf mdL),gpt p,gpt q] [])).map (·.1)=some (ckL (ptAddGCk p q)):=by kernel_rfl
theorem k_TwiceG (p:Nat → Int):(outP (apFunc (envP tt gx8 []) [] 5 f_rimeref04_Twice [gpt p] [])).map (·.2)=some (gpt (lf (ptDblG p))):=by kernel_rfl
theorem ck_TwiceG (p:Nat → Int):(outP (apFunc (envP tt gx8 []) [] 5 f_rimeref04_Twice [gpt p] [])).map (·.1)=some (ckL (ptDblGCk p)):=by kernel_rfl
end Go.Proofs.YtfpkegodflloiaaGreat
namespace Go.Proofs.YtfpkegodflloiaaGreat
open Go.Proofs.Tryz
open Go Go.AM
def gdP (p:Nat → Int):Bool:=gd10 (gX p) && (gd10 (gY p) && (gd10 (gZ p) && gd10 (gT_ptg2 p)))
def vG (p:Nat → Int):Q4:=(gm (gX p),gm (gY p),gm (gZ p),gm (gT_ptg2 p))
theorem gdP_t {p:Nat → Int}:gdP p=true ↔ gd10 (gX p)=true ∧ gd10 (gY p)=true ∧ gd10 (gZ p)=true ∧ gd10 (gT_ptg2 p)=true:=by simp only [gdP,Bool.and_eq_true]
theorem aG_gd {a b:List Int} (ha:gd10 a=true) (hb:gd10 b=true):gd10 (aG a b)=true:=(addG_law (a:=q10 a) (b:=q10 b) ha hb).2.1
theorem sG_gd {a b:List Int} (ha:gd10 a=true) (hb:gd10 b=true):gd10 (sG a b)=true:=(subG_law (a:=q10 a) (b:=q10 b) ha hb).2.1
theorem aG_gm {a b:List Int} (ha:gd10 a=true) (hb:gd10 b=true):gm (aG a b)=mA (gm a) (gm b):=addG_gm (a:=q10 a) (b:=q10 b) ha hb
theorem sG_gm {a b:List Int} (ha:gd10 a=true) (hb:gd10 b=true):gm (sG a b)=mS (gm a) (gm b):=subG_gm (a:=q10 a) (b:=q10 b) ha hb
theorem four_g {a b c d:List Int} (ha:a.length=10) (hb:b.length=10) (hc:c.length=10) (hd:d.length=10):gX (lf (a ++ (b ++ (c ++ d))))=a ∧ gY (lf (a ++ (b ++ (c ++ d))))=b ∧ gZ (lf (a ++ (b ++ (c ++ d))))=c ∧ gT_ptg2 (lf (a ++ (b ++ (c ++ d))))=d:=by
 match a,ha with
 | [a0,a1,a2,a3,a4,a5,a6,a7,a8,a9],_ =>
  match b,hb with
  | [b0,b1,b2,b3,b4,b5,b6,b7,b8,b9],_ =>
   match c,hc with
   | [c0,c1,c2,c3,c4,c5,c6,c7,c8,c9],_ =>
    match d,hd with
    | [d0,d1,d2,d3,d4,d5,d6,d7,d8,d9],_=>exact ⟨rfl,rfl,rfl,rfl⟩
theorem tG_len (a b:List Int):(tG a b).length=10:=rfl
theorem mM_assoc (a b c:Int):mM a (mM b c)=mM (mM a b) c:=by
 unfold mM
 rw [md_mul_r,md_mul_l,Int.mul_assoc]
theorem mM_neg (a b:Int):mM (mS 0 a) (mS 0 b)=mM a b:=by
 unfold mM mS
 rw [md_mul_l,md_mul_r]
 congr 1
 grind
theorem zer10_law:gd10 zer10=true ∧ gm zer10=0:=by decide
theorem ptAddG_law {p q:Nat → Int} (hp:gdP p=true) (hq:gdP q=true):gdP (lf (ptAddG p q))=true ∧ vG (lf (ptAddG p q))=addS (vG p) (vG q) ∧ ckL (ptAddGCk p q)=true:=by
 obtain ⟨p1,p2,p3,p4⟩:=gdP_t.1 hp
 obtain ⟨q1,q2,q3,q4⟩:=gdP_t.1 hq
 have a:=tG_gd p1 q1
 have b:=tG_gd p2 q2
 have t:=tG_gd p4 q4
 have e:=tG_gd dGL_law.1 t
 have z:=tG_gd p3 q3
 have s1:=aG_gd p1 p2
 have s2:=aG_gd q1 q2
 have m:=tG_gd s1 s2
 have x0:=sG_gd m a
 have x:=sG_gd x0 b
 have f:=sG_gd z e
 have g:=aG_gd z e
 have h:=aG_gd b a
 unfold ptAddG ptAddGCk
 dsimp only
 have ea:=tG_gm p1 q1
 have eb:=tG_gm p2 q2
 have ee:gm (tG dGL (tG (gT_ptg2 p) (gT_ptg2 q)))=mM (mM eD (gm (gT_ptg2 p))) (gm (gT_ptg2 q)):=by rw [tG_gm dGL_law.1 t,tG_gm p4 q4,dGL_law.2,mM_assoc]
 have ez:=tG_gm p3 q3
 have ex:gm (sG (sG (tG (aG (gX p) (gY p)) (aG (gX q) (gY q))) (tG (gX p) (gX q))) (tG (gY p) (gY q)))=mS (mS (mM (mA (gm (gX p)) (gm (gY p))) (mA (gm (gX q)) (gm (gY q)))) (mM (gm (gX p)) (gm (gX q)))) (mM (gm (gY p)) (gm (gY q))):=by
  rw [sG_gm x0 b,sG_gm m a,tG_gm s1 s2,aG_gm p1 p2,aG_gm q1 q2,ea,eb]
 have ef:gm (sG (tG (gZ p) (gZ q)) (tG dGL (tG (gT_ptg2 p) (gT_ptg2 q))))=mS (mM (gm (gZ p)) (gm (gZ q))) (mM (mM eD (gm (gT_ptg2 p))) (gm (gT_ptg2 q))):=by rw [sG_gm z e,ez,ee]
 have eg:gm (aG (tG (gZ p) (gZ q)) (tG dGL (tG (gT_ptg2 p) (gT_ptg2 q))))=mA (mM (gm (gZ p)) (gm (gZ q))) (mM (mM eD (gm (gT_ptg2 p))) (gm (gT_ptg2 q))):=by rw [aG_gm z e,ez,ee]
 have eh:gm (aG (tG (gY p) (gY q)) (tG (gX p) (gX q)))=mA (mM (gm (gY p)) (gm (gY q))) (mM (gm (gX p)) (gm (gX q))):=by rw [aG_gm b a,ea,eb]
 refine ⟨?_,?_,?_⟩
 ·obtain ⟨x1,x2,x3,x4⟩:=four_g (tG_len _ _) (tG_len _ _) (tG_len _ _) (tG_len _ _) (a:=tG (sG (sG (tG (aG (gX p) (gY p)) (aG (gX q) (gY q))) (tG (gX p) (gX q))) (tG (gY p) (gY q))) (sG (tG (gZ p) (gZ q)) (tG dGL (tG (gT_ptg2 p) (gT_ptg2 q)))))
   (b:=tG (aG (tG (gZ p) (gZ q)) (tG dGL (tG (gT_ptg2 p) (gT_ptg2 q)))) (aG (tG (gY p) (gY q)) (tG (gX p) (gX q)))) (c:=tG (sG (tG (gZ p) (gZ q)) (tG dGL (tG (gT_ptg2 p) (gT_ptg2 q)))) (aG (tG (gZ p) (gZ q)) (tG dGL (tG (gT_ptg2 p) (gT_ptg2 q)))))
   (d:=tG (sG (sG (tG (aG (gX p) (gY p)) (aG (gX q) (gY q))) (tG (gX p) (gX q))) (tG (gY p) (gY q))) (aG (tG (gY p) (gY q)) (tG (gX p) (gX q))))
  exact gdP_t.2 ⟨by rw [x1]; exact tG_gd x f,by rw [x2]; exact tG_gd g h,by rw [x3]; exact tG_gd f g,by rw [x4]; exact tG_gd x h⟩
 ·obtain ⟨x1,x2,x3,x4⟩:=four_g (tG_len _ _) (tG_len _ _) (tG_len _ _) (tG_len _ _) (a:=tG (sG (sG (tG (aG (gX p) (gY p)) (aG (gX q) (gY q))) (tG (gX p) (gX q))) (tG (gY p) (gY q))) (sG (tG (gZ p) (gZ q)) (tG dGL (tG (gT_ptg2 p) (gT_ptg2 q)))))
   (b:=tG (aG (tG (gZ p) (gZ q)) (tG dGL (tG (gT_ptg2 p) (gT_ptg2 q)))) (aG (tG (gY p) (gY q)) (tG (gX p) (gX q)))) (c:=tG (sG (tG (gZ p) (gZ q)) (tG dGL (tG (gT_ptg2 p) (gT_ptg2 q)))) (aG (tG (gZ p) (gZ q)) (tG dGL (tG (gT_ptg2 p) (gT_ptg2 q)))))
   (d:=tG (sG (sG (tG (aG (gX p) (gY p)) (aG (gX q) (gY q))) (tG (gX p) (gX q))) (tG (gY p) (gY q))) (aG (tG (gY p) (gY q)) (tG (gX p) (gX q))))
  unfold vG
  rw [x1,x2,x3,x4,tG_gm x f,tG_gm g h,tG_gm f g,tG_gm x h,ex,ef,eg,eh]
  rfl
 ·rw [gM_t p1 q1,gM_t p2 q2,gM_t p4 q4,gM_t dGL_law.1 t,gM_t p3 q3,gM_t p1 p2,gM_t q1 q2,gM_t s1 s2,gM_t m a,gM_t x0 b,gM_t z e,gM_t b a,gM_t x f,gM_t g h,gM_t f g,gM_t x h]
  rfl
theorem ptDblG_law {p:Nat → Int} (hp:gdP p=true):gdP (lf (ptDblG p))=true ∧ vG (lf (ptDblG p))=dblS (vG p) ∧ ckL (ptDblGCk p)=true:=by
 obtain ⟨p1,p2,p3,p4⟩:=gdP_t.1 hp
 have a:=tG_gd p1 p1
 have b:=tG_gd p2 p2
 have z:=tG_gd p3 p3
 have s:=aG_gd p1 p2
 have ss:=tG_gd s s
 have e0:=sG_gd ss a
 have e:=sG_gd e0 b
 have g:=sG_gd b a
 have zz:=aG_gd z z
 have f:=sG_gd g zz
 have ab:=aG_gd a b
 have h:=sG_gd zer10_law.1 ab
 unfold ptDblG ptDblGCk
 dsimp only
 have n1:∀ u v w:Int,mS (mS u v) w=mS 0 (mS (mA v w) u):=fun u v w=>by
  unfold mS mA
  rw [md_sub_l,md_sub_r]
  unfold pP
  omega
 have n2:∀ u v:Int,mS u v=mS 0 (mS v u):=fun u v=>by
  unfold mS
  rw [md_sub_r]
  congr 1
  omega
 have n3:∀ u v w:Int,mS (mS u v) w=mS 0 (mA w (mS v u)):=fun u v w=>by
  unfold mS mA
  rw [md_sub_l,md_sub_r]
  unfold pP
  omega
 have ee:gm (sG (sG (tG (aG (gX p) (gY p)) (aG (gX p) (gY p))) (tG (gX p) (gX p))) (tG (gY p) (gY p)))=mS 0 (mS (mA (mM (gm (gX p)) (gm (gX p))) (mM (gm (gY p)) (gm (gY p)))) (mM (mA (gm (gX p)) (gm (gY p))) (mA (gm (gX p)) (gm (gY p))))):=by
  rw [sG_gm e0 b,sG_gm ss a,tG_gm s s,aG_gm p1 p2,tG_gm p1 p1,tG_gm p2 p2,n1]
 have eg:gm (sG (tG (gY p) (gY p)) (tG (gX p) (gX p)))=mS 0 (mS (mM (gm (gX p)) (gm (gX p))) (mM (gm (gY p)) (gm (gY p)))):=by
  rw [sG_gm b a,tG_gm p1 p1,tG_gm p2 p2,n2]
 have ef:gm (sG (sG (tG (gY p) (gY p)) (tG (gX p) (gX p))) (aG (tG (gZ p) (gZ p)) (tG (gZ p) (gZ p))))=mS 0 (mA (mA (mM (gm (gZ p)) (gm (gZ p))) (mM (gm (gZ p)) (gm (gZ p)))) (mS (mM (gm (gX p)) (gm (gX p))) (mM (gm (gY p)) (gm (gY p))))):=by
  rw [sG_gm g zz,sG_gm b a,aG_gm z z,tG_gm p1 p1,tG_gm p2 p2,tG_gm p3 p3,n3]
 have eh:gm (sG zer10 (aG (tG (gX p) (gX p)) (tG (gY p) (gY p))))=mS 0 (mA (mM (gm (gX p)) (gm (gX p))) (mM (gm (gY p)) (gm (gY p)))):=by
  rw [sG_gm zer10_law.1 ab,aG_gm a b,tG_gm p1 p1,tG_gm p2 p2,zer10_law.2]
 refine ⟨?_,?_,?_⟩
 ·obtain ⟨x1,x2,x3,x4⟩:=four_g (tG_len _ _) (tG_len _ _) (tG_len _ _) (tG_len _ _) (a:=tG (sG (sG (tG (aG (gX p) (gY p)) (aG (gX p) (gY p))) (tG (gX p) (gX p))) (tG (gY p) (gY p))) (sG (sG (tG (gY p) (gY p)) (tG (gX p) (gX p))) (aG (tG (gZ p) (gZ p)) (tG (gZ p) (gZ p)))))
   (b:=tG (sG (tG (gY p) (gY p)) (tG (gX p) (gX p))) (sG zer10 (aG (tG (gX p) (gX p)) (tG (gY p) (gY p))))) (c:=tG (sG (sG (tG (gY p) (gY p)) (tG (gX p) (gX p))) (aG (tG (gZ p) (gZ p)) (tG (gZ p) (gZ p)))) (sG (tG (gY p) (gY p)) (tG (gX p) (gX p))))
   (d:=tG (sG (sG (tG (aG (gX p) (gY p)) (aG (gX p) (gY p))) (tG (gX p) (gX p))) (tG (gY p) (gY p))) (sG zer10 (aG (tG (gX p) (gX p)) (tG (gY p) (gY p)))))
  exact gdP_t.2 ⟨by rw [x1]; exact tG_gd e f,by rw [x2]; exact tG_gd g h,by rw [x3]; exact tG_gd f g,by rw [x4]; exact tG_gd e h⟩
 ·obtain ⟨x1,x2,x3,x4⟩:=four_g (tG_len _ _) (tG_len _ _) (tG_len _ _) (tG_len _ _) (a:=tG (sG (sG (tG (aG (gX p) (gY p)) (aG (gX p) (gY p))) (tG (gX p) (gX p))) (tG (gY p) (gY p))) (sG (sG (tG (gY p) (gY p)) (tG (gX p) (gX p))) (aG (tG (gZ p) (gZ p)) (tG (gZ p) (gZ p)))))
   (b:=tG (sG (tG (gY p) (gY p)) (tG (gX p) (gX p))) (sG zer10 (aG (tG (gX p) (gX p)) (tG (gY p) (gY p))))) (c:=tG (sG (sG (tG (gY p) (gY p)) (tG (gX p) (gX p))) (aG (tG (gZ p) (gZ p)) (tG (gZ p) (gZ p)))) (sG (tG (gY p) (gY p)) (tG (gX p) (gX p))))
   (d:=tG (sG (sG (tG (aG (gX p) (gY p)) (aG (gX p) (gY p))) (tG (gX p) (gX p))) (tG (gY p) (gY p))) (sG zer10 (aG (tG (gX p) (gX p)) (tG (gY p) (gY p)))))
  unfold vG
  rw [x1,x2,x3,x4,tG_gm e f,tG_gm g h,tG_gm f g,tG_gm e h,ee,ef,eg,eh,mM_neg,mM_neg,mM_neg,mM_neg]
  rfl
 ·rw [gM_t p1 p1,gM_t p2 p2,gM_t p3 p3,gM_t p1 p2,gM_t s s,gM_t ss a,gM_t e0 b,gM_t b a,gM_t z z,gM_t g zz,gM_t a b,gM_t zer10_law.1 ab,gM_t e f,gM_t g h,gM_t f g,gM_t e h]
  rfl
def tSumG:TF:=fun args=>match args with
 | [.agg [.ints .i64 60 c],.agg [.ints .i64 40 p],.agg [.ints .i64 40 q]]=>some (eqN 60 c (lf mdL) && (gdP p && gdP q),gpt (lf (ptAddG p q)))
 | _=>none
def tTwiceG:TF:=fun args=>match args with
 | [.agg [.ints .i64 40 p]]=>some (gdP p,gpt (lf (ptDblG p)))
 | _=>none
theorem pure_first {f:FuncId} {l:List AV} {k:IntKind} {n:Nat} {s s':Nat → Int} {r:AV} (h:eqN n s s'=true) (hP:Pure prog f (.agg [.ints k n s'] :: l) r):Pure prog f (.agg [.ints k n s] :: l) r:=by
 intro pr w vs ha hlt
 refine hP pr w vs ⟨by simpa using ha.1,fun j x v e1 e2=>?_⟩ hlt
 cases j with
 | zero =>
  simp only [List.getElem?_cons_zero,Option.some.injEq] at e1
  subst e1
  exact RG_eqN h (ha.2 0 _ v rfl e2)
 | succ j=>exact ha.2 (j+1) x v (by simpa using e1) e2
theorem r_SumG:TRow prog F_rimeref04_Curve_Sum tSumG:=by
 intro args r h
 unfold tSumG at h
 split at h
 case h_2=>simp at h
 rename_i c p q
 simp only [Option.some.injEq,Prod.mk.injEq,Bool.and_eq_true] at h
 obtain ⟨⟨hc,hp,hq⟩,rfl⟩:=h
 refine pure_first hc (pure_of_out GX8 at_rimeref04_Curve_Sum c_SumG (N:=5) (gs:=[]) ?_)
 have e:=both (ck_SumG p q) (k_SumG p q)
 rw [(ptAddG_law hp hq).2.2] at e
 exact e
theorem r_TwiceG:TRow prog F_rimeref04_Twice tTwiceG:=by
 intro args r h
 unfold tTwiceG at h
 split at h
 case h_2=>simp at h
 rename_i p
 simp only [Option.some.injEq,Prod.mk.injEq] at h
 obtain ⟨hp,rfl⟩:=h
 refine pure_of_out GX8 at_rimeref04_Twice c_TwiceG (N:=5) (gs:=[]) ?_
 have e:=both (ck_TwiceG p) (k_TwiceG p)
 rw [(ptDblG_law hp).2.2] at e
 exact e
noncomputable def gx9:List (Nat × TF):=(F_rimeref04_Twice,tTwiceG) :: (F_rimeref04_Curve_Sum,tSumG) :: (F_rimeref04_Made,tMadeG) :: gx8
theorem GX9:LibOK prog tt gx9 []:=((GX8.addT r_MadeG).addT r_SumG).addT r_TwiceG
end Go.Proofs.YtfpkegodflloiaaGreat
namespace Go.Proofs.YtfpkegodflloiaaGreat
open Go.Proofs.Tryz
open Go Go.AM
theorem idGL_law:gdP (lf idGL)=true ∧ vG (lf idGL)=idS4:=by decide
def tbG (p:Nat → Int):Nat → List Int
 | 0=>idGL
 | j+1=>ptAddG (lf (tbG p j)) p
theorem tbG_bd {p:Nat → Int} (h:gdP p=true):∀ j,gdP (lf (tbG p j))=true
 | 0=>idGL_law.1
 | j+1=>(ptAddG_law (tbG_bd h j) h).1
theorem tbG_law {p:Nat → Int} (h:gdP p=true):∀ j,vG (lf (tbG p j))=tbS (vG p) j
 | 0=>idGL_law.2
 | j+1=>by
  show vG (lf (ptAddG (lf (tbG p j)) p))=_
  rw [(ptAddG_law (tbG_bd h j) h).2.1,tbG_law h j]; rfl
noncomputable abbrev tgE:EnvP:=envP tt gx9 []
noncomputable def tg0B:Code:=match f_rimeref04_Curve_Many.body with | some c=>(match bodiesOf 0 c with | [.loop b]=>b | _=>.skip) | none=>.skip
noncomputable def tg2B:Code:=match f_rimeref04_Curve_Many.body with | some c=>(match bodiesOf 2 c with | [.loop b]=>b | _=>.skip) | none=>.skip
def tg0H (c s p T:Nat → Int):Heap:=[some (.ints .i64 60 1 (fun _ d=>c d)),some (.ints .u8 32 1 (fun _ d=>s d)),some (.ints .i64 40 1 (fun _ d=>p d)),some (.ints .i64 40 1 (fun _ _=>0)),some (.ints .i64 640 1 (fun _ d=>T d))]
def tg0S (c s p:Nat → Int) (v:Int) (T:Nat → Int):St:=⟨tmOf [(3,.sc (.ptr 0 60 0 0 60)),(4,.sc (.ptr 1 32 0 0 32)),(5,.sc (.ptr 2 40 0 0 40)),(6,.sc (.ptr 3 40 0 0 40)),(7,.sc (.ptr 4 640 0 0 640)),(8,.sc (.int .i64 v))] 56 0,tg0H c s p T⟩
def tg0T (c s p:Nat → Int) (T:Nat → Int):St:=⟨tmOf [(3,.sc (.ptr 0 60 0 0 60)),(4,.sc (.ptr 1 32 0 0 32)),(5,.sc (.ptr 2 40 0 0 40)),(6,.sc (.ptr 3 40 0 0 40)),(7,.sc (.ptr 4 640 0 0 640))] 56 0,tg0H c s p T⟩
def put40 (T g:Nat → Int) (c:Nat):Nat → Int:=fun d=>bif Nat.ble c d && Nat.ble (d+1) (c+40) then g (d - c) else T d
def tgG (p T:Nat → Int) (v:Int):List Int:=ptAddG (fun j=>T (0+(wr .i64 (v - 1)).toNat * 40+j)) (fun j=>p (0+j))
def cOK (c:Nat → Int):Bool:=eqN 60 (fun j=>c (0+j)) (lf mdL)
theorem tg0_round (c s p:Nat → Int) (v v':Int) (T T':Nat → Int):roundR tgE [(15,true)] 5 5 [] tg0B (tg0S c s p v T) .normal (tg0S c s p v' T') =
  some (ckL [decide (v < 16) == true,inR (wr .i64 (v - 1)) 16,cOK c && ((gdP fun j=>T (0+(wr .i64 (v - 1)).toNat * 40+j)) && gdP (fun j=>p (0+j))),inR v 16] && stR (rnm 5 []) (tg0S c s p (wr .i64 (v+1)) (put40 T (lf (tgG p T v)) (0+v.toNat * 40))) (tg0S c s p v' T')):=by kernel_rfl
theorem tg0_exit (c s p:Nat → Int) (v:Int) (T T':Nat → Int):roundR tgE [(15,false)] 5 5 [] tg0B (tg0S c s p v T) (.exit 0) (tg0T c s p T') =
  some (ckL [decide (v < 16) == false] && stR (rnm 5 []) (tg0T c s p T) (tg0T c s p T')):=by kernel_rfl
def tbGF (p:Nat → Int) (k:Nat):Nat → Int:=fun d=>bif Nat.ble (d+1) (40 * (k+1)) then lf (tbG p (d / 40)) (d % 40) else 0
theorem tbGF_lt {p:Nat → Int} {k d:Nat} (h:d < 40 * (k+1)):tbGF p k d=lf (tbG p (d / 40)) (d % 40):=by
 unfold tbGF; rw [Nat.ble_eq_true_of_le h]; rfl
theorem tbGF_ge {p:Nat → Int} {k d:Nat} (h:40 * (k+1) ≤ d):tbGF p k d=0:=by
 unfold tbGF; rw [ble_ff (by omega)]; rfl
theorem tg_ext {p q:Nat → Int} (h:∀ d,d < 40 → p d=q d):gX p=gX q ∧ gY p=gY q ∧ gZ p=gZ q ∧ gT_ptg2 p=gT_ptg2 q:=by
 refine ⟨?_,?_,?_,?_⟩
 ·unfold gX; rw [h 0 (by omega),h 1 (by omega),h 2 (by omega),h 3 (by omega),h 4 (by omega),h 5 (by omega),h 6 (by omega),h 7 (by omega),h 8 (by omega),h 9 (by omega)]
 ·unfold gY; rw [h 10 (by omega),h 11 (by omega),h 12 (by omega),h 13 (by omega),h 14 (by omega),h 15 (by omega),h 16 (by omega),h 17 (by omega),h 18 (by omega),h 19 (by omega)]
 ·unfold gZ; rw [h 20 (by omega),h 21 (by omega),h 22 (by omega),h 23 (by omega),h 24 (by omega),h 25 (by omega),h 26 (by omega),h 27 (by omega),h 28 (by omega),h 29 (by omega)]
 ·unfold gT_ptg2; rw [h 30 (by omega),h 31 (by omega),h 32 (by omega),h 33 (by omega),h 34 (by omega),h 35 (by omega),h 36 (by omega),h 37 (by omega),h 38 (by omega),h 39 (by omega)]
theorem ptAddG_ext {p q p' q':Nat → Int} (h:∀ d,d < 40 → p d=p' d) (h':∀ d,d < 40 → q d=q' d):ptAddG p q=ptAddG p' q':=by
 obtain ⟨e1,e2,e3,e4⟩:=tg_ext h
 obtain ⟨f1,f2,f3,f4⟩:=tg_ext h'
 unfold ptAddG
 rw [e1,e2,e3,e4,f1,f2,f3,f4]
theorem gdP_ext {p p':Nat → Int} (h:∀ d,d < 40 → p d=p' d):gdP p=gdP p':=by
 obtain ⟨e1,e2,e3,e4⟩:=tg_ext h
 unfold gdP
 rw [e1,e2,e3,e4]
theorem tg_row {p:Nat → Int} {k j:Nat} (hj:j ≤ k):∀ d,d < 40 → tbGF p k (40 * j+d)=lf (tbG p j) d:=fun d hd=>by
 rw [tbGF_lt (by omega),show (40 * j+d) / 40=j by omega,show (40 * j+d) % 40=d by omega]
theorem tg0_same {c s p:Nat → Int} {v v':Int} {T T':Nat → Int} (hv:v=v') (h:∀ d,d < 640 → T d=T' d):stR (rnm 5 []) (tg0S c s p v T) (tg0S c s p v' T')=true:=by
 subst hv
 have e:eqF 1 640 (fun _ d=>T d) (fun _ d=>T' d)=true:=eqF_of fun r _ d hd=>h d hd
 simp [stR,tg0S,tg0H,tmOf,tmR,avR,svR,rIs,rnm,kEq_refl,eqF_refl,hpR,blkR,ndR,e]
 decide
theorem tg0_sameT {c s p:Nat → Int} {T T':Nat → Int} (h:∀ d,d < 640 → T d=T' d):stR (rnm 5 []) (tg0T c s p T) (tg0T c s p T')=true:=by
 have e:eqF 1 640 (fun _ d=>T d) (fun _ d=>T' d)=true:=eqF_of fun r _ d hd=>h d hd
 simp [stR,tg0T,tg0H,tmOf,tmR,avR,svR,rIs,rnm,kEq_refl,eqF_refl,hpR,blkR,ndR,e]
 decide
def tg0W (c s p:Nat → Int) (k:Nat):St:=tg0S c s p ((k:Int)+1) (tbGF p k)
def tg0F (c s p:Nat → Int):LF:=famA 5 [] (tg0W c s p 0) (cOK c && gdP p) .normal (tg0T c s p (tbGF p 15))
theorem tg0_body:f_rimeref04_Curve_Many.body.map (bodiesOf 0)=some [.loop tg0B]:=by kernel_rfl
theorem tg0_ok:codeOK prog tgE.env.isW tg0B=true:=by kernel_rfl
theorem l_tg0 (c s p:Nat → Int):LRow prog f_rimeref04_Curve_Many 0 (tg0F c s p):=by
 refine LRow.famA (N:=5) (S:=tg0W c s p) (GX9.env []) mix 15 (loop_of tg0_body) tg0_ok (fun w0 own0=>accOK_none (fun id=>rfl) tg0B) (fun _ _=>Nat.le_refl _) (Nat.le_refl _) fun hck=>?_
 obtain ⟨hc,hp⟩:=and_t.1 hck
 refine ⟨fun k hk=>?_,?_⟩
 ·refine roundR_toR (tg0_round c s p ((k:Int)+1) (((k+1:Nat):Int)+1) (tbGF p k) (tbGF p (k+1))) ?_
  have e0:wr .i64 ((k:Int)+1 - 1)=(k:Int):=(wr_i64 (by omega) (by omega)).trans (by omega)
  have e1:wr .i64 ((k:Int)+1+1)=((k+1:Nat):Int)+1:=(wr_i64 (by omega) (by omega)).trans (by omega)
  have hrow:∀ d,d < 40 → tbGF p k (0+(k:Int).toNat * 40+d)=lf (tbG p k) d:=fun d hd=>by
   rw [show 0+(k:Int).toNat * 40+d=40 * k+d by omega]; exact tg_row (Nat.le_refl k) d hd
  have hp0:∀ d,d < 40 → p (0+d)=p d:=fun d _=>by rw [Nat.zero_add]
  refine and_t.2 ⟨?_,tg0_same e1 fun d hd=>?_⟩
  ·have i1:inR ((k:Int)+1) 16=true:=inR_lt (show k+1 < 16 by omega)
   rw [e0,gdP_ext hrow,tbG_bd hp k,gdP_ext hp0,hp,hc,i1,inR_lt (show k < 16 by omega),decide_eq_true (show (k:Int)+1 < 16 by omega)]
   rfl
  ·have eA:0+((k:Int)+1).toNat * 40=40 * (k+1):=by omega
   have eG:tgG p (tbGF p k) ((k:Int)+1)=tbG p (k+1):=by
    unfold tgG
    rw [e0]
    exact ptAddG_ext hrow hp0
   unfold put40
   rw [eA,eG]
   by_cases h1:d < 40 * (k+1)
   ·rw [ble_ff (by omega),tbGF_lt h1,tbGF_lt (k:=k+1) (by omega)]; rfl
   ·rw [Nat.ble_eq_true_of_le (by omega)]
    by_cases h2:d < 40 * (k+1)+40
    ·rw [Nat.ble_eq_true_of_le h2,tbGF_lt (k:=k+1) (by omega),show d / 40=k+1 by omega,show d % 40=d - 40 * (k+1) by omega]; rfl
    ·rw [ble_ff (a:=d+1) (by omega),tbGF_ge (k:=k) (by omega),tbGF_ge (k:=k+1) (by omega)]; rfl
 ·obtain ⟨s1,r,q1,q2,q3⟩:=roundR_toR (n:=5) (tg0_exit c s p 16 (tbGF p 15) (tbGF p 15)) (and_t.2 ⟨rfl,tg0_sameT fun _ _=>rfl⟩)
  exact ⟨_,s1,r,q1,rfl,q2,q3⟩
def tg2H (c s T x:Nat → Int):Heap:=[some (.ints .i64 60 1 (fun _ d=>c d)),some (.ints .u8 32 1 (fun _ d=>s d)),none,some (.ints .i64 40 1 (fun _ _=>0)),some (.ints .i64 640 1 (fun _ d=>T d)),some (.ints .i64 40 1 (fun _ d=>x d))]
def tg2S (c s T:Nat → Int) (v:Int) (x:Nat → Int):St:=⟨tmOf [(3,.sc (.ptr 0 60 0 0 60)),(4,.sc (.ptr 1 32 0 0 32)),(6,.sc (.ptr 3 40 0 0 40)),(7,.sc (.ptr 4 640 0 0 640)),(9,.sc (.ptr 5 40 0 0 40)),(10,.sc (.int .i64 v))] 56 0,tg2H c s T x⟩
def tg2T (x:Nat → Int):St:=⟨tmOf [(6,.sc (.ptr 3 40 0 0 40)),(9,.sc (.ptr 5 40 0 0 40))] 56 0,[none,none,none,some (.ints .i64 40 1 (fun _ _=>0)),none,some (.ints .i64 40 1 (fun _ d=>x d))]⟩
def dbG (x:Nat → Int):Nat → Nat → Int
 | 0=>x
 | k+1=>lf (ptDblG (dbG x k))
def nbG (s:Nat → Int) (v:Int):Int:=iand .u8 (ishr .u8 (s (0+(wr .i64 (v.tdiv 2)).toNat * 1)) (wr .u64 (wr .i64 (4 * v.tmod 2)))) 15
def tg2Ck (s x:Nat → Int) (v:Int):List Bool:=[decide (v ≥ 0) == true,gdP (dbG x 0),gdP (dbG x 1),gdP (dbG x 2),gdP (dbG x 3),inR (wr .i64 (v.tdiv 2)) 32,!decide (wr .u64 (wr .i64 (4 * v.tmod 2)) < 0)]
theorem tg2_roundf (c s T:Nat → Int) (v v':Int) (x x':Nat → Int):roundR tgE [(29,true),(48,false)] 5 6 [] tg2B (tg2S c s T v x) .normal (tg2S c s T v' x') =
  some (ckL (tg2Ck s x v ++ [decide (nbG s v > 0) == false]) && stR (rnm 6 []) (tg2S c s T (wr .i64 (v - 1)) (dbG x 4)) (tg2S c s T v' x')):=by kernel_rfl
theorem tg2_roundt (c s T:Nat → Int) (v v':Int) (x x':Nat → Int):roundR tgE [(29,true),(48,true)] 5 6 [] tg2B (tg2S c s T v x) .normal (tg2S c s T v' x') =
  some (ckL (tg2Ck s x v ++ [decide (nbG s v > 0) == true,inR (nbG s v) 16,cOK c && (gdP (dbG x 4) && gdP (fun j=>T (0+(nbG s v).toNat * 40+j)))]) && stR (rnm 6 []) (tg2S c s T (wr .i64 (v - 1)) (lf (ptAddG (dbG x 4) (fun j=>T (0+(nbG s v).toNat * 40+j))))) (tg2S c s T v' x')):=by kernel_rfl
theorem tg2_exit (c s T:Nat → Int) (v:Int) (x x':Nat → Int):roundR tgE [(29,false)] 5 6 [] tg2B (tg2S c s T v x) (.exit 2) (tg2T x') =
  some (ckL [decide (v ≥ 0) == false] && stR (rnm 6 []) (tg2T x) (tg2T x')):=by kernel_rfl
def mnG (p s:Nat → Int):Nat → List Int
 | 0=>idGL
 | k+1=>bif decide (nib s (63 - k) > 0) then ptAddG (dbG (lf (mnG p s k)) 4) (lf (tbG p (nib s (63 - k)).toNat)) else ptDblG (dbG (lf (mnG p s k)) 3)
theorem dbG_law {x:Nat → Int} (h:gdP x=true):∀ k,gdP (dbG x k)=true
 | 0=>h
 | k+1=>(ptDblG_law (dbG_law h k)).1
theorem dbG_v {x:Nat → Int} (h:gdP x=true) (k:Nat):vG (dbG x (k+1))=dblS (vG (dbG x k)):=(ptDblG_law (dbG_law h k)).2.1
theorem mnG_law {p:Nat → Int} (hp:gdP p=true) (s:Nat → Int):∀ k,gdP (lf (mnG p s k))=true ∧ vG (lf (mnG p s k))=tmSp (vG p) s k
 | 0=>idGL_law
 | k+1=>by
  obtain ⟨h1,h2⟩:=mnG_law hp s k
  have e4:vG (dbG (lf (mnG p s k)) 4)=dblS (dblS (dblS (dblS (tmSp (vG p) s k)))):=by
   rw [dbG_v h1,dbG_v h1,dbG_v h1,dbG_v h1]
   show dblS (dblS (dblS (dblS (vG (lf (mnG p s k))))))=_
   rw [h2]
  unfold mnG tmSp
  cases decide (nib s (63 - k) > 0) with
  | true =>
   obtain ⟨q1,q2⟩:=ptAddG_law (dbG_law h1 4) (tbG_bd hp (nib s (63 - k)).toNat)
   exact ⟨q1,by show vG (lf (ptAddG _ _))=_; rw [q2.1,e4,tbG_law hp]; rfl⟩
  | false=>exact ⟨dbG_law h1 4,e4⟩
theorem wr_u64 {x:Int} (h0:0 ≤ x) (h1:x < 2 ^ 64):wr .u64 x=x:=by
 rw [wr64]; omega
theorem nbG_law {s:Nat → Int} (hs:areB s 32 0=true) {i:Nat} (hi:i < 64):nbG s (i:Int)=nib s i ∧ inR (wr .i64 ((i:Int).tdiv 2)) 32=true ∧ (!decide (wr .u64 (wr .i64 (4 * (i:Int).tmod 2)) < 0))=true ∧ 0 ≤ nib s i ∧ nib s i < 16:=by
 obtain ⟨n1,n2,n3,n4,n5⟩:=nbI_law hs hi
 have e2:(i:Int).tmod 2=((i % 2:Nat):Int):=by rw [Int.tmod_eq_emod_of_nonneg (by omega)]; omega
 have e4:wr .i64 (4 * ((i % 2:Nat):Int))=((4 * (i % 2):Nat):Int):=(wr_i64 (by omega) (by omega)).trans (by omega)
 have e5:wr .u64 (wr .i64 (4 * (i:Int).tmod 2))=wr .i64 (4 * (i:Int).tmod 2):=by
  rw [e2,e4]; exact wr_u64 (by omega) (by omega)
 refine ⟨?_,n2,?_,n4,n5⟩
 ·unfold nbG; rw [e5]; exact n1
 ·rw [e5]; exact n3
theorem tg2_same {c s T:Nat → Int} {v v':Int} {x x':Nat → Int} (hv:v=v') (h:∀ d,d < 40 → x d=x' d):stR (rnm 6 []) (tg2S c s T v x) (tg2S c s T v' x')=true:=by
 subst hv
 have e:eqF 1 40 (fun _ d=>x d) (fun _ d=>x' d)=true:=eqF_of fun r _ d hd=>h d hd
 simp [stR,tg2S,tg2H,tmOf,tmR,avR,svR,rIs,rnm,kEq_refl,eqF_refl,hpR,blkR,ndR,e]
 decide
theorem tg2_sameT {x x':Nat → Int} (h:∀ d,d < 40 → x d=x' d):stR (rnm 6 []) (tg2T x) (tg2T x')=true:=by
 have e:eqF 1 40 (fun _ d=>x d) (fun _ d=>x' d)=true:=eqF_of fun r _ d hd=>h d hd
 simp [stR,tg2T,tmOf,tmR,avR,svR,rIs,rnm,kEq_refl,eqF_refl,hpR,blkR,ndR,e]
 decide
def tg2W (c p s:Nat → Int) (k:Nat):St:=tg2S c s (tbGF p 15) (63 - (k:Int)) (lf (mnG p s k))
def tg2F (c p s:Nat → Int):LF:=famA 6 [] (tg2W c p s 0) (cOK c && (gdP p && areB s 32 0)) .normal (tg2T (lf (mnG p s 64)))
theorem tg2_body:f_rimeref04_Curve_Many.body.map (bodiesOf 2)=some [.loop tg2B]:=by kernel_rfl
theorem tg2_ok:codeOK prog tgE.env.isW tg2B=true:=by kernel_rfl
theorem l_tg2 (c p s:Nat → Int):LRow prog f_rimeref04_Curve_Many 2 (tg2F c p s):=by
 refine LRow.famA (N:=5) (S:=tg2W c p s) (GX9.env []) mix 64 (loop_of tg2_body) tg2_ok (fun w0 own0=>accOK_none (fun id=>rfl) tg2B) (fun _ _=>Nat.le_refl _) (Nat.le_refl _) fun hck=>?_
 obtain ⟨hc,hck⟩:=and_t.1 hck
 obtain ⟨hp,hs⟩:=and_t.1 hck
 refine ⟨fun k hk=>?_,?_⟩
 ·have hv:(63 - (k:Int))=((63 - k:Nat):Int):=by omega
  obtain ⟨n1,n2,n3,n4,n5⟩:=nbG_law hs (i:=63 - k) (by omega)
  have hx:=(mnG_law hp s k).1
  have e1:wr .i64 (63 - (k:Int) - 1)=63 - ((k+1:Nat):Int):=(wr_i64 (by omega) (by omega)).trans (by omega)
  have hck:∀ l,ckL (tg2Ck s (lf (mnG p s k)) (63 - (k:Int)) ++ l)=ckL l:=fun l=>by
   unfold tg2Ck
   rw [hv,n2,n3,dbG_law hx 0,dbG_law hx 1,dbG_law hx 2,dbG_law hx 3,decide_eq_true (show ((63 - k:Nat):Int) ≥ 0 by omega)]
   rfl
  cases hn:decide (nib s (63 - k) > 0) with
  | false =>
   refine roundR_toR (tg2_roundf c s (tbGF p 15) (63 - (k:Int)) (63 - ((k+1:Nat):Int)) (lf (mnG p s k)) (lf (mnG p s (k+1)))) ?_
   refine and_t.2 ⟨?_,tg2_same e1 fun d _=>?_⟩
   ·rw [hck,hv,n1,hn]; rfl
   ·show _=lf (bif decide (nib s (63 - k) > 0) then _ else _) d
    rw [hn]; rfl
  | true =>
   have hrow:∀ d,d < 40 → tbGF p 15 (0+(nib s (63 - k)).toNat * 40+d)=lf (tbG p (nib s (63 - k)).toNat) d:=fun d hd=>by
    rw [show 0+(nib s (63 - k)).toNat * 40+d=40 * (nib s (63 - k)).toNat+d by omega]; exact tg_row (by omega) d hd
   refine roundR_toR (tg2_roundt c s (tbGF p 15) (63 - (k:Int)) (63 - ((k+1:Nat):Int)) (lf (mnG p s k)) (lf (mnG p s (k+1)))) ?_
   refine and_t.2 ⟨?_,tg2_same e1 fun d _=>?_⟩
   ·rw [hck,hv,n1,hn,dbG_law hx 4,gdP_ext hrow,tbG_bd hp _,hc]
    have:inR (nib s (63 - k)) 16=true:=by simp [inR]; omega
    rw [this]; rfl
   ·show _=lf (bif decide (nib s (63 - k) > 0) then _ else _) d
    rw [hn,hv,n1]
    show lf (ptAddG _ _) d=lf (ptAddG _ _) d
    rw [ptAddG_ext (p:=dbG (lf (mnG p s k)) 4) (fun _ _=>rfl) hrow]
 ·obtain ⟨s1,r,q1,q2,q3⟩:=roundR_toR (n:=6) (tg2_exit c s (tbGF p 15) (-1) (lf (mnG p s 64)) (lf (mnG p s 64))) (and_t.2 ⟨rfl,tg2_sameT fun _ _=>rfl⟩)
  exact ⟨_,s1,r,q1,rfl,q2,q3⟩
noncomputable abbrev tgL (c p s:Nat → Int):EnvP:=envL tt gx9 [] [(2,tg2F c p s),(0,tg0F c s p)]
theorem c_manyG (c p s:Nat → Int):fnChk prog (tgL c p s) f_rimeref04_Curve_Many=true:=by kernel_rfl
def r40 (l:List Int):List Int:=tabL (lf l) 40 0
theorem k_manyG (c p s:Nat → Int):outP (apFunc (tgL c p s) [] 5 f_rimeref04_Curve_Many [crv c,u8s 32 s,gpt p] []) =
  some (ckL [(cOK c && gdP p) && stR (rnm 5 []) (tg0S c s p 1 (put40 (fun _=>0) (lf idGL) 0)) (tg0W c s p 0),(cOK c && (gdP p && areB s 32 0)) && stR (rnm 6 []) (tg2S c s (tbGF p 15) 63 (lf idGL)) (tg2W c p s 0)],gpt (lf (r40 (mnG p s 64)))):=by kernel_rfl
theorem tbG_ext {p p':Nat → Int} (h:∀ d,d < 40 → p d=p' d):∀ j,tbG p j=tbG p' j
 | 0=>rfl
 | j+1=>by
  show ptAddG (lf (tbG p j)) p=ptAddG (lf (tbG p' j)) p'
  rw [tbG_ext h j]
  exact ptAddG_ext (fun _ _=>rfl) h
theorem mnG_ext {p p' s s':Nat → Int} (h:∀ d,d < 40 → p d=p' d) (h':∀ d,d < 32 → s d=s' d):∀ k,mnG p s k=mnG p' s' k
 | 0=>rfl
 | k+1=>by
  unfold mnG
  rw [mnG_ext h h' k,nib_ext h' (i:=63 - k) (by omega),tbG_ext h]
def n40 (p:Nat → Int):Nat → Int:=lf (tabL p 40 0)
theorem n40_at (p:Nat → Int) (d:Nat) (h:d < 40):p d=n40 p d:=by
 have:=lf_tab p 40 0 d h
 rw [Nat.zero_add] at this
 exact this.symm
def tManyG:TF:=fun args=>match args with
 | [.agg [.ints .i64 60 c],.agg [.ints .u8 32 s],.agg [.ints .i64 40 p]]=>some (eqN 60 c (lf mdL) && (gdP p && areB s 32 0),gpt (lf (r40 (mnG (n40 p) (n32 s) 64))))
 | _=>none
theorem r_manyG:TRow prog F_rimeref04_Curve_Many tManyG:=by
 intro args r h
 unfold tManyG at h
 split at h
 case h_2=>simp at h
 rename_i c s p
 simp only [Option.some.injEq,Prod.mk.injEq] at h
 obtain ⟨hc,rfl⟩:=h
 obtain ⟨hc,hck⟩:=and_t.1 hc
 obtain ⟨hp,hs⟩:=and_t.1 hck
 rw [← mnG_ext (n40_at p) (n32_at s)]
 refine pure_first hc ?_
 refine pure_of_outL GX9 at_rimeref04_Curve_Many ((LsOK.nil.cons (l_tg0 (lf mdL) s p)).cons (l_tg2 (lf mdL) p s)) (c_manyG (lf mdL) p s) (N:=5) (gs:=[]) ?_
 have e:=k_manyG (lf mdL) p s
 have h0:stR (rnm 5 []) (tg0S (lf mdL) s p 1 (put40 (fun _=>0) (lf idGL) 0)) (tg0W (lf mdL) s p 0)=true:=tg0_same rfl fun d hd=>by
  unfold put40
  by_cases h:d < 40
  ·rw [Nat.ble_eq_true_of_le (Nat.zero_le d),Nat.ble_eq_true_of_le (show d+1 ≤ 0+40 by omega),tbGF_lt (k:=0) (by omega),show d / 40=0 by omega,show d % 40=d by omega]; rfl
  ·rw [ble_ff (a:=d+1) (by omega),tbGF_ge (k:=0) (by omega),Bool.and_false]; rfl
 have hk:cOK (lf mdL)=true:=by decide +kernel
 rw [hp,hs,hk,h0,show stR (rnm 6 []) (tg2S (lf mdL) s (tbGF p 15) 63 (lf idGL)) (tg2W (lf mdL) p s 0)=true from tg2_same rfl fun _ _=>rfl] at e
 exact e
theorem mn_law {p s:Nat → Int} (hp:gdP p=true):gdP (lf (r40 (mnG (n40 p) (n32 s) 64)))=true ∧ vG (lf (r40 (mnG (n40 p) (n32 s) 64)))=tmSp (vG p) s 64:=by
 rw [← mnG_ext (n40_at p) (n32_at s)]
 exact mnG_law hp s 64
noncomputable def gx10:List (Nat × TF):=(F_rimeref04_Curve_Many,tManyG) :: gx9
theorem GX10:LibOK prog tt gx10 []:=GX9.addT r_manyG
end Go.Proofs.YtfpkegodflloiaaGreat
namespace Go.Proofs.YtfpkegodflloiaaGreat
open Go.Proofs.Tryz
open Go Go.AM
def xzG (p:Nat → Int):List Int:=tG (gX p) (invG (gZ p))
def yzG (p:Nat → Int):List Int:=tG (gY p) (invG (gZ p))
def tXYG:TF:=fun args=>match args with
 | [.agg [.ints .i64 40 p]]=>some (gdP p,.tup [u10 (lf (xzG p)),u10 (lf (yzG p))])
 | _=>none
theorem c_xyG:fnChk prog (envP tt gx10 []) f_rimeref04_XY=true:=by kernel_rfl
set_option maxRecDepth 100000 in
theorem k_xyG (p:Nat → Int):outP (apFunc (envP tt gx10 []) [] 5 f_rimeref04_XY [gpt p] [])=some (ckL [gd10 (gZ p),gM (gX p) (invG (gZ p)),gM (gY p) (invG (gZ p))],.tup [u10 (lf (xzG p)),u10 (lf (yzG p))]):=by kernel_rfl
theorem r_xyG:TRow prog F_rimeref04_XY tXYG:=by
 intro args r h
 unfold tXYG at h
 split at h
 case h_2=>simp at h
 rename_i p
 simp only [Option.some.injEq,Prod.mk.injEq] at h
 obtain ⟨hp,rfl⟩:=h
 obtain ⟨h1,h2,h3,h4⟩:=gdP_t.1 hp
 refine pure_of_out GX10 at_rimeref04_XY c_xyG (N:=5) (gs:=[]) ?_
 have e:=k_xyG p
 rw [h3,gM_t h1 (invG_law h3).1,gM_t h2 (invG_law h3).1] at e
 exact e
noncomputable def gx11:List (Nat × TF):=(F_rimeref04_XY,tXYG) :: gx10
theorem GX11:LibOK prog tt gx11 []:=GX10.addT r_xyG
theorem xyG_law {p:Nat → Int} (h:gdP p=true):gd10 (xzG p)=true ∧ gd10 (yzG p)=true ∧ gm (xzG p)=mM (vG p).1 (invM (vG p).2.2.1) ∧ gm (yzG p)=mM (vG p).2.1 (invM (vG p).2.2.1):=by
 obtain ⟨h1,h2,h3,h4⟩:=gdP_t.1 h
 obtain ⟨i1,i2⟩:=invG_law h3
 refine ⟨tG_gd h1 i1,tG_gd h2 i1,?_,?_⟩
 ·show gm (tG (gX p) (invG (gZ p)))=_
  rw [tG_gm h1 i1,i2]; rfl
 ·show gm (tG (gY p) (invG (gZ p)))=_
  rw [tG_gm h2 i1,i2]; rfl
def topG (X Y:List Int) (j:Nat):Int:=bif Nat.beq j 31 then ior .u8 (lf Y 31) (ishl .u8 (iand .u8 (lf X 0) 1) 7) else lf Y j
theorem c_formG:fnChk prog (envP tt gx11 []) f_rimeref04_Form=true:=by kernel_rfl
set_option maxRecDepth 100000 in
theorem k_formG (p:Nat → Int):outP (apFunc (envP tt gx11 []) [] 5 f_rimeref04_Form [gpt p] []) =
  some (ckL [gdP (fun j=>p (0+j)),gd10 (q10 (yzG p)),gd10 (q10 (xzG p))],u8s 32 (lf (tabL (topG (byL 32 (gm (q10 (xzG p)))) (byL 32 (gm (q10 (yzG p))))) 32 0))):=by kernel_rfl
theorem odd_bit {x:Int}:ishl .u8 (iand .u8 (x % 256) 1) 7=bif decide (x % 2=1) then 128 else 0:=by
 have key:∀ n:Nat,n < 256 → ishl .u8 (iand .u8 (n:Int) 1) 7=bif decide ((n:Int) % 2=1) then 128 else 0:=by decide +kernel
 have:=key (x % 256).toNat (by omega)
 rw [Int.toNat_of_nonneg (by omega),show x % 256 % 2=x % 2 by omega] at this
 exact this
theorem or_zero {x:Int} (h:0 ≤ x ∧ x < 256):ior .u8 x 0=x:=by
 have key:∀ n:Nat,n < 256 → ior .u8 (n:Int) 0=(n:Int):=by decide +kernel
 have:=key x.toNat (by omega)
 rwa [Int.toNat_of_nonneg h.1] at this
theorem topG_law {x y:Int} (h0:0 ≤ y) (h1:y < 57896044618658097711785492504343953926634992332820282019728792003956564819968):tabL (topG (byL 32 x) (byL 32 y)) 32 0=byL 32 (y+x % 2 * 57896044618658097711785492504343953926634992332820282019728792003956564819968):=by
 have e0:lf (byL 32 x) 0=x % 256:=by rw [lf_byL 32 x 0 (by omega)]; simp
 have ex:x % 2=0 ∨ x % 2=1:=by omega
 rcases ex with q | q
 ·have:∀ c,c < 32 → topG (byL 32 x) (byL 32 y) (0+c)=lf (byL 32 y) (0+c):=fun c _=>by
   unfold topG
   rw [e0,odd_bit,q]
   cases hb:Nat.beq (0+c) 31 with
   | false=>rfl
   | true =>
    have:=Nat.eq_of_beq_eq_true hb
    rw [this]
    have hr:0 ≤ lf (byL 32 y) 31 ∧ lf (byL 32 y) 31 < 256:=by rw [lf_byL 32 y 31 (by omega)]; omega
    exact or_zero hr
  rw [tabL_ext 32 0 this,q,Int.zero_mul,Int.add_zero]
  rfl
 ·have:∀ c,c < 32 → topG (byL 32 x) (byL 32 y) (0+c)=top128 (byL 32 y) (0+c):=fun c _=>by
   unfold topG top128
   rw [e0,odd_bit,q]; rfl
  rw [tabL_ext 32 0 this,q,Int.one_mul,top_law h0 h1]
def tFormG:TF:=fun args=>match args with
 | [.agg [.ints .i64 40 p]]=>some (gdP p,b32 (formS (vG p)))
 | _=>none
theorem r_formG:TRow prog F_rimeref04_Form tFormG:=by
 intro args r h
 unfold tFormG at h
 split at h
 case h_2=>simp at h
 rename_i p
 simp only [Option.some.injEq,Prod.mk.injEq] at h
 obtain ⟨hp,rfl⟩:=h
 obtain ⟨x1,x2,x3,x4⟩:=xyG_law hp
 refine pure_of_out GX11 at_rimeref04_Form c_formG (N:=5) (gs:=[]) ?_
 have e:=k_formG p
 have hr:=gm_range (yzG p)
 have hpP:pP < 57896044618658097711785492504343953926634992332820282019728792003956564819968:=by decide
 rw [q10_gm,q10_gm,q10_gd,q10_gd,x1,x2,topG_law hr.1 (Int.lt_trans hr.2 hpP),x3,x4] at e
 have hp0:gdP (fun j=>p (0+j))=true:=(gdP_ext fun d _=>by rw [Nat.zero_add]).trans hp
 rw [hp0] at e
 exact e
noncomputable def gx12:List (Nat × TF):=(F_rimeref04_Form,tFormG) :: gx11
theorem GX12:LibOK prog tt gx12 []:=GX11.addT r_formG
end Go.Proofs.YtfpkegodflloiaaGreat
namespace Go.Proofs.YtfpkegodflloiaaGreat
open Go.Proofs.Tryz
open Go Go.AM
noncomputable def gx13:List (Nat × TF):=gx12
theorem GX13:LibOK prog tt gx13 []:=GX12
end Go.Proofs.YtfpkegodflloiaaGreat
namespace Go.Proofs.YtfpkegodflloiaaGreat
open Go.Proofs.Tryz
open Go Go.AM
set_option maxRecDepth 20000 in
theorem baG_law:gdP (lf baGL)=true ∧ vG (lf baGL)=baseS:=by decide +kernel
theorem c_mulBaseG:fnChk prog (envP tt gx13 []) f_rimeref04_MulBase=true:=by kernel_rfl
theorem k_mulBaseG (s:Nat → Int):outP (apFunc (envP tt gx13 []) [] 5 f_rimeref04_MulBase [u8s 32 s] [])=some (ckL [areB (ld0 s) 32 0,gdP (lf (r40 (mnG (n40 (lf baGL)) (n32 s) 64)))],b32 (formS (vG (lf (r40 (mnG (n40 (lf baGL)) (n32 s) 64)))))):=by kernel_rfl
theorem r_mulBaseG:TRow prog F_rimeref04_MulBase tMulBase:=by
 intro args r h
 unfold tMulBase at h
 split at h
 case h_2=>simp at h
 rename_i s
 simp only [Option.some.injEq,Prod.mk.injEq] at h
 obtain ⟨hs,rfl⟩:=h
 refine pure_of_out GX13 at_rimeref04_MulBase c_mulBaseG (N:=5) (gs:=[]) ?_
 obtain ⟨h3,h4⟩:=mn_law (s:=s) baG_law.1
 have e:=k_mulBaseG s
 rw [ld0_eq,hs,h3,h4,baG_law.2,mulS_of hs] at e
 exact e
end Go.Proofs.YtfpkegodflloiaaGreat
namespace Go.Proofs.YtfpkegodflloiaaGreat
open Go.Proofs.Tryz
open Go Go.AM
theorem root_ok {u v:Int} (h:Nat.ble (rootM u v) 1=true):rootOk u v (rootX u v (rootM u v))=true:=by
 unfold rootM at h ⊢
 cases h0:rootOk u v (rootX u v 0) with
 | true=>exact h0
 | false =>
  rw [h0] at h
  cases h1:rootOk u v (rootX u v 1) with
  | true=>exact h1
  | false=>rw [h1] at h; exact absurd h (by decide)
theorem rootX_in (u v:Int):∀ k,inP (rootX u v k)
 | 0=>mM_in _ _
 | k+1=>mM_in _ _
theorem mS_in (x y:Int):inP (mS x y):=⟨Int.emod_nonneg _ (by decide),Int.emod_lt_of_pos _ pP_pos⟩
theorem openS_on {w:Int} (ho:opOk w=true):On4 (openS w):=by
 unfold opOk at ho
 simp only [Bool.and_eq_true,decide_eq_true_eq] at ho
 obtain ⟨hy,hm,_⟩:=ho
 have hr:=root_ok hm
 have hr:rootOk (opU w) (opV w) (opX w)=true:=hr
 have e:=of_decide_eq_true hr
 have yin:inP (opY w):=⟨by unfold opY; omega,hy⟩
 have xin:inP (opX w):=rootX_in _ _ _
 have ef:=congrArg fq e
 unfold opU opV at ef
 simp only [fq_mul,fq_add,fq_sub,fq_1] at ef
 have xs:inP (opXs w) ∧ fq (opXs w) * fq (opXs w)=fq (opX w) * fq (opX w):=by
  unfold opXs
  cases (decide (opX w % 2=1) != opOdd w) with
  | true=>exact ⟨mS_in _ _,by show fq (mS 0 (opX w)) * fq (mS 0 (opX w))=_; rw [fq_sub,fq_0]; grind⟩
  | false=>exact ⟨xin,rfl⟩
 refine ⟨xs.1,yin,by show inP 1; decide,mM_in _ _,?_⟩
 show OnF (fq (opXs w)) (fq (opY w)) (fq 1) (fq (mM (opXs w) (opY w)))
 rw [fq_mul,fq_1]
 have e2:=xs.2
 refine ⟨?_,by grind,f01⟩
 have ed:fq eD=dF:=rfl
 rw [ed,← e2] at ef
 generalize fq (opXs w)=x at *
 generalize fq (opY w)=y at *
 generalize dF=d at *
 clear e2 xs hr e hm yin xin hy
 grind
end Go.Proofs.YtfpkegodflloiaaGreat
namespace Go.Proofs.YtfpkegodflloiaaGreat
open Go.Proofs.Tryz
open Go Go.AM
noncomputable def el0:List (Nat × TF):=(F_edwards_Check,tCheck) :: (F_edwards_Identity,tIdentity) :: (F_edwards_IsPrime,tIsPrime) :: (F_edwards_MulBase,tMulBase) :: (F_scalar_Add,tAdd) :: (F_scalar_IsZero,tIsZero) :: (F_rimeref02_Reduce,tReduce2) ::
 (F_rimeref04_MulBase,tMulBase) :: []
theorem EL0:LibOK prog tt el0 []:=((((((((((L0.addT r_mulBaseG)))).addT r_reduce2).addT r_isZero).addT r_add).addT r_mulBase).addT r_isPrime).addT r_identity).addT r_check
noncomputable abbrev elE:EnvP:=envP tt el0 []
def expS (K:Int):Int:=bif decide (K=0) then 0 else formS (mulS baseS K)
def tExp:TF:=fun args=>match args with
 | [.agg [.ints .u8 32 s]]=>some (areB s 32 0,.tup [b32 (expS (hval s 32 0 % ordL)),.sc (.int .i64 (bif decide (hval s 32 0 % ordL=0) then 9 else 0))])
 | _=>none
theorem c_exp:fnChk prog elE f_suite_Exp=true:=by kernel_rfl
theorem c_expR:fnChk prog elE f_rimeref06_Exp=true:=by kernel_rfl
def exE (s:Nat → Int):Int:=(hval (ld0 s) 32 0+hval (fun _=>0) 32 0) % ordL
theorem k_exp1 (s:Nat → Int):outP (apFunc elE [(9,true)] 5 f_suite_Exp [u8s 32 s] []) =
  some (ckL [areB (ld0 s) 32 0 && true,areB (lf (byL 32 (exE s))) 32 0 && (decide (hval (lf (byL 32 (exE s))) 32 0 % ordL=0) == true)],.tup [b32 0,.sc (.int .i64 9)]):=by kernel_rfl
theorem k_exp2 (s:Nat → Int):outP (apFunc elE [(9,false)] 5 f_suite_Exp [u8s 32 s] []) =
  some (ckL [areB (ld0 s) 32 0 && true,areB (lf (byL 32 (exE s))) 32 0 && (decide (hval (lf (byL 32 (exE s))) 32 0 % ordL=0) == false),areB (lf (byL 32 (exE s))) 32 0],.tup [b32 (formS (mulS baseS (hval (lf (byL 32 (exE s))) 32 0))),.sc (.int .i64 0)]):=by kernel_rfl
theorem hval_0:hval (fun _=>0) 32 0=0:=by decide
theorem ord_mod (x:Int):0 ≤ x % ordL ∧ x % ordL < R256:=⟨Int.emod_nonneg _ (by decide),Int.lt_trans (Int.emod_lt_of_pos _ (by decide)) (by decide)⟩
theorem b_ord (x:Int):hval (lf (byL 32 (x % ordL))) 32 0=x % ordL:=hval_b32 (ord_mod x).1 (ord_mod x).2
theorem ord_ord (x:Int):x % ordL % ordL=x % ordL:=Int.emod_emod_of_dvd x (Int.dvd_refl ordL)
theorem r_exp:TRow prog F_suite_Exp tExp:=by
 intro args r h
 unfold tExp at h
 split at h
 case h_2=>simp at h
 rename_i s
 simp only [Option.some.injEq,Prod.mk.injEq] at h
 obtain ⟨hs,rfl⟩:=h
 have e1:=k_exp1 s
 have e2:=k_exp2 s
 have ea:exE s=hval s 32 0 % ordL:=by unfold exE; rw [ld0_eq,hval_0,Int.add_zero]
 rw [ld0_eq,ea,areB_b32,b_ord,ord_ord,hs] at e1 e2
 unfold expS
 cases hz:decide (hval s 32 0 % ordL=0) with
 | true=>rw [hz] at e1; exact pure_of_out EL0 at_suite_Exp c_exp (N:=5) (gs:=[(9,true)]) e1
 | false=>rw [hz] at e2; exact pure_of_out EL0 at_suite_Exp c_exp (N:=5) (gs:=[(9,false)]) e2
theorem eqN_zero_el {x:Int} (hx:0 ≤ x ∧ x < R256):eqN 32 (lf (byL 32 x)) (fun _=>0)=decide (x=0):=by
 rw [eqN_symm,eqN_congr (f':=lf (byL 32 0)) (by decide),eqN_symm]
 exact eqN_by hx (by decide)
theorem k_exG1 (s:Nat → Int):outP (apFunc elE [(8,true)] 5 f_rimeref06_Exp [u8s 32 s] []) =
  some (ckL [areB (fun j=>row1 s j 0) 32 0,(eqN 32 (lf (byL 32 (hval (fun j=>row1 s j 0) 32 0 % ordL))) (fun _=>0) && true) == true],.tup [b32 0,.sc (.int .i64 9)]):=by kernel_rfl
theorem k_exG2 (s:Nat → Int):outP (apFunc elE [(8,false)] 5 f_rimeref06_Exp [u8s 32 s] []) =
  some (ckL [areB (fun j=>row1 s j 0) 32 0,(eqN 32 (lf (byL 32 (hval (fun j=>row1 s j 0) 32 0 % ordL))) (fun _=>0) && true) == false,areB (lf (byL 32 (hval (fun j=>row1 s j 0) 32 0 % ordL))) 32 0],.tup [b32 (formS (mulS baseS (hval (lf (byL 32 (hval (fun j=>row1 s j 0) 32 0 % ordL))) 32 0))),.sc (.int .i64 0)]):=by kernel_rfl
theorem r_expR:TRow prog F_rimeref06_Exp tExp:=by
 intro args r h
 unfold tExp at h
 split at h
 case h_2=>simp at h
 rename_i s
 simp only [Option.some.injEq,Prod.mk.injEq] at h
 obtain ⟨hs,rfl⟩:=h
 have e1:=k_exG1 s
 have e2:=k_exG2 s
 rw [row1_areB hs,row1_hval,eqN_zero_el (ord_mod _)] at e1 e2
 rw [areB_b32,b_ord] at e2
 unfold expS
 cases hz:decide (hval s 32 0 % ordL=0) with
 | true=>rw [hz] at e1; exact pure_of_out EL0 at_rimeref06_Exp c_expR (N:=5) (gs:=[(8,true)]) e1
 | false=>rw [hz] at e2; exact pure_of_out EL0 at_rimeref06_Exp c_expR (N:=5) (gs:=[(8,false)]) e2
end Go.Proofs.YtfpkegodflloiaaGreat
namespace Go.Proofs.YtfpkegodflloiaaGreat
open Go.Proofs.Tryz
open Go Go.AM
abbrev gz (n:Nat) (x:Nat → Int):Nat → Int:=fun j=>bif Nat.ble 0 (0+j) && Nat.ble (0+j+1) n then x (0+j - 0) else 0
theorem gz_at {n j:Nat} {x:Nat → Int} (h:j < n):gz n x j=x j:=by
 show (bif Nat.ble 0 (0+j) && Nat.ble (0+j+1) n then x (0+j - 0) else 0)=x j
 rw [show Nat.ble 0 (0+j)=true from Nat.ble_eq_true_of_le (Nat.zero_le _),show Nat.ble (0+j+1) n=true from Nat.ble_eq_true_of_le (by omega),Nat.zero_add,Nat.sub_zero]; rfl
theorem gz_areB {x:Nat → Int} (h:areB x 32 0=true):areB (gz 32 (ld0 x)) 32 0=true:=areB_mk fun i hi=>by
 rw [Nat.zero_add,gz_at hi]
 have:=areB_t h i hi
 exact this
theorem gz_hval (x:Nat → Int):hval (gz 32 (ld0 x)) 32 0=hval x 32 0:=hval_congr fun i hi=>by rw [Nat.zero_add,gz_at hi]; show x (0+i)=_; rw [Nat.zero_add]
end Go.Proofs.YtfpkegodflloiaaGreat
namespace Go.Proofs.YtfpkegodflloiaaGreat
open Go.Proofs.Tryz
open Go Go.AM
noncomputable def fq0:List (Nat × TF):=[(F_suite_Exp,tExp),(F_rimeref06_Exp,tExp),(F_suite_PutScalar,tPut),(F_rimeref02_IsZero,tIsZero),(F_rimeref02_Add,tAdd2),(F_suite_H3,tHn nonB),(F_rimeref06_H3,tHn nonB)]
theorem FQ0:LibOK prog tt fq0 []:=((((((L0.addT r_rH3).addT r_H3).addT r_add2).addT r_isZero2).addT r_put).addT r_expR).addT r_exp
noncomputable abbrev fqE:EnvP:=envP tt fq0 []
def isId (i:Int):Bool:=decide (i ≥ 1) && decide (i ≤ 255)
def tIsIdn:TF:=fun args=>match args with
 | [.sc (.int .i64 i)]=>some (true,.sc (.bool (isId i)))
 | _=>none
theorem c_fid:fnChk prog fqE f_frost_isID=true:=by kernel_rfl
theorem k_fid9_1 (i:Int):outP (apFunc fqE [(5,true)] 5 f_frost_isID [.sc (.int .i64 i)] [])=some (ckL [decide (i ≥ 1) == true],.sc (.bool (decide (i ≤ 255)))):=by kernel_rfl
theorem k_fid9_2 (i:Int):outP (apFunc fqE [(5,false)] 5 f_frost_isID [.sc (.int .i64 i)] [])=some (ckL [decide (i ≥ 1) == false],.sc (.bool false)):=by kernel_rfl
theorem c_rid:fnChk prog fqE f_rimeref09_isID=true:=by kernel_rfl
theorem k_rid9_1 (i:Int):outP (apFunc fqE [(5,true)] 5 f_rimeref09_isID [.sc (.int .i64 i)] [])=some (ckL [decide (i ≥ 1) == true],.sc (.bool (decide (i ≤ 255)))):=by kernel_rfl
theorem k_rid9_2 (i:Int):outP (apFunc fqE [(5,false)] 5 f_rimeref09_isID [.sc (.int .i64 i)] [])=some (ckL [decide (i ≥ 1) == false],.sc (.bool false)):=by kernel_rfl
theorem r_fid:TRow prog F_frost_isID tIsIdn:=by
 intro args r h
 unfold tIsIdn at h
 split at h
 case h_2=>simp at h
 rename_i i
 simp only [Option.some.injEq,Prod.mk.injEq,true_and] at h
 subst h
 unfold isId
 have e1:=k_fid9_1 i
 have e2:=k_fid9_2 i
 cases hd:decide (i ≥ 1) with
 | true=>rw [hd] at e1; exact pure_of_out FQ0 at_frost_isID c_fid (N:=5) (gs:=[(5,true)]) e1
 | false=>rw [hd] at e2; exact pure_of_out FQ0 at_frost_isID c_fid (N:=5) (gs:=[(5,false)]) e2
theorem r_rid:TRow prog F_rimeref09_isID tIsIdn:=by
 intro args r h
 unfold tIsIdn at h
 split at h
 case h_2=>simp at h
 rename_i i
 simp only [Option.some.injEq,Prod.mk.injEq,true_and] at h
 subst h
 unfold isId
 have e1:=k_rid9_1 i
 have e2:=k_rid9_2 i
 cases hd:decide (i ≥ 1) with
 | true=>rw [hd] at e1; exact pure_of_out FQ0 at_rimeref09_isID c_rid (N:=5) (gs:=[(5,true)]) e1
 | false=>rw [hd] at e2; exact pure_of_out FQ0 at_rimeref09_isID c_rid (N:=5) (gs:=[(5,false)]) e2
def tCan:TF:=fun args=>match args with
 | [.agg [.ints .u8 32 s]]=>some (areB s 32 0,b32 (hval s 32 0 % ordL))
 | _=>none
theorem c_can9:fnChk prog fqE f_rimeref09_Canon=true:=by kernel_rfl
theorem k_can9 (s:Nat → Int):outP (apFunc fqE [] 5 f_rimeref09_Canon [u8s 32 s] [])=some (ckL [areB (ld0 s) 32 0 && true],b32 ((hval (ld0 s) 32 0+hval (fun _=>0) 32 0) % ordL)):=by kernel_rfl
theorem r_can9:TRow prog F_rimeref09_Canon tCan:=by
 intro args r h
 unfold tCan at h
 split at h
 case h_2=>simp at h
 rename_i s
 simp only [Option.some.injEq,Prod.mk.injEq] at h
 obtain ⟨hs,rfl⟩:=h
 have e:=k_can9 s
 rw [ld0_eq,hs,hval_0,Int.add_zero] at e
 exact pure_of_out FQ0 at_rimeref09_Canon c_can9 (N:=5) (gs:=[]) e
noncomputable def fq1:List (Nat × TF):=(F_frost_isID,tIsIdn) :: (F_rimeref09_isID,tIsIdn) :: (F_rimeref09_Canon,tCan) :: fq0
theorem FQ1:LibOK prog tt fq1 []:=((FQ0.addT r_can9).addT r_rid).addT r_fid
noncomputable abbrev fqE1:EnvP:=envP tt fq1 []
noncomputable def nnV (r s:Nat → Int):Int:=hNum nonB [(32,fun i=>r i),(32,fun i=>lf (byL 32 (hval s 32 0 % ordL)) i)]
noncomputable def tNonce:TF:=fun args=>match args with
 | [.agg [.ints .u8 32 r],.agg [.ints .u8 32 s]]=>some (areB s 32 0,.tup [b32 (nnV r s),.sc (.int .i64 (bif decide (nnV r s=0) then 9 else 0))])
 | _=>none
def tHnG (w:List UInt8) (G:List (Nat × (Nat → Int)) → Int):TF:=fun args=>match args with
 | [.sc (.vrows _ 1 np row)]=>some (okPs w np row,b32 (G (partsL np row)))
 | _=>none
noncomputable def fqG (G:List (Nat × (Nat → Int)) → Int):List (Nat × TF):=(F_frost_isID,tIsIdn) :: (F_rimeref09_isID,tIsIdn) :: (F_rimeref09_Canon,tCan) :: (F_suite_Exp,tExp) :: (F_rimeref06_Exp,tExp) :: (F_suite_PutScalar,tPut) :: (F_rimeref02_IsZero,tIsZero) :: (F_rimeref02_Add,tAdd2) :: (F_suite_H3,tHnG nonB G) :: (F_rimeref06_H3,tHnG nonB G) :: []
theorem c_fno:fnChk prog fqE1 f_frost_Nonce=true:=by kernel_rfl
def nnL (r s:Nat → Int):List (Nat × (Nat → Int)):=[(32,fun i=>r (0+i * 1+0)),(32,fun i=>lf (byL 32 (hval (ld0 s) 32 0 % ordL)) i)]
theorem k_fno1 (G:List (Nat × (Nat → Int)) → Int) (r s:Nat → Int):outP (apFunc (envP tt (fqG G) []) [(14,true)] 5 f_frost_Nonce [u8s 32 r,u8s 32 s] [])=some (ckL [areB (ld0 s) 32 0,true,(eqN 32 (gz 32 (lf (byL 32 (G (nnL r s))))) (fun _=>0) && true) == true],.tup [b32 (G (nnL r s)),.sc (.int .i64 9)]):=by kernel_rfl
theorem k_fno2 (G:List (Nat × (Nat → Int)) → Int) (r s:Nat → Int):outP (apFunc (envP tt (fqG G) []) [(14,false)] 5 f_frost_Nonce [u8s 32 r,u8s 32 s] [])=some (ckL [areB (ld0 s) 32 0,true,(eqN 32 (gz 32 (lf (byL 32 (G (nnL r s))))) (fun _=>0) && true) == false],.tup [b32 (G (nnL r s)),.sc (.int .i64 0)]):=by kernel_rfl
theorem c_rno:fnChk prog fqE1 f_rimeref09_Nonce=true:=by kernel_rfl
def nnZ (r s:Nat → Int):List (Nat × (Nat → Int)):=[(32,fun i=>r (0+i * 1+0)),(32,fun i=>(fun (r d:Nat)=>bif Nat.beq r 0 && (Nat.ble 0 d && Nat.ble (d+1) 32) then lf (byL 32 (hval (ld0 s) 32 0 % ordL)) (d - 0) else 0) 0 (0+i * 1+0))]
theorem k_rno1 (G:List (Nat × (Nat → Int)) → Int) (r s:Nat → Int):outP (apFunc (envP tt (fqG G) []) [(15,true)] 5 f_rimeref09_Nonce [u8s 32 r,u8s 32 s] [])=some (ckL [areB (ld0 s) 32 0,true,areB (gz 32 (lf (byL 32 (G (nnZ r s))))) 32 0 && (decide (hval (gz 32 (lf (byL 32 (G (nnZ r s))))) 32 0 % ordL=0) == true)],.tup [b32 0,.sc (.int .i64 9)]):=by kernel_rfl
theorem k_rno2 (G:List (Nat × (Nat → Int)) → Int) (r s:Nat → Int):outP (apFunc (envP tt (fqG G) []) [(15,false)] 5 f_rimeref09_Nonce [u8s 32 r,u8s 32 s] [])=some (ckL [areB (ld0 s) 32 0,true,areB (gz 32 (lf (byL 32 (G (nnZ r s))))) 32 0 && (decide (hval (gz 32 (lf (byL 32 (G (nnZ r s))))) 32 0 % ordL=0) == false)],.tup [b32 (G (nnZ r s)),.sc (.int .i64 0)]):=by kernel_rfl
end Go.Proofs.YtfpkegodflloiaaGreat
namespace Go.Proofs.YtfpkegodflloiaaGreat
open Go.Proofs.Tryz
open Go Go.AM
theorem ld1_eq (r:Nat → Int):(fun i=>r (0+i * 1+0))=r:=funext fun i=>by rw [Nat.zero_add,Nat.mul_one,Nat.add_zero]
theorem nnL_is (r s:Nat → Int):hNum nonB (nnL r s)=nnV r s:=by
 unfold nnL nnV
 rw [ld1_eq,ld0_eq]
theorem catL_two {f g f' g':Nat → Int} {n m:Nat} (hf:∀ j,j < n → f j=f' j) (hg:∀ j,j < m → g j=g' j) (w:List UInt8):hNum w [(n,f),(m,g)]=hNum w [(n,f'),(m,g')]:=by
 unfold hNum hDig
 refine congrArg (fun x=>hval (lf x) 64 0 % ordL) (digP_congr rfl fun j hj=>?_)
 have hj:j < w.length+(n+(m+0)):=hj
 show catF w.length (wF_hash w) (catF n f (catF m g fun _=>0)) j=catF w.length (wF_hash w) (catF n f' (catF m g' fun _=>0)) j
 by_cases h1:j < w.length
 ·rw [catF_lt h1,catF_lt h1]
 ·rw [catF_ge (n:=w.length) (f:=catF n f (catF m g fun _=>0)) (by omega),catF_ge (n:=w.length) (f:=catF n f' (catF m g' fun _=>0)) (by omega)]
  by_cases h2:j - w.length < n
  ·rw [catF_lt h2,catF_lt h2]; exact hf _ h2
  ·rw [catF_ge (n:=n) (f:=catF m g fun _=>0) (by omega),catF_ge (n:=n) (f:=catF m g' fun _=>0) (by omega)]
   have h3:j - w.length - n < m:=by omega
   rw [catF_lt h3,catF_lt h3]; exact hg _ h3
theorem nnZ_is (r s:Nat → Int):hNum nonB (nnZ r s)=nnV r s:=by
 refine catL_two (fun j _=>by rw [Nat.zero_add,Nat.mul_one,Nat.add_zero]) (fun j hj=>?_) nonB
 rw [Nat.zero_add,Nat.mul_one,Nat.add_zero,ld0_eq]
 show (bif Nat.ble 0 j && Nat.ble (j+1) 32 then lf (byL 32 (hval s 32 0 % ordL)) (j - 0) else 0)=_
 rw [show Nat.ble 0 j=true from Nat.ble_eq_true_of_le (Nat.zero_le _),bls_t hj]; rfl
theorem nnV_range (r s:Nat → Int):0 ≤ nnV r s ∧ nnV r s < ordL:=⟨Int.emod_nonneg _ (by decide),Int.emod_lt_of_pos _ (by decide)⟩
theorem nnV_big (r s:Nat → Int):0 ≤ nnV r s ∧ nnV r s < R256:=ord_mod _
theorem gz_eqN {x:Int} (hx:0 ≤ x ∧ x < R256):eqN 32 (gz 32 (lf (byL 32 x))) (fun _=>0)=decide (x=0):=by
 rw [← eqN_zero_el hx]
 exact eqN_congr fun d hd=>gz_at hd
theorem gz_b32 {x:Int} (hx:0 ≤ x ∧ x < R256):areB (gz 32 (lf (byL 32 x))) 32 0=true ∧ hval (gz 32 (lf (byL 32 x))) 32 0=x:=by
 have e1:=gz_areB (areB_b32 x)
 have e2:=gz_hval (lf (byL 32 x))
 rw [ld0_eq] at e1 e2
 exact ⟨e1,e2.trans (hval_b32 hx.1 hx.2)⟩
theorem r_fno:TRow prog F_frost_Nonce tNonce:=by
 intro args r h
 unfold tNonce at h
 split at h
 case h_2=>simp at h
 rename_i x s
 simp only [Option.some.injEq,Prod.mk.injEq] at h
 obtain ⟨hs,rfl⟩:=h
 have e1:=k_fno1 (hNum nonB) x s
 have e2:=k_fno2 (hNum nonB) x s
 rw [nnL_is,gz_eqN (nnV_big x s),ld0_eq,hs] at e1 e2
 cases hd:decide (nnV x s=0) with
 | true=>rw [hd] at e1; exact pure_of_out FQ1 at_frost_Nonce c_fno (N:=5) (gs:=[(14,true)]) e1
 | false=>rw [hd] at e2; exact pure_of_out FQ1 at_frost_Nonce c_fno (N:=5) (gs:=[(14,false)]) e2
theorem r_rno:TRow prog F_rimeref09_Nonce tNonce:=by
 intro args r h
 unfold tNonce at h
 split at h
 case h_2=>simp at h
 rename_i x s
 simp only [Option.some.injEq,Prod.mk.injEq] at h
 obtain ⟨hs,rfl⟩:=h
 have e1:=k_rno1 (hNum nonB) x s
 have e2:=k_rno2 (hNum nonB) x s
 obtain ⟨g1,g2⟩:=gz_b32 (nnV_big x s)
 have em:nnV x s % ordL=nnV x s:=Int.emod_eq_of_lt (nnV_range x s).1 (nnV_range x s).2
 rw [nnZ_is,g1,g2,em,ld0_eq,hs] at e1 e2
 cases hd:decide (nnV x s=0) with
 | true =>
  rw [hd] at e1
  have h0:=of_decide_eq_true hd
  rw [h0]
  exact pure_of_out FQ1 at_rimeref09_Nonce c_rno (N:=5) (gs:=[(15,true)]) e1
 | false=>rw [hd] at e2; exact pure_of_out FQ1 at_rimeref09_Nonce c_rno (N:=5) (gs:=[(15,false)]) e2
def npA (n:Nat → Int):Int:=hval n 32 0 % ordL
def npB (n:Nat → Int):Int:=hval (fun j=>n (32+j)) 32 0 % ordL
def npE (i:Int) (n:Nat → Int):Int:=bif isId i then (bif decide (npA n=0) || decide (npB n=0) then 9 else 0) else 4
def npC (i:Int) (n:Nat → Int):AV:=.agg [.ints .i64 1 (lf [bif decide (npE i n=0) then i else 0]),.ints .u8 64 (lf (bif decide (npE i n=0) then byL 32 (expS (npA n)) ++ byL 32 (expS (npB n)) else byL 32 0 ++ byL 32 0))]
def tPair:TF:=fun args=>match args with
 | [.sc (.int .i64 i),.agg [.ints .u8 64 n]]=>some (areB n 64 0,.tup [npC i n,.sc (.int .i64 (npE i n))])
 | _=>none
theorem c_fpa:fnChk prog fqE1 f_frost_Pair=true:=by kernel_rfl
def np0:AV:=.agg [.ints .i64 1 (lf [0]),.ints .u8 64 (lf (byL 32 0 ++ byL 32 0))]
def np1 (i:Int) (n:Nat → Int):AV:=.agg [.ints .i64 1 (lf [i]),.ints .u8 64 (lf (byL 32 (expS (npA (ld0 n))) ++ byL 32 (expS (npB n))))]
def n9 (x:Int):Bool:=(bif decide (x=0) then 9 else 0:Int) != 0
theorem k_fpa1 (i:Int) (n:Nat → Int):outP (apFunc fqE1 [(12,true)] 5 f_frost_Pair [.sc (.int .i64 i),u8s 64 n] [])=some (ckL [(!isId i) == true],.tup [np0,.sc (.int .i64 4)]):=by kernel_rfl
theorem k_fpa2 (i:Int) (n:Nat → Int):outP (apFunc fqE1 [(12,false),(28,true)] 5 f_frost_Pair [.sc (.int .i64 i),u8s 64 n] []) =
  some (ckL [(!isId i) == false,areB (ld0 n) 32 0,areB (fun j=>n (32+j)) 32 0,n9 (npA (ld0 n)) == true],.tup [np0,.sc (.int .i64 9)]):=by kernel_rfl
theorem k_fpa3 (i:Int) (n:Nat → Int):outP (apFunc fqE1 [(12,false),(28,false),(31,true)] 5 f_frost_Pair [.sc (.int .i64 i),u8s 64 n] []) =
  some (ckL [(!isId i) == false,areB (ld0 n) 32 0,areB (fun j=>n (32+j)) 32 0,n9 (npA (ld0 n)) == false,n9 (npB n) == true],.tup [np0,.sc (.int .i64 9)]):=by kernel_rfl
theorem k_fpa4 (i:Int) (n:Nat → Int):outP (apFunc fqE1 [(12,false),(28,false),(31,false)] 5 f_frost_Pair [.sc (.int .i64 i),u8s 64 n] []) =
  some (ckL [(!isId i) == false,areB (ld0 n) 32 0,areB (fun j=>n (32+j)) 32 0,n9 (npA (ld0 n)) == false,n9 (npB n) == false],.tup [np1 i n,.sc (.int .i64 0)]):=by kernel_rfl
theorem c_rpa9:fnChk prog fqE1 f_rimeref09_Pair=true:=by kernel_rfl
theorem k_rpa1 (i:Int) (n:Nat → Int):outP (apFunc fqE1 [(12,true)] 5 f_rimeref09_Pair [.sc (.int .i64 i),u8s 64 n] [])=some (ckL [(!isId i) == true],.tup [np0,.sc (.int .i64 4)]):=by kernel_rfl
theorem k_rpa2 (i:Int) (n:Nat → Int):outP (apFunc fqE1 [(12,false),(17,true)] 5 f_rimeref09_Pair [.sc (.int .i64 i),u8s 64 n] []) =
  some (ckL [(!isId i) == false,areB (ld0 n) 32 0,decide (npA (ld0 n)=0) == true],.tup [np0,.sc (.int .i64 9)]):=by kernel_rfl
theorem k_rpa3 (i:Int) (n:Nat → Int):outP (apFunc fqE1 [(12,false),(17,false),(21,true)] 5 f_rimeref09_Pair [.sc (.int .i64 i),u8s 64 n] []) =
  some (ckL [(!isId i) == false,areB (ld0 n) 32 0,decide (npA (ld0 n)=0) == false,areB (fun j=>n (32+j)) 32 0,decide (npB n=0) == true],.tup [np0,.sc (.int .i64 9)]):=by kernel_rfl
theorem k_rpa4 (i:Int) (n:Nat → Int):outP (apFunc fqE1 [(12,false),(17,false),(21,false)] 5 f_rimeref09_Pair [.sc (.int .i64 i),u8s 64 n] []) =
  some (ckL [(!isId i) == false,areB (ld0 n) 32 0,decide (npA (ld0 n)=0) == false,areB (fun j=>n (32+j)) 32 0,decide (npB n=0) == false,areB (ld0 n) 32 0,areB (fun j=>n (32+j)) 32 0],.tup [np1 i n,.sc (.int .i64 0)]):=by kernel_rfl
theorem areB_two {n:Nat → Int} (h:areB n 64 0=true):areB n 32 0=true ∧ areB (fun j=>n (32+j)) 32 0=true:=by
 constructor
 ·exact areB_mk fun i hi=>areB_t h i (by omega)
 ·exact areB_mk fun i hi=>by
   have:=areB_t h (32+i) (by omega)
   rw [Nat.zero_add] at this ⊢
   exact this
theorem n9_is (x:Int):n9 x=decide (x=0):=by
 unfold n9
 cases decide (x=0) <;> rfl
theorem r_fpa:TRow prog F_frost_Pair tPair:=by
 intro args r h
 unfold tPair at h
 split at h
 case h_2=>simp at h
 rename_i i n
 simp only [Option.some.injEq,Prod.mk.injEq] at h
 obtain ⟨hn,rfl⟩:=h
 obtain ⟨a1,a2⟩:=areB_two hn
 have e1:=k_fpa1 i n
 have e2:=k_fpa2 i n
 have e3:=k_fpa3 i n
 have e4:=k_fpa4 i n
 unfold np1 at e4
 rw [ld0_eq,a1,a2] at e2 e3 e4
 simp only [n9_is] at e2 e3 e4
 unfold npC npE
 cases h1:isId i with
 | false =>
  rw [h1] at e1
  exact pure_of_out FQ1 at_frost_Pair c_fpa (N:=5) (gs:=[(12,true)]) e1
 | true =>
  rw [h1] at e2 e3 e4
  cases h2:decide (npA n=0) with
  | true =>
   rw [h2] at e2
   exact pure_of_out FQ1 at_frost_Pair c_fpa (N:=5) (gs:=[(12,false),(28,true)]) e2
  | false =>
   rw [h2] at e3 e4
   cases h3:decide (npB n=0) with
   | true =>
    rw [h3] at e3
    exact pure_of_out FQ1 at_frost_Pair c_fpa (N:=5) (gs:=[(12,false),(28,false),(31,true)]) e3
   | false =>
    rw [h3] at e4
    exact pure_of_out FQ1 at_frost_Pair c_fpa (N:=5) (gs:=[(12,false),(28,false),(31,false)]) e4
theorem r_rpa9:TRow prog F_rimeref09_Pair tPair:=by
 intro args r h
 unfold tPair at h
 split at h
 case h_2=>simp at h
 rename_i i n
 simp only [Option.some.injEq,Prod.mk.injEq] at h
 obtain ⟨hn,rfl⟩:=h
 obtain ⟨a1,a2⟩:=areB_two hn
 have e1:=k_rpa1 i n
 have e2:=k_rpa2 i n
 have e3:=k_rpa3 i n
 have e4:=k_rpa4 i n
 unfold np1 at e4
 rw [ld0_eq,a1] at e2 e3 e4
 rw [a2] at e3 e4
 unfold npC npE
 cases h1:isId i with
 | false =>
  rw [h1] at e1
  exact pure_of_out FQ1 at_rimeref09_Pair c_rpa9 (N:=5) (gs:=[(12,true)]) e1
 | true =>
  rw [h1] at e2 e3 e4
  cases h2:decide (npA n=0) with
  | true =>
   rw [h2] at e2
   exact pure_of_out FQ1 at_rimeref09_Pair c_rpa9 (N:=5) (gs:=[(12,false),(17,true)]) e2
  | false =>
   rw [h2] at e3 e4
   cases h3:decide (npB n=0) with
   | true =>
    rw [h3] at e3
    exact pure_of_out FQ1 at_rimeref09_Pair c_rpa9 (N:=5) (gs:=[(12,false),(17,false),(21,true)]) e3
   | false =>
    rw [h3] at e4
    exact pure_of_out FQ1 at_rimeref09_Pair c_rpa9 (N:=5) (gs:=[(12,false),(17,false),(21,false)]) e4
end Go.Proofs.YtfpkegodflloiaaGreat
namespace Go.Proofs.YtfpkegodflloiaaGreat
open Go.Proofs.Tryz
open Go Go.AM
def tNonceG (V:(Nat → Int) → (Nat → Int) → Int):TF:=fun args=>match args with
 | [.agg [.ints .u8 32 r],.agg [.ints .u8 32 s]]=>some (areB s 32 0,.tup [b32 (V r s),.sc (.int .i64 (bif decide (V r s=0) then 9 else 0))])
 | _=>none
noncomputable def fq2G (V:(Nat → Int) → (Nat → Int) → Int) (Q:TF):List (Nat × TF):=(F_frost_Nonce,tNonceG V) :: (F_rimeref09_Nonce,tNonceG V) :: (F_frost_Pair,Q) :: (F_rimeref09_Pair,Q) :: (F_frost_isID,tIsIdn) :: (F_rimeref09_isID,tIsIdn) :: (F_rimeref09_Canon,tCan) :: []
def tPairG (Q:Int → (Nat → Int) → Int × (Int × List Int)):TF:=fun args=>match args with
 | [.sc (.int .i64 i),.agg [.ints .u8 64 n]]=>some (areB n 64 0,.tup [.agg [.ints .i64 1 (lf [(Q i n).2.1]),.ints .u8 64 (lf (Q i n).2.2)],.sc (.int .i64 (Q i n).1)])
 | _=>none
def cmX (H B:Int):Nat → Int:=fun j=>bif Nat.ble 0 (0+j) && Nat.ble (0+j+1) 64 then bif Nat.ble 32 (0+j - 0) && Nat.ble (0+j - 0+1) 64 then bif Nat.ble 0 (0+(0+j - 0 - 32)) && Nat.ble (0+(0+j - 0 - 32)+1) 32 then lf (byL 32 B) (0+(0+j - 0 - 32) - 0) else 0
 else bif Nat.ble 0 (0+j - 0) && Nat.ble (0+j - 0+1) 32 then bif Nat.ble 0 (0+(0+j - 0 - 0)) && Nat.ble (0+(0+j - 0 - 0)+1) 32 then lf (byL 32 H) (0+(0+j - 0 - 0) - 0) else 0 else 0 else 0
def cmL (H B:Int):List Int:=byL 32 H ++ byL 32 B
theorem cmX_tab (H B:Int):tabL (cmX H B) 64 0=cmL H B:=by kernel_rfl
section
variable (V:(Nat → Int) → (Nat → Int) → Int) (Q:Int → (Nat → Int) → Int × (Int × List Int)) (i:Int) (s h b:Nat → Int)
noncomputable def fcR (gs:Guess):Option (Bool × AV):=outP (apFunc (envP tt (fq2G V (tPairG Q)) []) gs 5 f_frost_Commit [.sc (.int .i64 i),u8s 32 s,u8s 32 h,u8s 32 b] [])
noncomputable def rcR (gs:Guess):Option (Bool × AV):=outP (apFunc (envP tt (fq2G V (tPairG Q)) []) gs 5 f_rimeref09_Commit [.sc (.int .i64 i),u8s 32 s,u8s 32 h,u8s 32 b] [])
def cm0 (e:Int):AV:=.tup [.agg [.ints .u8 64 (lf (cmL 0 0))],.agg [.ints .i64 1 (lf [0]),.ints .u8 64 (lf (cmL 0 0))],.sc (.int .i64 e)]
def cm1 (H B e:Int) (q:Int × List Int):AV:=.tup [.agg [.ints .u8 64 (lf (cmL H B))],.agg [.ints .i64 1 (lf [q.1]),.ints .u8 64 (lf (tabL (lf q.2) 64 0))],.sc (.int .i64 e)]
theorem k_fcm1:fcR V Q i s h b [(19,true)]=some (ckL [(!isId i) == true],cm0 4):=by kernel_rfl
theorem k_fcm2:fcR V Q i s h b [(19,false),(36,true)]=some (ckL [(!isId i) == false,areB (ld0 s) 32 0,areB (ld0 s) 32 0,n9 (V (ld0 h) (ld0 s)) == true],cm0 9):=by kernel_rfl
theorem k_fcm3:fcR V Q i s h b [(19,false),(36,false),(39,true)]=some (ckL [(!isId i) == false,areB (ld0 s) 32 0,areB (ld0 s) 32 0,n9 (V (ld0 h) (ld0 s)) == false,n9 (V (ld0 b) (ld0 s)) == true],cm0 9):=by kernel_rfl
theorem k_fcm4:fcR V Q i s h b [(19,false),(36,false),(39,false)]=some (ckL [(!isId i) == false,areB (ld0 s) 32 0,areB (ld0 s) 32 0,n9 (V (ld0 h) (ld0 s)) == false,n9 (V (ld0 b) (ld0 s)) == false,areB (cmX (V (ld0 h) (ld0 s)) (V (ld0 b) (ld0 s))) 64 0],
  cm1 (V (ld0 h) (ld0 s)) (V (ld0 b) (ld0 s)) (Q i (cmX (V (ld0 h) (ld0 s)) (V (ld0 b) (ld0 s)))).1 (Q i (cmX (V (ld0 h) (ld0 s)) (V (ld0 b) (ld0 s)))).2):=by kernel_rfl
theorem k_rcm1:rcR V Q i s h b [(20,true)]=some (ckL [(!isId i) == true],cm0 4):=by kernel_rfl
theorem k_rcm2:rcR V Q i s h b [(20,false),(37,true)]=some (ckL [(!isId i) == false,areB (ld0 s) 32 0,areB (ld0 s) 32 0,n9 (V (ld0 h) (ld0 s)) == true],cm0 9):=by kernel_rfl
theorem k_rcm3:rcR V Q i s h b [(20,false),(37,false),(40,true)]=some (ckL [(!isId i) == false,areB (ld0 s) 32 0,areB (ld0 s) 32 0,n9 (V (ld0 h) (ld0 s)) == false,n9 (V (ld0 b) (ld0 s)) == true],cm0 9):=by kernel_rfl
theorem k_rcm4:rcR V Q i s h b [(20,false),(37,false),(40,false)]=some (ckL [(!isId i) == false,areB (ld0 s) 32 0,areB (ld0 s) 32 0,n9 (V (ld0 h) (ld0 s)) == false,n9 (V (ld0 b) (ld0 s)) == false,areB (cmX (V (ld0 h) (ld0 s)) (V (ld0 b) (ld0 s))) 64 0],
  cm1 (V (ld0 h) (ld0 s)) (V (ld0 b) (ld0 s)) 0 (Q i (cmX (V (ld0 h) (ld0 s)) (V (ld0 b) (ld0 s)))).2):=by kernel_rfl
end
end Go.Proofs.YtfpkegodflloiaaGreat
namespace Go.Proofs.YtfpkegodflloiaaGreat
open Go.Proofs.Tryz
open Go Go.AM
theorem lf_app_lt:∀ (l r:List Int) (d:Nat),d < l.length → lf (l ++ r) d=lf l d
 | [],r,d,h=>by simp at h
 | x :: l,r,0,h=>rfl
 | x :: l,r,d+1,h=>lf_app_lt l r d (by simpa using h)
theorem lf_app_ge:∀ (l r:List Int) (d:Nat),lf (l ++ r) (l.length+d)=lf r d
 | [],r,d=>by simp
 | x :: l,r,d=>by
  have:=lf_app_ge l r d
  rw [List.length_cons,show l.length+1+d=(l.length+d)+1 by omega]
  exact this
theorem cmL_lo (H B:Int) {d:Nat} (h:d < 32):lf (cmL H B) d=lf (byL 32 H) d:=lf_app_lt _ _ _ h
theorem cmL_hi (H B:Int) (d:Nat):lf (cmL H B) (32+d)=lf (byL 32 B) d:=lf_app_ge (byL 32 H) (byL 32 B) d
theorem cmX_at (H B:Int) {d:Nat} (h:d < 64):cmX H B d=lf (cmL H B) d:=by
 have:=lf_tab (cmX H B) 64 0 d h
 rw [Nat.zero_add,cmX_tab] at this
 exact this.symm
theorem cmX_num {H B:Int} (hH:0 ≤ H ∧ H < ordL) (hB:0 ≤ B ∧ B < ordL):npA (cmX H B)=H ∧ npB (cmX H B)=B ∧ areB (cmX H B) 64 0=true:=by
 have bigO:∀ {x:Int},0 ≤ x ∧ x < ordL → 0 ≤ x ∧ x < R256:=fun {x} h=>by
  have e:=ord_mod x
  rwa [Int.emod_eq_of_lt h.1 h.2] at e
 refine ⟨?_,?_,areB_mk fun i hi=>?_⟩
 ·unfold npA
  rw [hval_congr (t:=lf (byL 32 H)) fun i hi=>by rw [Nat.zero_add,cmX_at H B (by omega),cmL_lo H B hi],hval_b32 (bigO hH).1 (bigO hH).2,Int.emod_eq_of_lt hH.1 hH.2]
 ·unfold npB
  rw [hval_congr (t:=lf (byL 32 B)) fun i hi=>by rw [Nat.zero_add,cmX_at H B (by omega),cmL_hi H B i],hval_b32 (bigO hB).1 (bigO hB).2,Int.emod_eq_of_lt hB.1 hB.2]
 ·rw [Nat.zero_add,cmX_at H B hi]
  by_cases h:i < 32
  ·rw [cmL_lo H B h]
   have:=areB_t (areB_b32 H) i h
   rwa [Nat.zero_add] at this
  ·rw [show i=32+(i - 32) by omega,cmL_hi]
   have:=areB_t (areB_b32 B) (i - 32) (by omega)
   rwa [Nat.zero_add] at this
def pQ (i:Int) (n:Nat → Int):Int × (Int × List Int):=(npE i n,(bif decide (npE i n=0) then i else 0,bif decide (npE i n=0) then byL 32 (expS (npA n)) ++ byL 32 (expS (npB n)) else byL 32 0 ++ byL 32 0))
theorem FQ3:LibOK prog tt (fq2G nnV (tPairG pQ)) []:=((((((L0.addT r_can9).addT r_rid).addT r_fid).addT r_rpa9).addT r_fpa).addT r_rno).addT r_fno
theorem c_fcm3:fnChk prog (envP tt (fq2G nnV (tPairG pQ)) []) f_frost_Commit=true:=by kernel_rfl
theorem c_rcm3:fnChk prog (envP tt (fq2G nnV (tPairG pQ)) []) f_rimeref09_Commit=true:=by kernel_rfl
def cmE (i H B:Int):Int:=bif isId i then (bif decide (H=0) || decide (B=0) then 9 else 0) else 4
def cmV (i H B:Int):AV:=.tup [.agg [.ints .u8 64 (lf (bif decide (cmE i H B=0) then cmL H B else cmL 0 0))],.agg [.ints .i64 1 (lf [bif decide (cmE i H B=0) then i else 0]),.ints .u8 64 (lf (bif decide (cmE i H B=0) then cmL (expS H) (expS B) else cmL 0 0))],.sc (.int .i64 (cmE i H B))]
noncomputable def tCommit:TF:=fun args=>match args with
 | [.sc (.int .i64 i),.agg [.ints .u8 32 s],.agg [.ints .u8 32 h],.agg [.ints .u8 32 b]]=>some (areB s 32 0,cmV i (nnV h s) (nnV b s))
 | _=>none
theorem cm1_rv {H B e i:Int} {n:Nat → Int} (h0:npE i n=0) (he:e=0) (hi:isId i=true) (hA:npA n=H) (hB:npB n=B) (h1:decide (H=0)=false) (h2:decide (B=0)=false):rvR (cm1 H B e (pQ i n).2) (cmV i H B)=true:=by
 have hE:cmE i H B=0:=by unfold cmE; rw [hi,h1,h2]; rfl
 have q1:(pQ i n).2=(i,cmL (expS H) (expS B)):=by
  unfold pQ
  rw [h0,hA,hB]; rfl
 unfold cmV
 rw [hE,q1,he]
 have q:eqN 64 (lf (tabL (lf (cmL (expS H) (expS B))) 64 0)) (lf (cmL (expS H) (expS B)))=true:=eqN_of fun d hd=>by
  have:=lf_tab (lf (cmL (expS H) (expS B))) 64 0 d hd
  rwa [Nat.zero_add] at this
 show rvR (.tup [.agg [.ints .u8 64 (lf (cmL H B))],.agg [.ints .i64 1 (lf [i]),.ints .u8 64 (lf (tabL (lf (cmL (expS H) (expS B))) 64 0))],.sc (.int .i64 0)]) (.tup [.agg [.ints .u8 64 (lf (cmL H B))],.agg [.ints .i64 1 (lf [i]),.ints .u8 64 (lf (cmL (expS H) (expS B)))],.sc (.int .i64 0)])=true
 generalize cmL (expS H) (expS B)=X at *
 simp only [rvR,twR,segR,svR,kEq_refl,nbeq_refl,eqN_refl,q,Bool.and_self,decide_true]
theorem cmV_id {i:Int} (h:isId i=false) (H B:Int):cmV i H B=cm0 4:=by
 have hE:cmE i H B=4:=by unfold cmE; rw [h]; rfl
 unfold cmV; rw [hE]; rfl
theorem cmV_0 {i H B:Int} (hi:isId i=true) (h:(decide (H=0) || decide (B=0))=true):cmV i H B=cm0 9:=by
 have hE:cmE i H B=9:=by unfold cmE; rw [hi,h]; rfl
 unfold cmV; rw [hE]; rfl
theorem r_fcm:TRow prog F_frost_Commit tCommit:=by
 intro args r hh
 unfold tCommit at hh
 split at hh
 case h_2=>simp at hh
 rename_i i s h b
 simp only [Option.some.injEq,Prod.mk.injEq] at hh
 obtain ⟨hs,rfl⟩:=hh
 have e1:=k_fcm1 nnV pQ i s h b
 have e2:=k_fcm2 nnV pQ i s h b
 have e3:=k_fcm3 nnV pQ i s h b
 have e4:=k_fcm4 nnV pQ i s h b
 have rH:=nnV_range h s
 have rB:=nnV_range b s
 rw [ld0_eq s,ld0_eq h,hs,n9_is] at e2 e3 e4
 rw [ld0_eq b,n9_is] at e3 e4
 generalize nnV h s=H at *
 generalize nnV b s=B at *
 cases h1:isId i with
 | false =>
  rw [h1] at e1
  rw [cmV_id h1]
  exact pure_of_out FQ3 at_frost_Commit c_fcm3 (N:=5) (gs:=[(19,true)]) e1
 | true =>
  rw [h1] at e2 e3 e4
  cases h2:decide (H=0) with
  | true =>
   rw [h2] at e2
   rw [cmV_0 h1 (by rw [h2]; rfl)]
   exact pure_of_out FQ3 at_frost_Commit c_fcm3 (N:=5) (gs:=[(19,false),(36,true)]) e2
  | false =>
   rw [h2] at e3 e4
   cases h3:decide (B=0) with
   | true =>
    rw [h3] at e3
    rw [cmV_0 h1 (by rw [h2,h3]; rfl)]
    exact pure_of_out FQ3 at_frost_Commit c_fcm3 (N:=5) (gs:=[(19,false),(36,false),(39,true)]) e3
   | false =>
    obtain ⟨x1,x2,x3⟩:=cmX_num rH rB
    have hE:npE i (cmX H B)=0:=by unfold npE; rw [h1,x1,x2,h2,h3]; rfl
    rw [h3,x3] at e4
    have hp:=pure_of_out FQ3 at_frost_Commit c_fcm3 (N:=5) (gs:=[(19,false),(36,false),(39,false)]) e4
    exact pure_rv hp (cm1_rv hE hE h1 x1 x2 h2 h3)
theorem r_rcm:TRow prog F_rimeref09_Commit tCommit:=by
 intro args r hh
 unfold tCommit at hh
 split at hh
 case h_2=>simp at hh
 rename_i i s h b
 simp only [Option.some.injEq,Prod.mk.injEq] at hh
 obtain ⟨hs,rfl⟩:=hh
 have e1:=k_rcm1 nnV pQ i s h b
 have e2:=k_rcm2 nnV pQ i s h b
 have e3:=k_rcm3 nnV pQ i s h b
 have e4:=k_rcm4 nnV pQ i s h b
 have rH:=nnV_range h s
 have rB:=nnV_range b s
 rw [ld0_eq s,ld0_eq h,hs,n9_is] at e2 e3 e4
 rw [ld0_eq b,n9_is] at e3 e4
 generalize nnV h s=H at *
 generalize nnV b s=B at *
 cases h1:isId i with
 | false =>
  rw [h1] at e1
  rw [cmV_id h1]
  exact pure_of_out FQ3 at_rimeref09_Commit c_rcm3 (N:=5) (gs:=[(20,true)]) e1
 | true =>
  rw [h1] at e2 e3 e4
  cases h2:decide (H=0) with
  | true =>
   rw [h2] at e2
   rw [cmV_0 h1 (by rw [h2]; rfl)]
   exact pure_of_out FQ3 at_rimeref09_Commit c_rcm3 (N:=5) (gs:=[(20,false),(37,true)]) e2
  | false =>
   rw [h2] at e3 e4
   cases h3:decide (B=0) with
   | true =>
    rw [h3] at e3
    rw [cmV_0 h1 (by rw [h2,h3]; rfl)]
    exact pure_of_out FQ3 at_rimeref09_Commit c_rcm3 (N:=5) (gs:=[(20,false),(37,false),(40,true)]) e3
   | false =>
    obtain ⟨x1,x2,x3⟩:=cmX_num rH rB
    have hE:npE i (cmX H B)=0:=by unfold npE; rw [h1,x1,x2,h2,h3]; rfl
    rw [h3,x3] at e4
    have hp:=pure_of_out FQ3 at_rimeref09_Commit c_rcm3 (N:=5) (gs:=[(20,false),(37,false),(40,false)]) e4
    exact pure_rv hp (cm1_rv hE rfl h1 x1 x2 h2 h3)
end Go.Proofs.YtfpkegodflloiaaGreat
namespace Go.Proofs.YtfpkegodflloiaaGreat
open Go.Proofs.Tryz
open Go Go.AM
theorem lf_byLN:∀ (n:Nat) (K i:Nat),i < n → lf (byL n (K:Int)) i=((K / 256 ^ i % 256:Nat):Int)
 | 0,K,i,h=>by omega
 | n+1,K,0,h=>by
  show ((K:Int) % 256)=_
  rw [Nat.pow_zero,Nat.div_one]; rfl
 | n+1,K,i+1,h=>by
  show lf (byL n ((K:Int) / 256)) i=_
  have:=lf_byLN n (K / 256) i (by omega)
  rw [show ((K:Int) / 256)=((K / 256:Nat):Int) by omega,this,Nat.div_div_eq_div_mul,Nat.pow_succ,Nat.mul_comm 256]
theorem nib_of (K i:Nat) (hi:i < 64):nib (lf (byL 32 (K:Int))) i=((K / 16 ^ i % 16:Nat):Int):=by
 unfold nib
 rw [lf_byLN 32 K (i / 2) (by omega)]
 have e:(256:Nat) ^ (i / 2)=16 ^ (2 * (i / 2)):=by rw [Nat.pow_mul]
 rcases Nat.mod_two_eq_zero_or_one i with h | h
 ·rw [h,e,show 2 * (i / 2)=i by omega]
  generalize K / 16 ^ i=x
  show (((x % 256:Nat):Int) / 2 ^ 0 % 16)=_
  rw [Int.pow_zero,Int.ediv_one]
  omega
 ·rw [h,e,show i=2 * (i / 2)+1 by omega,Nat.pow_succ,← Nat.div_div_eq_div_mul,show 2 * ((2 * (i / 2)+1) / 2)=2 * (i / 2) by omega]
  generalize K / 16 ^ (2 * (i / 2))=x
  show (((x % 256:Nat):Int) / 2 ^ 4 % 16)=_
  rw [show (2:Int) ^ 4=16 by decide]
  omega
theorem is_tb {q:Q4} {p:EP} (h:Is q p):∀ j,Is (tbS q j) (EP.nsm j p)
 | 0=>is_id
 | j+1=>is_add (is_tb h j) h
theorem nsm_2 (n:Nat) (p:EP):(EP.nsm n p).add (EP.nsm n p)=EP.nsm (2 * n) p:=by rw [← EP.nsm_add,Nat.two_mul]
theorem is_tm {q:Q4} {p:EP} (h:Is q p) (K:Nat) (hK:K < 16 ^ 64):∀ k,k ≤ 64 → Is (tmSp q (lf (byL 32 (K:Int))) k) (EP.nsm (K / 16 ^ (64 - k)) p)
 | 0,_=>by
  rw [Nat.div_eq_of_lt (by simpa using hK)]
  exact is_id
 | k+1,hk=>by
  have ih:=is_tm h K hK k (by omega)
  have h1:=is_dbl ih
  rw [nsm_2] at h1
  have h2:=is_dbl h1
  rw [nsm_2] at h2
  have h3:=is_dbl h2
  rw [nsm_2] at h3
  have h4:=is_dbl h3
  rw [nsm_2] at h4
  have en:=nib_of K (63 - k) (by omega)
  have e0:K / 16 ^ (64 - (k+1))=2 * (2 * (2 * (2 * (K / 16 ^ (64 - k)))))+K / 16 ^ (63 - k) % 16:=by
   rw [show 64 - (k+1)=63 - k by omega,show 64 - k=(63 - k)+1 by omega,Nat.pow_succ,← Nat.div_div_eq_div_mul]
   omega
  unfold tmSp
  rw [e0,en]
  by_cases hz:K / 16 ^ (63 - k) % 16=0
  ·rw [hz,Nat.add_zero]
   exact h4
  ·rw [decide_eq_true (show ((K / 16 ^ (63 - k) % 16:Nat):Int) > 0 by omega),EP.nsm_add]
   show Is (addS _ (tbS q ((K / 16 ^ (63 - k) % 16:Nat):Int).toNat)) _
   rw [Int.toNat_natCast]
   exact is_add h4 (is_tb h _)
theorem is_mul {q:Q4} {p:EP} (h:Is q p) {k:Int} (h0:0 ≤ k) (h1:k < R256):Is (mulS q k) (EP.nsm k.toNat p):=by
 have hK:k.toNat < 16 ^ 64:=by
  have:R256=((16 ^ 64:Nat):Int):=by decide
  rw [this] at h1
  omega
 have:=is_tm h k.toNat hK 64 (Nat.le_refl _)
 rw [Int.toNat_of_nonneg h0,Nat.sub_self,Nat.pow_zero,Nat.div_one] at this
 exact this
def encP (p:EP):Int:=(p.y.val:Int)+(p.x.val:Int) % 2 * 57896044618658097711785492504343953926634992332820282019728792003956564819968
theorem val_of {x:Int} (hx:inP x) {a:FF} (h:fq x=a):x=(a.val:Int):=by
 rw [← h,fq_val,md_id hx]
theorem form_i {X Y z:Int} {p:EP} (h1:fq X * fq z=p.x) (h2:fq Y * fq z=p.y):mM Y z+mM X z % 2 * 57896044618658097711785492504343953926634992332820282019728792003956564819968=encP p:=by
 rw [val_of (mM_in Y z) (by rw [fq_mul,h2]),val_of (mM_in X z) (by rw [fq_mul,h1])]
 rfl
theorem form_is {q:Q4} {p:EP} (h:Is q p):formS q=encP p:=by
 have hz:fq q.2.2.1 * fq (invM q.2.2.1)=1:=inv_fq rfl h.on.on.z
 unfold formS
 generalize invM q.2.2.1=w at *
 refine form_i ?_ ?_
 ·rw [h.x]
  have:p.x * fq q.2.2.1 * fq w=p.x * (fq q.2.2.1 * fq w):=by grind
  rw [this,hz]; grind
 ·rw [h.y]
  have:p.y * fq q.2.2.1 * fq w=p.y * (fq q.2.2.1 * fq w):=by grind
  rw [this,hz]; grind
end Go.Proofs.YtfpkegodflloiaaGreat
namespace Go.Proofs.YtfpkegodflloiaaGreat
open Go.Proofs.Tryz
open Go Go.AM
def eE:Nat:=7237005577332262213973186563042994240829374041602535252466099000494570602493
def pmq:Nat:=14474011154664524427946373126085988481658748083205070504932198000989141204987
theorem pmq_e:2 * eE+1=pmq:=by decide
theorem pmq_h:2 * pmq=pmh:=by decide
theorem iM_sq:fq iM * fq iM=-1:=by decide +kernel
theorem half_pm {a:FF} (h:a ≠ 0):fpow a pmh=1 ∨ fpow a pmh=-1:=by
 have e:fpow a pmh * fpow a pmh=1:=by rw [← fpow_add,← Nat.two_mul,pmh_2]; exact fpow_pm1 h
 have k:(fpow a pmh - 1) * (fpow a pmh+1)=0:=by
  generalize fpow a pmh=s at *
  grind
 rcases mul_zero_or k with q | q
 ·left
  generalize fpow a pmh=s at *
  grind
 ·right
  generalize fpow a pmh=s at *
  grind
theorem root_i {u v r c e x k:FF} (hu:u=v * (x * x)) (hr:r=u * (v * v * v) * e) (he:c=u * (v * v * v * (v * v * v) * v)) (hk:e * e * c=k):v * (r * r)=u * k:=by
 rw [← hk,hr,he]
 clear hk hr he
 subst hu
 grind
theorem pw_form {v x:FF}:v * (x * x) * (v * v * v * (v * v * v) * v)=(x * (v * v) * (v * v)) * (x * (v * v) * (v * v)):=by grind
theorem root_any {u v:Int} {x:FF} (hv:fq v ≠ 0) (hx:fq v * (x * x)=fq u) (hu:inP u) :
  Nat.ble (rootM u v) 1=true ∧ (fq (rootX u v (rootM u v))=x ∨ fq (rootX u v (rootM u v))=0 - x):=by
 have e0:fq (rootX u v 0)=fq u * (fq v * fq v * fq v) * fpow (fq u * (fq v * fq v * fq v * (fq v * fq v * fq v) * fq v)) eE:=by
  show fq (mM (mM u (mM (mM v v) v)) (powM (mM u (mM (mM (mM (mM v v) v) (mM (mM v v) v)) v)) eE))=_
  rw [fq_mul,fq_pow]
  simp only [fq_mul]
 have k1:fq v * (fq (rootX u v 0) * fq (rootX u v 0))=fq u ∨ fq v * (fq (rootX u v 0) * fq (rootX u v 0))=0 - fq u:=by
  have hc:fpow (fq u * (fq v * fq v * fq v * (fq v * fq v * fq v) * fq v)) eE * fpow (fq u * (fq v * fq v * fq v * (fq v * fq v * fq v) * fq v)) eE * (fq u * (fq v * fq v * fq v * (fq v * fq v * fq v) * fq v))=fpow (fq u * (fq v * fq v * fq v * (fq v * fq v * fq v) * fq v)) pmq:=by
   rw [← fpow_add,← Nat.two_mul]
   conv=>lhs; rhs; rw [← fpow_one (fq u * (fq v * fq v * fq v * (fq v * fq v * fq v) * fq v))]
   rw [← fpow_add,pmq_e]
  have h1:=root_i hx.symm e0 rfl hc
  have h2:fpow (fq u * (fq v * fq v * fq v * (fq v * fq v * fq v) * fq v)) pmq=fpow (x * (fq v * fq v) * (fq v * fq v)) pmh:=by
   rw [← hx,pw_form,fpow_sq,pmq_h]
  rw [h2] at h1
  rw [h1]
  by_cases hz:x=0
  ·left
   have:fq u=0:=by rw [← hx,hz]; grind
   rw [this]; grind
  ·rcases half_pm (mul_ne (mul_ne hz (mul_ne hv hv)) (mul_ne hv hv)) with q | q
   ·left; rw [q]; grind
   ·right; rw [q]; grind
 have ok:∀ t,fq v * (fq t * fq t)=fq u → rootOk u v t=true:=fun t h=>decide_eq_true (fq_inj (mM_in _ _) hu (by rw [fq_mul,fq_mul]; exact h))
 have okc:∀ t,rootOk u v t=true → fq t=x ∨ fq t=0 - x:=fun t h=>by
  have h:=congrArg fq (of_decide_eq_true h)
  rw [fq_mul,fq_mul,← hx] at h
  have k:fq v * ((fq t - x) * (fq t+x))=0:=by
   generalize fq t=r at *
   generalize fq v=w at *
   clear k1 e0 ok
   grind
  rcases mul_zero_or k with q | q
  ·exact absurd q hv
  ·rcases mul_zero_or q with q | q
   ·left; generalize fq t=r at *; clear k1 e0 ok h k; grind
   ·right; generalize fq t=r at *; clear k1 e0 ok h k; grind
 have key:rootOk u v (rootX u v 0)=true ∨ rootOk u v (rootX u v 1)=true:=by
  rcases k1 with q | q
  ·exact .inl (ok _ q)
  ·right
   refine ok _ ?_
   show fq v * (fq (mM (rootX u v 0) iM) * fq (mM (rootX u v 0) iM))=fq u
   rw [fq_mul]
   have hi:=iM_sq
   generalize fq (rootX u v 0)=r at *
   generalize fq iM=i at *
   clear e0 ok okc
   have:fq v * (r * i * (r * i))=fq v * (r * r) * (i * i):=by grind
   rw [this,q,hi]; grind
 unfold rootM
 cases h0:rootOk u v (rootX u v 0) with
 | true=>exact ⟨rfl,okc _ h0⟩
 | false =>
  cases h1:rootOk u v (rootX u v 1) with
  | true=>exact ⟨rfl,okc _ h1⟩
  | false=>rw [h0,h1] at key; rcases key with q | q <;> cases q
theorem g_ne {d y:FF} (hy:y=0) (h:d * (y * y)+1=0):(1:FF)=0:=by
 have e:d * (y * y)+1=1+d * (y * y):=by grind
 rw [e,hy] at h
 have e2:(1:FF)+d * (0 * 0)=1:=by generalize (1:FF)=o at *; grind
 rw [e2] at h
 exact h
theorem v_ne (y:FF):dF * (y * y)+1 ≠ 0:=fun h=>by
 by_cases hy:y=0
 ·exact f01 (g_ne hy h)
 ·obtain ⟨z,hz⟩:=inv_ex hy
  have hi:=iF_sq
  have nd:=dF_nsq (iF * z)
  generalize dF=d at *
  generalize iF=i at *
  refine nd ?_
  have e1:(d * (y * y)+1) * (z * z)=d * ((y * z) * (y * z))+z * z:=by grind
  rw [h,hz] at e1
  have e2:i * z * (i * z)=(i * i) * (z * z):=by grind
  rw [e2]
  grind
theorem okBd {e v:Int} (hm:Nat.ble (opM e) 1=true) (hy:opY e < pP) (ho:opOdd e=decide (v % 2=1)) (hx:opX e=0 → v=0):opOk e=true:=by
 unfold opOk
 generalize opX e=X at *
 generalize opM e=M at *
 rw [hm,decide_eq_true hy,ho]
 by_cases h0:X=0
 ·rw [hx h0]; simp
 ·rw [decide_eq_false h0]; simp
theorem val_lt (a:FF):0 ≤ (a.val:Int) ∧ (a.val:Int) < pP:=by
 have:=a.isLt
 rw [pP_PN]
 omega
theorem fq_of_val (a:FF):fq (a.val:Int)=a:=fq_ext (by rw [fq_val,md_id (val_lt a)])
theorem op_enc (p:EP):opY (encP p)=(p.y.val:Int) ∧ opOdd (encP p)=decide ((p.x.val:Int) % 2=1):=by
 have h1:=val_lt p.y
 have hb:(p.x.val:Int) % 2=0 ∨ (p.x.val:Int) % 2=1:=by omega
 unfold opY opOdd encP
 unfold pP at h1
 rcases hb with h | h
 ·rw [h]
  refine ⟨by omega,?_⟩
  rw [decide_eq_false (by omega),decide_eq_false (by omega)]
 ·rw [h]
  refine ⟨by omega,?_⟩
  rw [decide_eq_true (by omega),decide_eq_true (by omega)]
theorem m_one (x:FF):x=x * 1:=by grind
theorem s00:(0:FF) - 0=0:=by decide
theorem opU_fq (p:EP):fq (opU (encP p))=p.y * p.y - 1:=by
 have hyy:fq (opY (encP p))=p.y:=by rw [(op_enc p).1,fq_of_val]
 unfold opU; rw [fq_sub,fq_mul,hyy,fq_1]
theorem opV_fq (p:EP):fq (opV (encP p))=dF * (p.y * p.y)+1:=by
 have hyy:fq (opY (encP p))=p.y:=by rw [(op_enc p).1,fq_of_val]
 unfold opV; rw [fq_add,fq_mul,fq_mul,hyy,fq_1]; rfl
theorem root_enc {a b:Int} {p:EP} (hU:fq a=p.y * p.y - 1) (hV:fq b=dF * (p.y * p.y)+1) (hu:inP a) :
  Nat.ble (rootM a b) 1=true ∧ (fq (rootX a b (rootM a b))=p.x ∨ fq (rootX a b (rootM a b))=0 - p.x) :=
 root_any (u:=a) (v:=b) (x:=p.x) (by rw [hV]; exact v_ne p.y) (by
  rw [hU,hV]
  have:=p.c
  generalize dF=d at *
  generalize p.x=x at *
  generalize p.y=y at *
  clear hU hV
  grind) hu
theorem opX_enc (p:EP):Nat.ble (opM (encP p)) 1=true ∧ (fq (opX (encP p))=p.x ∨ fq (opX (encP p))=0 - p.x) :=
 root_enc (opU_fq p) (opV_fq p) (mS_in _ _)
theorem x_cases {X:Int} {x:FF} (hxi:inP X) (hx:fq X=x ∨ fq X=0 - x):X=(x.val:Int) ∨ (x.val ≠ 0 ∧ X=pP - (x.val:Int)):=by
 have hvx:=val_lt x
 rcases hx with q | q
 ·exact .inl (val_of hxi q)
 ·by_cases h0:x.val=0
  ·left
   have e:x=0:=Fin.ext h0
   rw [e] at q
   rw [h0]
   exact (fq_zero hxi).1 (q.trans s00)
  ·right
   refine ⟨h0,?_⟩
   refine fq_inj hxi ⟨by omega,by omega⟩ ?_
   rw [q]
   have e:fq (mS pP (x.val:Int))=fq pP - fq (x.val:Int):=fq_sub _ _
   rw [fq_of_val,show fq pP=0 by decide +kernel] at e
   rw [← e]
   exact fq_eq (by unfold mS; rw [md_md])
theorem opX_v (p:EP):opX (encP p)=(p.x.val:Int) ∨ (p.x.val ≠ 0 ∧ opX (encP p)=pP - (p.x.val:Int)) :=
 x_cases (rootX_in _ _ _) (opX_enc p).2
theorem ok_enc (p:EP):opOk (encP p)=true :=
 okBd (v:=(p.x.val:Int)) (opX_enc p).1 (by rw [(op_enc p).1]; exact (val_lt p.y).2) (op_enc p).2 (fun h0=>by
  have:=val_lt p.x
  rcases opX_v p with q | ⟨_,q⟩ <;> omega)
theorem xs_enc {X:Int} {x:FF} (h:X=(x.val:Int) ∨ (x.val ≠ 0 ∧ X=pP - (x.val:Int))) :
  fq (bif decide (X % 2=1) != decide ((x.val:Int) % 2=1) then mS 0 X else X)=x:=by
 have hvx:=val_lt x
 have hp2:pP % 2=1:=by decide
 rcases h with q | ⟨hn,q⟩
 ·rw [q,bne_self_eq_false,cond_false]
  exact fq_of_val _
 ·have hne:(decide (X % 2=1) != decide ((x.val:Int) % 2=1))=true:=by
   rcases (show (x.val:Int) % 2=0 ∨ (x.val:Int) % 2=1 by omega) with h | h
   ·rw [decide_eq_true (show X % 2=1 by omega),decide_eq_false (show ¬ (x.val:Int) % 2=1 by omega)]; rfl
   ·rw [decide_eq_false (show ¬ X % 2=1 by omega),decide_eq_true h]; rfl
  rw [hne,cond_true,fq_sub,fq_0,q]
  have e:fq (mS pP (x.val:Int))=fq pP - fq (x.val:Int):=fq_sub _ _
  rw [fq_of_val,show fq pP=0 by decide +kernel] at e
  have e2:fq (pP - (x.val:Int))=0 - x:=by rw [← e]; exact fq_eq (by unfold mS; rw [md_md])
  rw [e2]
  clear e e2 hne
  generalize (0:FF)=z
  grind
theorem open_enc (p:EP):opOk (encP p)=true ∧ Is (openS (encP p)) p:=by
 have hxs:fq (opXs (encP p))=p.x:=by
  have h:=xs_enc (opX_v p)
  unfold opXs
  rw [(op_enc p).2]
  exact h
 have hyy:fq (opY (encP p))=p.y:=by rw [(op_enc p).1,fq_of_val]
 have hok:=ok_enc p
 refine ⟨hok,openS_on hok,?_,?_⟩
 ·show fq (opXs (encP p))=p.x * fq 1
  rw [hxs,fq_1]
  exact m_one _
 ·show fq (opY (encP p))=p.y * fq 1
  rw [hyy,fq_1]
  exact m_one _
theorem enc_inj {p q:EP} (h:encP p=encP q):p=q:=by
 have h1:=(open_enc p).2
 rw [h] at h1
 exact h1.unique (open_enc q).2
theorem enc_range (p:EP):0 ≤ encP p ∧ encP p < R256:=by
 have h1:=val_lt p.y
 unfold encP
 unfold pP at h1
 have:R256=115792089237316195423570985008687907853269984665640564039457584007913129639936:=rfl
 omega
end Go.Proofs.YtfpkegodflloiaaGreat
namespace Go.Proofs.YtfpkegodflloiaaGreat
open Go.Proofs.Tryz
open Go Go.AM
theorem enc_zero:encP EP.zero=1:=by decide
theorem ord_range:0 ≤ ordL ∧ ordL < R256:=by decide
def bP:EP:=⟨fq bxI,fq byI,by decide +kernel⟩
theorem b_on:On4 baseS:=⟨by decide,by decide,by decide,by decide +kernel,by decide +kernel,by decide +kernel,by decide +kernel⟩
theorem b_is:Is baseS bP:=⟨b_on,by decide +kernel,by decide +kernel⟩
theorem b_ne:bP ≠ EP.zero:=fun h=>by
 have e:=congrArg encP h
 rw [enc_zero] at e
 exact absurd e (by decide +kernel)
end Go.Proofs.YtfpkegodflloiaaGreat
namespace Go.Proofs.YtfpkegodflloiaaGreat
open Go.Proofs.Tryz
open Go Go.AM
def nI (k:Int) (p:EP):EP:=EP.nsm k.toNat p
theorem nI_add {a b:Int} (ha:0 ≤ a) (hb:0 ≤ b) (p:EP):nI (a+b) p=(nI a p).add (nI b p):=by
 unfold nI
 rw [Int.toNat_add ha hb,EP.nsm_add]
theorem exp_enc {K:Int} (h0:0 < K) (h1:K < ordL):expS K=encP (nI K bP):=by
 have hr:=ord_range.2
 unfold expS
 rw [decide_eq_false (by omega)]
 exact form_is (is_mul b_is (by omega) (by omega))
end Go.Proofs.YtfpkegodflloiaaGreat
namespace Go.Proofs.YtfpkegodflloiaaGreat
open Go.Proofs.Tryz
open Go Go.AM
def tCL0:TF:=fun args=>match args with
 | [.sc .nils]=>some (true,.sc (.int .i64 8))
 | _=>none
theorem c_cl0:fnChk prog (envP tt [] []) f_frost_CheckList=true:=by kernel_rfl
theorem r_cl0:TRow prog F_frost_CheckList tCL0:=by
 intro args r h
 unfold tCL0 at h
 split at h
 case h_2=>simp at h
 simp only [Option.some.injEq,Prod.mk.injEq,true_and] at h
 subst h
 exact pure_of_out L0 at_frost_CheckList c_cl0 (N:=5) (gs:=[]) (by kernel_rfl)
def tExpX (X:Int → Int):TF:=fun args=>match args with
 | [.agg [.ints .u8 32 s]]=>some (areB s 32 0,.tup [b32 (X (hval s 32 0 % ordL)),.sc (.int .i64 (bif decide (hval s 32 0 % ordL=0) then 9 else 0))])
 | _=>none
theorem c_num9:fnChk prog (envP tt [] []) f_rimelaw09_num=true:=by kernel_rfl
noncomputable def al0 (Q:Int → (Nat → Int) → Int × (Int × List Int)) (X:Int → Int):List (Nat × TF):=[(F_frost_CheckList,tCL0),(F_rimelaw09_num,sT (envP tt [] []) [] 5 f_rimelaw09_num),(F_frost_Pair,tPairG Q),(F_rimeref06_Exp,tExpX X)]
theorem AL0:LibOK prog tt (al0 pQ expS) []:=(((L0.addT r_expR).addT r_fpa).addT (sT_row L0 at_rimelaw09_num [] 5 c_num9)).addT r_cl0
def alN:Nat → Int:=fun d=>bif Nat.ble 32 d && Nat.ble (d+1) 64 then bif Nat.ble 0 (d - 32) && Nat.ble (d - 32+1) 1 then 2 else 0 else bif Nat.ble 0 d && Nat.ble (d+1) 32 then bif Nat.ble 0 (d - 0) && Nat.ble (d - 0+1) 1 then 1 else 0 else 0
def alO:Nat → Int:=fun d=>bif Nat.ble 0 d && Nat.ble (d+1) 1 then 1 else 0
def alH (L:List Int) (k:Nat):Nat → Int:=fun j=>bif Nat.ble 0 (k+j) && Nat.ble (k+j+1) 64 then lf L (k+j - 0) else 0
theorem c_ali (Q:Int → (Nat → Int) → Int × (Int × List Int)) (X:Int → Int):fnChk prog (envP tt (al0 Q X) []) f_rimelaw09_alive=true:=by kernel_rfl
theorem k_ali (Q:Int → (Nat → Int) → Int × (Int × List Int)) (X:Int → Int):outP (apFunc (envP tt (al0 Q X) []) [(20,true),(25,true),(31,true),(37,true)] 5 f_rimelaw09_alive [] []) =
  some (ckL [((Q 1 alN).1 == 0) == true,((Q 1 alN).2.1 == 1) == true,(eqN 32 (alH (Q 1 alN).2.2 0) (gz 32 (lf (byL 32 (X (hval alO 32 0 % ordL))))) && true) == true,(!(eqN 32 (alH (Q 1 alN).2.2 32) (gz 32 (lf (byL 32 (X (hval alO 32 0 % ordL))))) && true)) == true],.sc (.bool true)):=by kernel_rfl
theorem pQ_ali:pQ 1 alN=(0,(1,cmL (expS 1) (expS 2))):=by
 have hA:npA alN=1:=by decide +kernel
 have hB:npB alN=2:=by decide +kernel
 unfold pQ npE
 rw [hA,hB]; rfl
theorem exp_12:expS 2 ≠ expS 1:=fun h=>by
 rw [exp_enc (by decide) (by decide),exp_enc (by decide) (by decide)] at h
 have h:=enc_inj h
 have e:nI 2 bP=(nI 1 bP).add (nI 1 bP):=nI_add (a:=1) (b:=1) (by decide) (by decide) bP
 have e1:nI 1 bP=bP:=EP.nsm_one bP
 rw [e,e1] at h
 have h2:=congrArg (fun p=>EP.add p (EP.neg bP)) h
 simp only [EP.add_assoc,EP.add_neg,EP.add_zero] at h2
 exact b_ne h2
theorem r_alive:TRow prog F_rimelaw09_alive (k0T (.sc (.bool true))):=by
 intro args r h
 unfold k0T at h
 split at h
 case h_2=>simp at h
 simp only [Option.some.injEq,Prod.mk.injEq,true_and] at h
 subst h
 have e:=k_ali pQ expS
 have h1:hval alO 32 0 % ordL=1:=by decide +kernel
 have r1:=enc_range (nI 1 bP)
 have r2:=enc_range (nI 2 bP)
 have x1:0 ≤ expS 1 ∧ expS 1 < R256:=by rw [exp_enc (by decide) (by decide)]; exact r1
 have x2:0 ≤ expS 2 ∧ expS 2 < R256:=by rw [exp_enc (by decide) (by decide)]; exact r2
 have ne:=exp_12
 rw [pQ_ali,h1] at e
 generalize expS 1=A at *
 generalize expS 2=B at *
 have lo:eqN 32 (alH (cmL A B) 0) (gz 32 (lf (byL 32 A)))=true:=eqN_of fun d hd=>by
  rw [gz_at hd]
  unfold alH
  rw [show Nat.ble 0 (0+d)=true from Nat.ble_eq_true_of_le (Nat.zero_le _),bls_t (show 0+d < 64 by omega),Nat.zero_add,Nat.sub_zero]
  exact cmL_lo A B hd
 have hi:eqN 32 (alH (cmL A B) 32) (gz 32 (lf (byL 32 A)))=false:=by
  rw [show eqN 32 (alH (cmL A B) 32) (gz 32 (lf (byL 32 A)))=eqN 32 (lf (byL 32 B)) (gz 32 (lf (byL 32 A))) from eqN_congr fun d hd=>by
   unfold alH
   rw [show Nat.ble 0 (32+d)=true from Nat.ble_eq_true_of_le (Nat.zero_le _),bls_t (show 32+d < 64 by omega),Nat.sub_zero]
   exact cmL_hi A B d,eqN_symm,eqN_congr (f':=lf (byL 32 A)) fun d hd=>gz_at hd,eqN_by x1 x2]
  exact decide_eq_false fun h=>ne h.symm
 rw [lo,hi] at e
 exact pure_of_out AL0 at_rimelaw09_alive (c_ali _ _) (N:=5) (gs:=[(20,true),(25,true),(31,true),(37,true)]) e
end Go.Proofs.YtfpkegodflloiaaGreat
namespace Go.Proofs.YtfpkegodflloiaaGreat
open Go.Proofs.Tryz
open Go Go.AM
def tCommitG (C:Int → (Nat → Int) → (Nat → Int) → (Nat → Int) → List Int × (Int × (List Int × Int))):TF:=fun args=>match args with
 | [.sc (.int .i64 i),.agg [.ints .u8 32 s],.agg [.ints .u8 32 h],.agg [.ints .u8 32 b]]=>some (areB s 32 0,.tup [.agg [.ints .u8 64 (lf (C i s h b).1)],.agg [.ints .i64 1 (lf [(C i s h b).2.1]),.ints .u8 64 (lf (C i s h b).2.2.1)],.sc (.int .i64 (C i s h b).2.2.2)])
 | _=>none
noncomputable def ln0 (V:(Nat → Int) → (Nat → Int) → Int) (C:Int → (Nat → Int) → (Nat → Int) → (Nat → Int) → List Int × (Int × (List Int × Int))) (Q:Int → (Nat → Int) → Int × (Int × List Int)):List (Nat × TF) :=
 [(F_rimelaw09_alive,k0T (.sc (.bool true))),(F_rimelaw09_num,sT (envP tt [] []) [] 5 f_rimelaw09_num),(F_frost_Nonce,tNonceG V),(F_rimeref09_Nonce,tNonceG V),(F_frost_Commit,tCommitG C),(F_rimeref09_Commit,tCommitG C),(F_frost_Pair,tPairG Q),(F_rimeref09_Pair,tPairG Q)]
noncomputable def pC (i:Int) (s h b:Nat → Int):List Int × (Int × (List Int × Int)):=(bif decide (cmE i (nnV h s) (nnV b s)=0) then cmL (nnV h s) (nnV b s) else cmL 0 0,(bif decide (cmE i (nnV h s) (nnV b s)=0) then i else 0,(bif decide (cmE i (nnV h s) (nnV b s)=0) then cmL (expS (nnV h s)) (expS (nnV b s)) else cmL 0 0,cmE i (nnV h s) (nnV b s))))
theorem LN0:LibOK prog tt (ln0 nnV pC pQ) []:=(((((((L0.addT r_rpa9).addT r_fpa).addT r_rcm).addT r_fcm).addT r_rno).addT r_fno).addT (sT_row L0 at_rimelaw09_num [] 5 c_num9)).addT r_alive
theorem ln_c (V:(Nat → Int) → (Nat → Int) → Int) (C:Int → (Nat → Int) → (Nat → Int) → (Nat → Int) → List Int × Int × List Int × Int) (Q:Int → (Nat → Int) → Int × Int × List Int) (i:Int) (s:Nat → Int) (a:Nat → Int) (b:Nat → Int) (n:Nat → Int):fnChk prog (envP tt (ln0 V C Q) []) f_rimelaw09_FrostNonces=true:=by kernel_rfl
theorem ln_k1 (V:(Nat → Int) → (Nat → Int) → Int) (C:Int → (Nat → Int) → (Nat → Int) → (Nat → Int) → List Int × Int × List Int × Int) (Q:Int → (Nat → Int) → Int × Int × List Int) (i:Int) (s:Nat → Int) (a:Nat → Int) (b:Nat → Int) (n:Nat → Int):outP (apFunc (envP tt (ln0 V C Q) []) [(70,true),(76,true),(81,true),(86,true),(92,true),(97,true),(103,true)] 5 f_rimelaw09_FrostNonces [AV.sc (SV.int IntKind.i64 i),AV.agg [Seg.ints IntKind.u8 32 s],AV.agg [Seg.ints IntKind.u8 32 a],AV.agg [Seg.ints IntKind.u8 32 b],AV.agg [Seg.ints IntKind.u8 64 n]] []) =
  some (ckL [areB (fun j=>s (0+j)) 32 0,areB (fun j=>s (0+j)) 32 0,areB (fun j=>s (0+j)) 32 0,areB (fun j=>s (0+j)) 32 0,areB (fun j=>n (0+j)) 64 0,areB (fun j=>n (0+j)) 64 0,((eqN 32 (fun j=>bif Nat.ble 0 (0+j) && Nat.ble (0+j+1) 32 then lf (byL 32 (V (fun j=>a (0+j)) fun j=>s (0+j))) (0+j - 0) else 0) fun j=>bif Nat.ble 0 (0+j) && Nat.ble (0+j+1) 32 then lf (byL 32 (V (fun j=>a (0+j)) fun j=>s (0+j))) (0+j - 0) else 0) && true) == true,((bif decide ((V (fun j=>a (0+j)) fun j=>s (0+j))=0) then (9:Int) else 0) == bif decide ((V (fun j=>a (0+j)) fun j=>s (0+j))=0) then (9:Int) else 0) == true,((eqN 64 (fun j=>bif Nat.ble 0 (0+j) && Nat.ble (0+j+1) 64 then lf (Prod.fst (C i (fun j=>s (0+j)) (fun j=>a (0+j)) fun j=>b (0+j))) (0+j - 0) else 0) fun j=>bif Nat.ble 0 (0+j) && Nat.ble (0+j+1) 64 then lf (Prod.fst (C i (fun j=>s (0+j)) (fun j=>a (0+j)) fun j=>b (0+j))) (0+j - 0) else 0) && true) == true,((eqN 1 (fun j=>bif Nat.ble 0 (0+j) && Nat.ble (0+j+1) 1 then lf [(C i (fun j=>s (0+j)) (fun j=>a (0+j)) fun j=>b (0+j)).2.1] (0+j - 0) else 0) fun j=>bif Nat.ble 0 (0+j) && Nat.ble (0+j+1) 1 then lf [(C i (fun j=>s (0+j)) (fun j=>a (0+j)) fun j=>b (0+j)).2.1] (0+j - 0) else 0) && ((eqN 64 (fun d=>bif Nat.ble (0+lenS [Seg.ints IntKind.i64 1 (lf [(C i (fun j=>s (0+j)) (fun j=>a (0+j)) fun j=>b (0+j)).2.1])] - 1) d && Nat.ble (d+1) (0+lenS [Seg.ints IntKind.i64 1 (lf [(C i (fun j=>s (0+j)) (fun j=>a (0+j)) fun j=>b (0+j)).2.1])] - 1+64) then lf (Prod.fst (Prod.snd (Prod.snd (C i (fun j=>s (0+j)) (fun j=>a (0+j)) fun j=>b (0+j))))) (d - (0+lenS [Seg.ints IntKind.i64 1 (lf [(C i (fun j=>s (0+j)) (fun j=>a (0+j)) fun j=>b (0+j)).2.1])] - 1)) else 0) fun d=>bif Nat.ble (0+lenS [Seg.ints IntKind.i64 1 (lf [(C i (fun j=>s (0+j)) (fun j=>a (0+j)) fun j=>b (0+j)).2.1])] - 1) d && Nat.ble (d+1) (0+lenS [Seg.ints IntKind.i64 1 (lf [(C i (fun j=>s (0+j)) (fun j=>a (0+j)) fun j=>b (0+j)).2.1])] - 1+64) then lf (Prod.fst (Prod.snd (Prod.snd (C i (fun j=>s (0+j)) (fun j=>a (0+j)) fun j=>b (0+j))))) (d - (0+lenS [Seg.ints IntKind.i64 1 (lf [(C i (fun j=>s (0+j)) (fun j=>a (0+j)) fun j=>b (0+j)).2.1])] - 1)) else 0) && true)) == true,((Prod.snd (C i (fun j=>s (0+j)) (fun j=>a (0+j)) fun j=>b (0+j))).2.2 == (Prod.snd (C i (fun j=>s (0+j)) (fun j=>a (0+j)) fun j=>b (0+j))).2.2) == true,((eqN 1 (fun j=>bif Nat.ble 0 (0+j) && Nat.ble (0+j+1) 1 then lf [(Q i fun j=>n (0+j)).2.1] (0+j - 0) else 0) fun j=>bif Nat.ble 0 (0+j) && Nat.ble (0+j+1) 1 then lf [(Q i fun j=>n (0+j)).2.1] (0+j - 0) else 0) && ((eqN 64 (fun d=>bif Nat.ble (0+lenS [Seg.ints IntKind.i64 1 (lf [(Q i fun j=>n (0+j)).2.1])] - 1) d && Nat.ble (d+1) (0+lenS [Seg.ints IntKind.i64 1 (lf [(Q i fun j=>n (0+j)).2.1])] - 1+64) then lf (Prod.snd (Prod.snd (Q i fun j=>n (0+j)))) (d - (0+lenS [Seg.ints IntKind.i64 1 (lf [(Q i fun j=>n (0+j)).2.1])] - 1)) else 0) fun d=>bif Nat.ble (0+lenS [Seg.ints IntKind.i64 1 (lf [(Q i fun j=>n (0+j)).2.1])] - 1) d && Nat.ble (d+1) (0+lenS [Seg.ints IntKind.i64 1 (lf [(Q i fun j=>n (0+j)).2.1])] - 1+64) then lf (Prod.snd (Prod.snd (Q i fun j=>n (0+j)))) (d - (0+lenS [Seg.ints IntKind.i64 1 (lf [(Q i fun j=>n (0+j)).2.1])] - 1)) else 0) && true)) == true,((Q i fun j=>n (0+j)).1 == (Q i fun j=>n (0+j)).1) == true],AV.sc (SV.bool true)):=by kernel_rfl
theorem nonces_pure {i:Int} {s a b n:Nat → Int} (hs:areB s 32 0=true) (hn:areB n 64 0=true):Pure prog F_rimelaw09_FrostNonces [.sc (.int .i64 i),u8s 32 s,u8s 32 a,u8s 32 b,u8s 64 n] (.sc (.bool true)):=by
 have e:=ln_k1 nnV pC pQ i s a b n
 rw [ckL_t.2 fun c hc=>by
  simp only [List.mem_cons,List.not_mem_nil,or_false] at hc
  have h1:areB (fun j=>s (0+j)) 32 0=true:=by have:=ld0_eq s; unfold ld0 at this; rw [this]; exact hs
  have h2:areB (fun j=>n (0+j)) 64 0=true:=by have:=ld0_eq n; unfold ld0 at this; rw [this]; exact hn
  rcases hc with h | h | h | h | h | h | h | h | h | h | h | h | h
  all_goals first | (rw [h]; exact h1) | (rw [h]; exact h2) | (rw [h,eqN_refl]; rfl) | (rw [h,eqN_refl,eqN_refl]; rfl) | (rw [h,beq_self_eq_true]; rfl)] at e
 exact pure_of_out LN0 at_rimelaw09_FrostNonces (ln_c nnV pC pQ i s a b n) e
theorem c_lnon:fnChk prog (envP tt (ln0 nnV pC pQ) []) f_rimelaw09_FrostNonces=true:=by kernel_rfl
end Go.Proofs.YtfpkegodflloiaaGreat
