/-
  Texts of the claim: Am16 Am17 Am18 Am19 Am20 Am21 Am22 Am23 Am24 Am25 Am26.
-/
import Derived.Test.YtfpkegodflloiaaGreatAa
import Derived.DeepKeys
import Derived.Laws.IdiomStrings
import Derived.Lib.AppendZerosOnto
namespace Go.AM
open Go
section
variable {P:Program} {E:Env} {σ:Sg} {pr:Pr} {w w0:World} {own0:Own} {hp:Heap} {ρ:Operand → AV} {γ:Operand → Value}
theorem src_spec {esz:Nat} {C:Cont} {a:Option Addr} {cap:Nat} {cs:List Value} (hr:RL σ pr w esz C.len C.row cs) (hm:C.len=0 ∨ ∃ g off,a=some ⟨g,off,none⟩ ∧ ∀ k u,cs[k]?=some u → w.cell? ⟨g,off+k,none⟩=some u)
  {tx e:TypeId} (hk:P.underlying tx=some (.slice e)):Src P esz tx (.slice a C.len cap) C.len cs w:=by
 have h1:∀ u ∈ cs,u.oneCell'=true:=fun u hu=>by
  obtain ⟨k,hk⟩:=List.getElem?_of_mem hu
  have hlt:k < C.len * esz:=by rw [← hr.1]; exact (List.getElem?_eq_some_iff.1 hk).1
  obtain ⟨d1,d2,d3⟩:=divmod hlt
  obtain ⟨x,e1,e2⟩:=hr.2.1 _ d1 _ d2
  rw [← d3,hk] at e1
  simp only [Option.some.injEq] at e1; subst e1
  exact e2.one
 have nil:C.len=0 → cs=[]:=fun h=>by
  have:=hr.1
  rw [h] at this
  simpa using this
 cases a with
 | none =>
  have h0:C.len=0:=by
   rcases hm with h | ⟨g,off,h,_⟩
   ·exact h
   ·cases h
  rw [h0,nil h0]
  exact Src.ofNil w hk cap
 | some ad =>
  rcases hm with h0 | ⟨g,off,h,h2⟩
  ·rw [h0,nil h0]
   exact Src.ofSlice w hk ad 0 cap [] (by simp) (fun j u hu=>by simp at hu) (fun u hu=>by simp at hu)
  ·simp only [Option.some.injEq] at h; subst h
   exact Src.ofSlice w hk _ C.len cap cs hr.1 (fun j u hu=>by rw [addr_add]; exact h2 j u hu) h1
theorem under_slice {t:Nat} {T:TI} {e:Nat} (hT:TyOK P t T) (hd:T.d=.slice e):P.underlying t=some (.slice e):=by
 obtain ⟨D,hD,e'⟩:=hT.desc
 rw [hd] at e'
 have:=td_slice e'; subst this
 exact hD
theorem grown_cells {esz:Nat} {A B:Cont} {ca cb:List Value} {rest:Array Value} (ha:RL σ pr w esz A.len A.row ca) (hb:RL σ pr w esz B.len B.row cb) (oa:A.ok esz=true) (ob:B.ok esz=true) :
  ∀ i,i < A.len+B.len → ∀ c,c < esz → ∃ v,((ca ++ cb).toArray ++ rest)[i * esz+c]?=some v ∧ RS σ pr w (cellAt ((Cont.join esz A B).segs i) c) v:=by
 obtain ⟨_,_,_,j4⟩:=join_spec oa ob ha.2.2 hb.2.2
 intro i hi c hc
 rw [j4 i hi c hc]
 by_cases e:i < A.len
 ·rw [if_pos e]
  obtain ⟨x,e1,e2⟩:=ha.2.1 i e c hc
  refine ⟨x,?_,e2⟩
  have hlt:i * esz+c < ca.length:=(List.getElem?_eq_some_iff.1 e1).1
  rw [Array.getElem?_append_left (by simp; omega)]
  simp only [List.getElem?_toArray]
  rw [List.getElem?_append_left hlt]
  exact e1
 ·rw [if_neg e]
  obtain ⟨x,e1,e2⟩:=hb.2.1 (i - A.len) (by omega) c hc
  refine ⟨x,?_,e2⟩
  have hlt:(i - A.len) * esz+c < cb.length:=(List.getElem?_eq_some_iff.1 e1).1
  have hsub:i * esz+c=ca.length+((i - A.len) * esz+c):=by
   rw [ha.1]
   have:i * esz=A.len * esz+(i - A.len) * esz:=by rw [← Nat.add_mul]; congr 1; omega
   omega
  rw [Array.getElem?_append_left (by simp; omega)]
  simp only [List.getElem?_toArray]
  rw [hsub,List.getElem?_append_right (by omega)]
  simpa using e1
structure SrcX (P:Program) (w:World) (e:TypeId) (i:TypeInfo) (z:Value) (tx:TypeId) (Y:Value) (n:Nat) (news:List Value):Prop where
 room:∀ (t ty b off sLen sCap:Nat),P.underlying t=some (.slice e) → sLen+n ≤ sCap → (∀ j,j < news.length → (w.cell? ⟨b,off+sLen * i.size+j,none⟩).isSome=true) →
  (∀ j,j < news.length → w.frozen? ⟨b,off+sLen * i.size+j,none⟩=false) →
  (Builtin.append_ #[t,tx] ty #[.slice (some ⟨b,off,none⟩) sLen sCap,Y]).run P w=.ok (.slice (some ⟨b,off,none⟩) (sLen+n) sCap) (w.setCells b (off+sLen * i.size) news)
 grow:∀ (t ty:Nat) (base:Option Addr) (sLen sCap:Nat) (olds:List Value),P.underlying t=some (.slice e) → (Builtin.firstCells i.size sLen (.slice base sLen sCap)).run P w.drew=.ok olds.toArray w.drew →
  sCap < sLen+n → (sLen+n) * i.bytes ≤ 1099511627776 → 1 ≤ i.bytes →
  (Builtin.append_ #[t,tx] ty #[.slice base sLen sCap,Y]).run P w=.ok (.slice (some ⟨w.heap.size,0,none⟩) (sLen+n) (grownCap w (sLen+n) sCap e))
   (w.drew.alloc (.cells ((olds ++ news).toArray ++ Builtin.zeroCells z.cells (grownCap w (sLen+n) sCap e - (sLen+n))) e))
 zero:n=0 → ∀ (t ty:Nat) (base:Option Addr),P.underlying t=some (.slice e) → (Builtin.append_ #[t,tx] ty #[.slice base 0 0,Y]).run P w=.ok (.slice base 0 0) w
theorem SrcX.ofSrc {e:TypeId} {i:TypeInfo} {z:Value} {tx:TypeId} {Y:Value} {n:Nat} {news:List Value} (hi:P.info? e=some i) (hz:i.zero=some z) (h:Src P i.size tx Y n news w):SrcX P w e i z tx Y n news:=by
 refine ⟨fun t ty b off sLen sCap ht hr hc hf=>run_append_room_src w t tx ty e i ht hi b off sLen sCap Y n news h hr hc hf,
  fun t ty base sLen sCap olds ht hold hg hf hb=>?_,fun hn t ty base ht=>?_⟩
 ·have hnb:sLen+n ≤ (sLen+n) * i.bytes:=Nat.le_mul_of_pos_right _ hb
  exact run_append_grow_src w t tx ty e i z ht hi hz base sLen sCap olds hold Y n news h hg (by omega) (growslice_fits hg (by omega))
 ·have h0:=h.cells
  have hlen:=h.len
  have hcs:news=[]:=by have:=h.newsLen; rw [hn] at this; simpa using this
  rw [hn] at *
  subst hcs
  rcases h.kind with ⟨e',hk⟩ | hk <;> cases base <;> simp [Builtin.append_,run_underlying ht,run_underlying hk,sizeOf,typeInfo,hi,hlen,h0,storeCells]
theorem zeroCells_at (z:Array Value) (n:Nat) {k:Nat} (hk:k < n * z.size):(Builtin.zeroCells z n)[k]?=some (z[k % z.size]!):=by
 simp [Builtin.zeroCells,hk]
theorem SrcX.ofZeros {e:TypeId} {i:TypeInfo} {z:Value} {tx:TypeId} {kn kq:IntKind} {n:Nat} (hi:P.info? e=some i) (hz:i.zero=some z) (htn:P.underlying tx=some (.int kn)) (hs:1 ≤ i.size) (hzs:z.cells.size=i.size) (hn63:n ≤ 1099511627776)
  (hb:1 ≤ i.bytes) (hone:∀ u ∈ z.cells.toList,u.oneCell'=true) (hnb:n * i.bytes ≤ 1099511627776):SrcX P w e i z tx (.int kq n) n (Builtin.zeroCells z.cells n).toList:=by
 have hw:IntKind.i64.wrap (n:Int)=n:=by rw [IntKind.wrap_i64]; omega
 have hneg:¬ ((n:Int) < 0):=by omega
 have hw0:IntKind.i64.wrap 0=0:=by decide
 have h48i:¬ (281474976710656 < (n:Int) * (i.bytes:Int)):=by
  rw [← Int.natCast_mul]
  omega
 refine ⟨fun t ty b off sLen sCap ht hr hc hf=>?_,fun t ty base sLen sCap olds ht hold hg hf hb=>?_,fun hn t ty base ht=>?_⟩
 ·have hone':∀ u ∈ (Builtin.zeroCells z.cells n).toList,u.oneCell'=true:=fun u hu=>by
   obtain ⟨k,hk⟩:=List.getElem?_of_mem hu
   have hlt:k < n * z.cells.size:=by
    have:=(List.getElem?_eq_some_iff.1 hk).1
    simpa [Builtin.zeroCells] using this
   have hk':(Builtin.zeroCells z.cells n)[k]?=some u:=by simpa using hk
   rw [zeroCells_at z.cells n hlt] at hk'
   simp only [Option.some.injEq] at hk'; subst hk'
   have hm:k % z.cells.size < z.cells.size:=Nat.mod_lt _ (by omega)
   rw [getElem!_pos z.cells _ hm]
   exact hone _ (by simp)
  have hst:=run_storeCells_cells (P:=P) b (off+sLen * i.size) (Builtin.zeroCells z.cells n).toList 0 w (by simpa using hc) (by simpa using hf) hone'
  simp only [Nat.add_zero] at hst
  by_cases h0:n * i.size=0
  ·have hn0:n=0:=by
    rcases Nat.mul_eq_zero.1 h0 with h | h
    ·exact h
    ·omega
   subst hn0
   have e0:(Builtin.zeroCells z.cells 0).toList=[]:=by simp [Builtin.zeroCells]
   rw [e0] at hst ⊢
   simp [Builtin.append_,run_underlying ht,run_underlying htn,sizeOf,typeInfo,zeroValue,hi,hz,asInt,asIntOf,hw0,hr,Addr.add_lit,storeCells,World.setCells]
   intro hx; omega
  ·simp [Builtin.append_,run_underlying ht,run_underlying htn,sizeOf,typeInfo,zeroValue,hi,hz,asInt,asIntOf,hw,hneg,h48i,h0,hr,Addr.add_lit,hst]
 ·have hnb2:sLen+n ≤ (sLen+n) * i.bytes:=Nat.le_mul_of_pos_right _ hb
  by_cases h0:n=0
  ·subst h0
   have e0:(Builtin.zeroCells z.cells 0).toList=[]:=by simp [Builtin.zeroCells]
   have hn:¬ (sLen+0 ≤ sCap):=by omega
   have hn':¬ (sLen ≤ sCap):=by omega
   have h63':¬ (9223372036854775807 < ((sLen:Int))):=by omega
   have h48':¬ (281474976710656 < Builtin.nextslicecap (sLen) sCap * i.bytes):=by have:=growslice_fits (bytes:=i.bytes) hg (show (sLen+0) * i.bytes ≤ 140737488355328 by omega); simp at this; omega
   rw [e0,List.append_nil]
   simp [Builtin.append_,run_underlying ht,run_underlying htn,sizeOf,typeInfo,zeroValue,hi,hz,asInt,asIntOf,hw0,hn',h63',h48',Question.forced,hold,newRow,grownCap]
  ·have:=Lib.run_append_grow_zeros w t tx ty e i z kq kn ht htn hi hz base sLen sCap olds hold n (by omega) (by omega) hg (by omega) (by omega) (growslice_fits hg (by omega))
   rw [this]
   congr 3
   apply Array.ext'
   simp [List.append_assoc]
 ·subst hn
  cases base <;> simp [Builtin.append_,run_underlying ht,run_underlying htn,sizeOf,typeInfo,zeroValue,hi,hz,asInt,asIntOf,hw0,storeCells]
theorem grow_out (ET:EnvTy P E) (H:HI w0 own0 σ pr hp w) {sl:Nat} (hsl:hp[sl]?=some none) (hs:σ sl=none) {t tx rt:TypeId} {e:Nat} {T F:TI} (hT:E.ty t=some T) (hTd:T.d=.slice e) (hF:E.ty e=some F)
  {A B:Cont} (oa:A.ok F.size=true) (ob:B.ok F.size=true) {a:Option Addr} {Y:Value} {capA:Nat} {ca cb:List Value} (ha:RL σ pr w F.size A.len A.row ca) (hb:RL σ pr w F.size B.len B.row cb)
  (ma:A.len=0 ∨ ∃ g off,a=some ⟨g,off,none⟩ ∧ ∀ k u,ca[k]?=some u → w.cell? ⟨g,off+k,none⟩=some u) (mb:∀ i z,P.info? e=some i → i.zero=some z → SrcX P w e i z tx Y B.len cb)
  (hfit:fits (A.len+B.len) F.bytes=true) (hby:1 ≤ F.bytes) (hzl:lenS F.zero=F.size) (hg:capA < A.len+B.len) (hA:A.len ≤ capA) :
  ∃ val w' σ',(Builtin.append_ #[t,tx] rt #[.slice a A.len capA,Y]).run P w=.ok val w' ∧
   Out w0 own0 σ pr hp w sl (.sc (.slice sl F.size 0 0 F.size (A.len+B.len))) (hp.set sl (some (Cont.join F.size A B))) val σ' pr w':=by
 obtain ⟨i,z,hi,hsz,hbytes,hzero,hzr⟩:=(ET.ty _ _ hF).info
 have hut:=under_slice (ET.ty _ _ hT) hTd
 have hsrcA:Src P i.size t (.slice a A.len capA) A.len ca w:=by rw [hsz]; exact src_spec ha ma hut
 have hf:(A.len+B.len) * F.bytes ≤ 1099511627776:=by
  have:(A.len+B.len) * F.bytes ≤ 2 ^ 40:=by simpa [fits] using hfit
  have e:(2:Nat) ^ 40=1099511627776:=by decide
  omega
 have hrun:=(mb i z hi hzero).grow t rt a A.len capA ca hut hsrcA.cellsD hg (by rw [hbytes]; exact hf) (by rw [hbytes]; exact hby)
 obtain ⟨HD,LD⟩:=H.drew
 obtain ⟨j1,j2,j3,j4⟩:=join_spec oa ob ha.2.2 hb.2.2
 have hcap:A.len+B.len ≤ grownCap w (A.len+B.len) capA e:=by
  unfold grownCap
  simp only [Question.cut]
  omega
 have zsz:z.cells.size=F.size:=by
  have:=(hzr σ pr w).1
  simp at this; omega
 have rsz:(Builtin.zeroCells z.cells (grownCap w (A.len+B.len) capA e - (A.len+B.len))).size=(grownCap w (A.len+B.len) capA e - (A.len+B.len)) * F.size:=by
  simp [Builtin.zeroCells,zsz]
 have lsz:(ca ++ cb).length=(A.len+B.len) * F.size:=by rw [List.length_append,ha.1,hb.1,Nat.add_mul]
 have hmul:(A.len+B.len) * F.size+(grownCap w (A.len+B.len) capA e - (A.len+B.len)) * F.size=grownCap w (A.len+B.len) capA e * F.size:=by rw [← Nat.add_mul]; congr 1; omega
 have hall:=grown_cells (rest:=Builtin.zeroCells z.cells (grownCap w (A.len+B.len) capA e - (A.len+B.len))) ha hb oa ob
 have out:=slice_made (T:=e) (cells:=(ca ++ cb).toArray ++ Builtin.zeroCells z.cells (grownCap w (A.len+B.len) capA e - (A.len+B.len))) (cap:=grownCap w (A.len+B.len) capA e) (len:=A.len+B.len) HD hsl hs (b:=Cont.join F.size A B) j2 hcap
  (by rw [j1,Array.size_append,rsz]; simp only [List.size_toArray]; rw [lsz]; omega)
  (fun i hi c hc=>by
   rw [j2] at hi
   rw [j1] at hc ⊢
   obtain ⟨v,e1,e2⟩:=hall i hi c hc
   exact ⟨v,e1,e2.mono LD⟩)
  (fun i hi=>by rw [j2] at hi; rw [j1]; exact j3 i hi)
 rw [j1] at out
 exact ⟨_,_,_,hrun,LD.trans out.le,out.hi,out.rv,out.keep,out.len⟩
theorem zeroC_len (F:TI) (n:Nat):(zeroC F n).len=n ∧ (zeroC F n).ok F.size=true:=by
 unfold zeroC
 split <;> exact ⟨rfl,by simp [Cont.ok]⟩
theorem zeroC_row (F:TI) (n:Nat) (hzl:lenS F.zero=F.size) (j:Nat):lenS ((zeroC F n).row j)=F.size ∧ ∀ c,c < F.size → cellAt ((zeroC F n).row j) c=cellAt F.zero c:=by
 unfold zeroC
 split
 ·rename_i k m z hz
  rw [hz,lenS_ints] at hzl
  simp only [lenS,Nat.add_zero] at hzl
  subst hzl
  refine ⟨by simp [Cont.row,lenS],fun c hc=>?_⟩
  rw [hz]; rfl
 ·exact ⟨hzl,fun c hc=>rfl⟩
theorem srcOf_spec (ET:EnvTy P E) (H:HI w0 own0 σ pr hp w) {tx e:TypeId} {U F:TI} (hU:E.ty tx=some U) (hF:E.ty e=some F) {y:SV} {Y:Value} (hy:RS σ pr w y Y) {cy:Cont} (h:srcOf hp U.d F y=some cy) (hok:cy.ok F.size=true)
  (hck:zeroCk U.d y=true) (hzl:lenS F.zero=F.size) (h1:1 ≤ F.size) (hby:1 ≤ F.bytes) (hfit:cy.len * F.bytes ≤ 1099511627776) :
  ∃ cs,RL σ pr w F.size cy.len cy.row cs ∧ ∀ i z,P.info? e=some i → i.zero=some z → SrcX P w e i z tx Y cy.len cs:=by
 obtain ⟨i0,z0,hi0,hsz,hbytes,hzero,hzr⟩:=(ET.ty _ _ hF).info
 unfold srcOf at h
 split at h
 ·rename_i ed hUd
  obtain ⟨ay,capy,csy,vy,ry,my⟩:=cont_spec H h hok hy
  refine ⟨csy,ry,fun i z hi hz=>?_⟩
  rw [hi0] at hi
  simp only [Option.some.injEq] at hi; subst hi
  have hsrc:Src P i0.size tx (.slice ay cy.len capy) cy.len csy w:=by rw [hsz]; exact src_spec ry my (under_slice (ET.ty _ _ hU) hUd)
  rw [vy]
  exact SrcX.ofSrc hi0 hz hsrc
 ·rename_i kn hUd
  split at h
  case h_2=>simp at h
  rename_i kq m
  simp only [Option.some.injEq] at h; subst h
  rw [hUd] at hck
  have hm:0 ≤ m:=by simpa [zeroCk] using hck
  have hYv:Y=.int kq m:=by cases hy; rfl
  have zsz:z0.cells.size=F.size:=by
   have:=(hzr σ pr w).1
   simp at this; omega
  obtain ⟨l1,l2⟩:=zeroC_len F m.toNat
  rw [l1] at hfit ⊢
  have htx:P.underlying tx=some (.int kn):=by
   obtain ⟨D,hD,eD⟩:=(ET.ty _ _ hU).desc
   rw [hUd] at eD
   have:=td_int eD; subst this; exact hD
  have hzc:∀ c,c < F.size → ∃ x,z0.cells[c]?=some x ∧ RS σ pr w (cellAt F.zero c) x:=fun c hc=>by
   have hlt:c < z0.cells.size:=by omega
   exact ⟨z0.cells[c],Array.getElem?_eq_getElem hlt,(hzr σ pr w).2 c _ (by simp [hlt])⟩
  refine ⟨(Builtin.zeroCells z0.cells m.toNat).toList,⟨by simp [Builtin.zeroCells,zsz],fun j hj c hc=>?_,fun j hj=>by rw [(zeroC_row F m.toNat hzl j).1]; exact Nat.le_refl _⟩,fun i z hi hz=>?_⟩
  ·obtain ⟨x,x1,x2⟩:=hzc c hc
   refine ⟨x,?_,by rw [(zeroC_row F m.toNat hzl j).2 c hc]; exact x2⟩
   have hlt:=mul_lt_le (s:=F.size) hj
   have:=zeroCells_at z0.cells m.toNat (k:=j * F.size+c) (by rw [zsz]; omega)
   rw [zsz,Nat.mul_comm j,Nat.mul_add_mod,Nat.mod_eq_of_lt hc,Nat.mul_comm F.size j] at this
   rw [getElem!_pos z0.cells c (by omega)] at this
   rw [Array.getElem?_eq_getElem (by omega)] at x1
   simp only [Option.some.injEq] at x1
   rw [x1] at this
   simpa using this
  ·rw [hi0] at hi
   simp only [Option.some.injEq] at hi; subst hi
   rw [hzero] at hz
   simp only [Option.some.injEq] at hz; subst hz
   have em:(m:Int)=(m.toNat:Int):=by omega
   rw [hYv,em]
   have hle:m.toNat ≤ m.toNat * F.bytes:=Nat.le_mul_of_pos_right _ hby
   refine SrcX.ofZeros hi0 hzero htx (by rw [hsz]; exact h1) (by rw [zsz,hsz]) (by omega) (by rw [hbytes]; exact hby) (fun u hu=>?_) (by rw [hbytes]; exact hfit)
   obtain ⟨k,hk⟩:=List.getElem?_of_mem hu
   exact ((hzr σ pr w).2 k u hk).one
 ·simp at h
set_option maxHeartbeats 1000000 in
theorem m_append (ET:EnvTy P E) (hρ:∀ x,RV σ pr w (ρ x) (γ x)) (H:HI w0 own0 σ pr hp w) {sl:Nat} (hsl:hp[sl]?=some none) (hs:σ sl=none) {args:Array Operand} {ts:Array TypeId} {v:AV} {hp':Heap} (h:writeOp E ρ hp sl (.call ⟨.builtin .append,args,ts⟩)=some (v,hp')) {d t p e g} :
  ∃ val w' σ',(execOp γ ⟨d,.call ⟨.builtin .append,args,ts⟩,t,p,e,g⟩).run P w=.ok (.value val) w' ∧ Out w0 own0 σ pr hp w sl v hp' val σ' pr w':=by
 simp only [writeOp] at h
 split at h
 case h_2=>simp at h
 rename_i x y tx ty ha hts
 have hargs:args=#[x,y]:=by rw [← Array.toArray_toList (xs:=args),ha]
 have hts':ts=#[tx,ty]:=by rw [← Array.toArray_toList (xs:=ts),hts]
 subst hargs hts'
 have hx:=hρ x
 have hy:=hρ y
 split at h
 case h_2=>simp at h
 rename_i el _ _ _ _ U sx sy hT hU ex ey
 rw [ex] at hx; rw [ey] at hy
 split at h
 case h_2=>simp at h
 rename_i F hF
 split at h
 case h_2=>simp at h
 rename_i cx cy hcx hcy
 split at h
 case h_2=>simp at h
 rename_i hk
 simp only [Bool.and_eq_true,ble_t,beq_t] at hk
 obtain ⟨⟨⟨⟨⟨⟨k1,k0⟩,k2⟩,k3⟩,k4⟩,k5⟩,k6⟩:=hk
 have hx:RS σ pr w sx (γ x):=hx
 have hy:RS σ pr w sy (γ y):=hy
 obtain ⟨ax,capx,csx,vx,rx,mx⟩:=cont_spec H hcx k5 hx
 have hfb:cy.len * F.bytes ≤ 1099511627776:=by
  have:(cx.len+cy.len) * F.bytes ≤ 2 ^ 40:=by simpa [fits] using k1
  have e:(2:Nat) ^ 40=1099511627776:=by decide
  rw [Nat.add_mul] at this
  omega
 obtain ⟨csy,ry,my⟩:=srcOf_spec ET H hU hF hy hcy k6 k0 k4 k2 k3 hfb
 have hexec:∀ {val w'},(Builtin.append_ #[tx,ty] t #[.slice ax cx.len capx,γ y]).run P w=.ok val w' →
   (execOp γ ⟨d,.call ⟨.builtin .append,#[x,y],#[tx,ty]⟩,t,p,e,g⟩).run P w=.ok (.value val) w':=fun q=>by
  simp [execOp,resolve,invoke,builtin,vx,q]
 have hutx:=under_slice (ET.ty _ _ hT) rfl
 obtain ⟨i,z,hi,hsz,hbytes,hzero,_⟩:=(ET.ty _ _ hF).info
 have hsrc:=my i z hi hzero
 obtain ⟨j1,j2,j3,j4⟩:=join_spec k5 k6 rx.2.2 ry.2.2
 split at h
 ·-- onto nothing
  rename_i hx0
  simp only [Option.some.injEq,Prod.mk.injEq] at h
  obtain ⟨rfl,rfl⟩:=h
  have vn:=RS.nils_inv hx
  rw [vx] at vn
  simp only [Value.slice.injEq] at vn
  obtain ⟨rfl,hl0,rfl⟩:=vn
  by_cases hn:cy.len=0
  ·refine ⟨.slice none 0 0,w,σ,hexec ?_,Le.refl _ _ _,H.empty hs (by rw [j2]; omega),?_,fun _ _ _=>rfl,by simp⟩
   ·rw [hl0]; exact hsrc.zero hn tx t none hutx
   ·rw [hl0,hn]; exact RV.of_sc .slice0
  ·obtain ⟨val,w',σ',q1,q2⟩:=grow_out (rt:=t) (a:=none) (capA:=0) (Y:=γ y) ET H hsl hs hT rfl hF k5 k6 rx ry mx my k1 k3 k4 (by omega) (by omega)
   exact ⟨val,w',σ',hexec q1,q2⟩
 ·-- onto a slice of one's own
  rename_i id sz i0 c esz len hx0
  split at h
  case h_2=>simp at h
  rename_i hk2
  simp only [Bool.and_eq_true,beq_t] at hk2
  obtain ⟨⟨⟨m1,m2⟩,m3⟩,m4⟩:=hk2
  subst m1 m2 m3 m4
  simp only [Option.some.injEq,Prod.mk.injEq] at h
  obtain ⟨rfl,rfl⟩:=h
  have hbex:∃ b,hp[id]?=some (some b) ∧ cx.len=len:=by
   simp only [contOf] at hcx
   split at hcx
   ·rename_i hb; split at hcx <;> (simp only [Option.some.injEq] at hcx; subst hcx; exact ⟨_,hb,rfl⟩)
   ·rename_i hb; split at hcx <;> (simp only [Option.some.injEq] at hcx; subst hcx; exact ⟨_,hb,rfl⟩)
   ·simp at hcx
  obtain ⟨b,hb,hlen0⟩:=hbex
  have hne:id ≠ sl:=by rintro rfl; rw [hsl] at hb; cases hb
  have hsl':(hp.set id none)[sl]?=some none:=by rw [List.getElem?_set_ne hne]; exact hsl
  by_cases hroom:cx.len+cy.len ≤ capx
  ·-- there is room
   rw [vx] at hx
   by_cases hcap0:capx=0
   ·-- none at all,and none wanted
    have e1:cx.len=0:=by omega
    have e2:cy.len=0:=by omega
    refine ⟨.slice ax 0 0,w,σ,hexec ?_,Le.refl _ _ _,(H.kill id).empty hs (by rw [j2]; omega),?_,fun _ _ _=>rfl,by simp⟩
    ·rw [e1,hcap0]; exact hsrc.zero e2 tx t ax hutx
    ·rw [e1,e2]; exact RV.of_sc .slice0
   ·have hxs:=hx
    generalize hgl:cx.len=cl at hx
    rw [hlen0] at hgl
    subst hgl
    cases hx with
    | slice0=>exact absurd rfl hcap0
    | slice h1 hf hl hroomS =>
    rename_i g0 n
    obtain ⟨e1,e2,hB⟩:=own_cells H hb h1
    obtain ⟨cells,T0,fz,q1,q2,q3,q4⟩:=hB.cells
    obtain ⟨cells2,T2,fz2,q1',q5⟩:=hroomS
    rw [q1] at q1'
    simp only [Option.some.injEq,Obj.cells.injEq] at q1'
    obtain ⟨rfl,rfl,rfl⟩:=q1'
    simp only [Nat.zero_mul,Nat.add_zero,Nat.zero_add] at *
    have hcl:csy.length=cy.len * F.size:=ry.1
    have hfitl:len * F.size+csy.length ≤ cells.size:=by
     have:=Nat.mul_le_mul_right F.size hroom
     rw [hlen0,Nat.add_mul] at this
     omega
    have hrun:=hsrc.room tx t g0 0 len capx hutx (by omega)
     (fun j hj=>by
      rw [cell_of_heap q1,hsz]
      simp
      omega)
     (fun j hj=>by
      rw [hsz]
      simp [World.frozen?,q1]
      omega)
    rw [hsz,Nat.zero_add] at hrun
    have hslt:sl < hp.length:=(List.getElem?_eq_some_iff.1 hsl).1
    have hsrow:∀ j,j < len → ∀ d,d < F.size → ∃ x,cells[j * F.size+d]?=some x ∧ RS σ pr w (cellAt (cx.row j) d) x:=fun j hj d hd=>by
     obtain ⟨x,x1,x2⟩:=rx.2.1 j (by omega) d hd
     refine ⟨x,?_,x2⟩
     rcases mx with h0 | ⟨gg,off,ea,hcells⟩
     ·omega
     ·simp only [Option.some.injEq,Addr.mk.injEq] at ea
      obtain ⟨rfl,rfl,_⟩:=ea
      have:=hcells _ _ x1
      rw [cell_of_heap q1] at this
      simpa using this
    obtain ⟨hL,hH⟩:=hi_write H hb (by rw [← e1,← e2]; exact h1) hB ((hp.set id none).set sl (some (Cont.join F.size cx cy))) (upd σ sl (g0,F.size,cx.len+cy.len)) sl (Cont.join F.size cx cy)
     (fun j y hj=>by
      rw [upd_other]; exact hj
      rintro rfl; rw [hs] at hj; cases hj)
     (by simp) hslt (by rw [upd_same,j1,j2]) (fun j hj=>upd_other hj)
     (fun j c' hj=>by
      rcases getElem?_set_some hj with ⟨rfl,rfl⟩ | ⟨hn1,hj⟩
      ·exact .inl ⟨rfl,rfl⟩
      ·refine .inr ⟨hn1,?_,?_⟩
       ·rintro rfl
        rw [List.getElem?_set] at hj
        simp at hj
       ·rw [List.getElem?_set] at hj
        split at hj
        ·split at hj <;> simp at hj
        ·exact hj)
     q1 (len * F.size) csy hfitl (by rw [j1,j2]; have:=Nat.mul_le_mul_right F.size hroom; omega)
     (fun r hr d' hd'=>by
      rw [j1] at hd' ⊢
      rw [j2] at hr
      rw [j4 r hr d' hd',hlen0,hcl]
      by_cases hrl:r < len
      ·rw [if_pos hrl,if_neg ?_]
       ·exact hsrow r hrl d' hd'
       ·have:=mul_lt_le (s:=F.size) hrl
        omega
      ·rw [if_neg hrl]
       have hsub:r * F.size=len * F.size+(r - len) * F.size:=by rw [← Nat.add_mul]; congr 1; omega
       have hlt:=mul_lt_le (s:=F.size) (show r - len < cy.len by omega)
       rw [if_pos (by omega),show r * F.size+d' - len * F.size=(r - len) * F.size+d' by omega]
       exact ry.2.1 (r - len) (by omega) d' hd')
     (fun r hr=>by rw [j2] at hr; rw [j1]; exact j3 r hr)
    refine ⟨_,_,_,hexec (by rw [hlen0]; exact hrun),hL,hH,?_,fun j _ hj=>upd_other hj,by simp⟩
    have hcells':=setCells_heap g0 csy (len * F.size) w cells T0 fz q1 hfitl
    obtain ⟨cells',c1,c2,_⟩:=hcells'
    have:=RS.slice (σ:=upd σ sl (g0,F.size,cx.len+cy.len)) (pr:=pr) (w:=w.setCells g0 (len * F.size) csy) (id:=sl) (i:=0) (c:=0) (esz:=F.size) (len:=cx.len+cy.len) (cap:=capx) (upd_same _ _ _)
     (.inl ⟨rfl,rfl,by omega⟩) hroom ⟨cells',T0,fz,c1,by rw [c2]; simpa using q5⟩
    rw [hlen0] at this ⊢
    exact RV.of_sc (by simpa using this)
  ·obtain ⟨val,w',σ',q1,q2⟩:=grow_out (rt:=t) (a:=ax) (capA:=capx) (Y:=γ y) ET (H.kill id) hsl' hs hT rfl hF k5 k6 rx ry mx my k1 k3 k4 (by omega) (by
    have hxx:=hx
    rw [vx] at hxx
    generalize hgl:cx.len=cl at hxx
    rw [hlen0] at hgl; subst hgl
    cases hxx with
    | slice0=>exact Nat.le_refl _
    | slice _ _ hl _=>exact hl)
   refine ⟨val,w',σ',hexec q1,q2.le,q2.hi,q2.rv,fun j hj hne=>q2.keep j (by simpa using hj) hne,?_⟩
   have:=q2.len
   simp only [List.length_set] at this ⊢
   exact this
 ·simp at h
theorem copyF_zero (sz esz i c:Nat) (g f:Nat → Nat → Int):copyF sz esz i c 0 g f=f:=by
 unfold copyF
 split
 ·funext r d
  have:(Nat.ble i r && Nat.ble (r+1) (i+0))=false:=by
   rw [Bool.and_eq_false_iff]
   by_cases h:i ≤ r
   ·exact .inr (ble_f.2 (by omega))
   ·exact .inl (ble_f.2 (by omega))
  rw [this]; rfl
 ·funext r d
  have:(Nat.beq r i && (Nat.ble c d && Nat.ble (d+1) (c+0 * esz)))=false:=by
   rw [Bool.and_eq_false_iff,Bool.and_eq_false_iff]
   by_cases h:c ≤ d
   ·exact .inr (.inr (ble_f.2 (by omega)))
   ·exact .inr (.inl (ble_f.2 (by omega)))
  rw [this]; rfl
theorem set_same {hp:Heap} {id:Nat} {b:Blk} (h:hp[id]?=some (some b)):hp.set id (some b)=hp:=by
 apply List.ext_getElem?
 intro j
 rw [List.getElem?_set]
 split
 ·rename_i e; subst e
  rw [if_pos (List.getElem?_eq_some_iff.1 h).1,h]
 ·rfl
theorem m_copy (ET:EnvTy P E) (hρ:∀ x,RV σ pr w (ρ x) (γ x)) (H:HI w0 own0 σ pr hp w) {sl:Nat} {args:Array Operand} {ts:Array TypeId} {v:AV} {hp':Heap} (h:writeOp E ρ hp sl (.call ⟨.builtin .copy,args,ts⟩)=some (v,hp')) {d t p e g} :
  ∃ val w',(execOp γ ⟨d,.call ⟨.builtin .copy,args,ts⟩,t,p,e,g⟩).run P w=.ok (.value val) w' ∧ Out w0 own0 σ pr hp w sl v hp' val σ pr w':=by
 simp only [writeOp] at h
 split at h
 case h_2=>simp at h
 rename_i x y tx tr ha hts
 have hargs:args=#[x,y]:=by rw [← Array.toArray_toList (xs:=args),ha]
 subst hargs
 have hx:=hρ x
 have hy:=hρ y
 split at h
 case h_2=>simp at h
 rename_i el _ _ _ _ id sz i c esz len sy hT ex ey
 rw [ex] at hx; rw [ey] at hy
 split at h
 case h_2=>simp at h
 rename_i F k' sz' n' gf k sz0 n f hF hcy hblk
 split at h
 case h_2=>simp at h
 rename_i hk
 simp only [Bool.and_eq_true,ble_t,beq_t,kEq_t] at hk
 obtain ⟨rfl,k1,rfl,k3⟩:=hk
 simp only [Option.some.injEq,Prod.mk.injEq] at h
 obtain ⟨rfl,rfl⟩:=h
 have hx:RS σ pr w (.slice id sz i c sz' len) (γ x):=hx
 have hy:RS σ pr w sy (γ y):=hy
 obtain ⟨ay,capy,csy,vy,ry,my⟩:=cont_spec H hcy (esz:=sz') (by simp [Cont.ok]) hy
 simp only [Cont.len] at vy ry my
 have hut:=under_slice (ET.ty _ _ hT) rfl
 have hz:(sizeOf el).run P w=.ok sz' w:=by rw [← k1]; exact run_sizeOf' (ET.ty _ _ hF)
 have hts0:ts[0]?=some tx:=by rw [← Array.getElem?_toList,hts]; rfl
 have hfirst:∀ m,m ≤ n' → (Builtin.firstCells sz' m (.slice ay n' capy)).run P w=.ok (csy.take (m * sz')).toArray w:=by
  intro m hm
  have hle:m * sz' ≤ csy.length:=by rw [ry.1]; exact Nat.mul_le_mul_right _ hm
  rcases my with h0 | ⟨gy,oy,rfl,h2⟩
  ·obtain rfl:m=0:=by omega
   cases ay with
   | none=>simp [Builtin.firstCells]
   | some ad=>exact run_firstCells_some (P:=P) w sz' 0 ad n' capy (csy.take (0 * sz')) (by simp) (fun j u hj=>by simp at hj)
  ·exact run_firstCells_some (P:=P) w sz' m _ n' capy (csy.take (m * sz')) (by simp; omega) (fun j u hj=>by
    rw [addr_add]
    refine h2 j u ?_
    rw [List.getElem?_take] at hj
    split at hj
    ·exact hj
    ·simp at hj)
 generalize hgx:γ x=gx at hx
 have hlt:id < hp.length:=(List.getElem?_eq_some_iff.1 hblk).1
 cases hx with
 | slice0 =>
  rename_i a
  have hm:n'.min 0=0:=Nat.min_zero n'
  refine ⟨.int .i64 ((Nat.min n' 0:Nat):Int),w,?_,Le.refl _ _ _,?_,RV.of_sc .int,fun _ _ _=>rfl,by simp⟩
  ·have hf:=hfirst 0 (Nat.zero_le _)
   simp only [Nat.zero_mul,List.take_zero] at hf
   cases a <;> simp [execOp,resolve,invoke,builtin,vy,hgx,Builtin.copy_,hts0,run_underlying hut,hz,Builtin.lenOf,hm,hf,storeCells,goInt]
  ·rw [hm,copyF_zero,set_same hblk]; exact H
 | slice h1 hf hl hroom =>
  rename_i gg nn cap
  obtain ⟨e1,e2,hB⟩:=own_cells H hblk h1
  obtain ⟨cells,Te,fz,q1,q2,q3,q4⟩:=hB.cells
  simp only [Blk.sz,Blk.n] at e1 e2 q3 q4
  subst e1 e2
  have hmn:n'.min len ≤ n':=Nat.min_le_left _ _
  have hml:n'.min len ≤ len:=Nat.min_le_right _ _
  generalize hm:n'.min len=m at hmn hml
  have hlen:(csy.take (m * sz')).length=m * sz':=by
   rw [List.length_take,ry.1]
   exact Nat.min_eq_left (Nat.mul_le_mul_right _ hmn)
  have hone:∀ u ∈ csy.take (m * sz'),u.oneCell'=true:=fun u hu=>by
   obtain ⟨kk,hkk⟩:=List.getElem?_of_mem (List.mem_of_mem_take hu)
   have hkl:kk < n' * sz':=by rw [← ry.1]; exact (List.getElem?_eq_some_iff.1 hkk).1
   obtain ⟨d1,d2,d3⟩:=divmod hkl
   obtain ⟨z,z1,z2⟩:=ry.2.1 _ d1 _ d2
   rw [← d3,hkk] at z1
   simp only [Option.some.injEq] at z1; subst z1
   exact z2.one
  have hml':=Nat.mul_le_mul_right sz' hml
  have hroom':i * sz+c+m * sz' ≤ cells.size:=by
   rcases hf with ⟨rfl,rfl,hf⟩ | ⟨hne,hi,hf⟩
   ·have:=Nat.mul_le_mul_right sz' hf
    rw [Nat.add_mul] at this
    omega
   ·have:=mul_lt_le (s:=sz) hi
    omega
  have hst:=run_storeCells_cells (P:=P) gg (i * sz+c) (csy.take (m * sz')) 0 w (fun j hj=>by
    rw [hlen] at hj
    rw [cell_of_heap q1]
    simp
    omega) (fun j hj=>by
    rw [hlen] at hj
    simp [World.frozen?,q1]
    omega) hone
  simp only [Nat.add_zero] at hst
  have hfi:=hfirst m hmn
  have row:∀ j,j < m → ∀ d',d' < sz' → ∃ z,(csy.take (m * sz'))[j * sz'+d']?=some z ∧ RS σ pr w (.int k (gf j d')) z:=by
   intro j hj d' hd'
   obtain ⟨z,z1,z2⟩:=ry.2.1 j (by omega) d' hd'
   have:=mul_lt_le (s:=sz') hj
   refine ⟨z,by rw [List.getElem?_take,if_pos (by omega)]; exact z1,?_⟩
   exact z2
  have hold:∀ r,r < nn → ∀ d',d' < sz → ∃ v,cells[r * sz+d']?=some v ∧ RS σ pr w (.int k (f r d')) v:=by
   intro r hr d' hd'
   exact q4 r hr d' hd'
  have key:∀ r,r < nn → ∀ d',d' < sz → ∃ v,(if i * sz+c ≤ r * sz+d' ∧ r * sz+d' < i * sz+c+(csy.take (m * sz')).length then (csy.take (m * sz'))[r * sz+d' - (i * sz+c)]? else cells[r * sz+d']?)=some v ∧ RS σ pr w (.int k (copyF sz sz' i c m gf f r d')) v:=by
    intro r hr d' hd'
    rw [hlen]
    unfold copyF
    rcases hf with ⟨rfl,rfl,hf⟩ | ⟨hne,hi,hf⟩
    ·rw [beq_t.2 rfl]
     dsimp only
     by_cases hin:i ≤ r ∧ r < i+m
     ·have hA:(Nat.ble i r && Nat.ble (r+1) (i+m))=true:=by rw [Bool.and_eq_true,ble_t,ble_t]; omega
      rw [hA,cond_true]
      have h3:=Nat.mul_le_mul_right sz' hin.1
      have h4:=mul_lt_le (s:=sz') hin.2
      rw [Nat.add_mul] at h4
      have h5:(r - i) * sz'=r * sz' - i * sz':=Nat.sub_mul _ _ _
      obtain ⟨z,z1,z2⟩:=row (r - i) (by omega) d' hd'
      refine ⟨z,?_,z2⟩
      split
      ·rw [show r * sz'+d' - (i * sz'+0)=(r - i) * sz'+d' by omega]; exact z1
      ·rename_i hno; exact absurd (by omega) hno
     ·have hA:(Nat.ble i r && Nat.ble (r+1) (i+m))=false:=by
       rw [Bool.and_eq_false_iff,ble_f,ble_f]; omega
      rw [hA,cond_false,if_neg]
      ·exact hold r hr d' hd'
      ·rintro ⟨z1,z2⟩
       apply hin
       constructor
       ·rcases Nat.lt_or_ge r i with h' | h'
        ·have:=mul_lt_le (s:=sz') h'; omega
        ·exact h'
       ·rcases Nat.lt_or_ge r (i+m) with h' | h'
        ·exact h'
        ·have:=Nat.mul_le_mul_right sz' h'
         rw [Nat.add_mul] at this; omega
    ·rw [beq_f.2 hne]
     dsimp only
     by_cases hin:r=i ∧ c ≤ d' ∧ d' < c+m * sz'
     ·have hA:(Nat.beq r i && (Nat.ble c d' && Nat.ble (d'+1) (c+m * sz')))=true:=by
       rw [Bool.and_eq_true,Bool.and_eq_true,beq_t,ble_t,ble_t]; omega
      rw [hA,cond_true,if_pos ((flat_iff hd' (by omega)).2 hin)]
      obtain ⟨rfl,z1,z2⟩:=hin
      obtain ⟨d1,d2,d3⟩:=divmod (k:=d' - c) (n:=m) (e:=sz') (by omega)
      rw [show r * sz+d' - (r * sz+c)=d' - c by omega,d3]
      have:=row _ d1 _ d2
      rw [← d3] at this ⊢
      exact this
     ·have hA:(Nat.beq r i && (Nat.ble c d' && Nat.ble (d'+1) (c+m * sz')))=false:=by
       rw [Bool.and_eq_false_iff,Bool.and_eq_false_iff,beq_f,ble_f,ble_f]; omega
      rw [hA,cond_false,if_neg (fun x=>hin ((flat_iff hd' (by omega)).1 x))]
      exact hold r hr d' hd'
  obtain ⟨hL,hH⟩:=hi_write H hblk h1 hB (hp.set id (some (.ints k sz nn (copyF sz sz' i c m gf f)))) σ id (.ints k sz nn (copyF sz sz' i c m gf f)) (fun _ _ h=>h) (by simp) hlt h1 (fun _ _=>rfl)
   (fun j c' hj=>by
    rcases getElem?_set_some hj with ⟨rfl,rfl⟩ | ⟨hne,hj⟩
    ·exact .inl ⟨rfl,rfl⟩
    ·exact .inr ⟨hne,hne,hj⟩)
   q1 (i * sz+c) (csy.take (m * sz')) (by rw [hlen]; exact hroom') q3
   (fun r hr d' hd'=>by
    exact key r hr d' hd')
   (fun r hr=>Nat.le_refl _)
  refine ⟨.int .i64 (m:Int),w.setCells gg (i * sz+c) (csy.take (m * sz')),?_,hL,hH,RV.of_sc .int,fun _ _ _=>rfl,by simp⟩
  simp [execOp,resolve,invoke,builtin,vy,hgx,Builtin.copy_,hts0,run_underlying hut,hz,Builtin.lenOf,hm,hfi,hst,goInt]
end
end Go.AM
namespace Go.AM
open Go
section
variable {P:Program} {E:Env} {σ:Sg} {pr:Pr} {w w0:World} {own0:Own} {hp:Heap} {ρ:Operand → AV} {γ:Operand → Value}
def noσ:Sg:=fun _=>none
def prCall (tg:Bool) (σ:Sg) (pr:Pr) (hp:Heap):Pr:=fun t b=>pr t b ∨ (t=tg ∧ ∃ id blk x,hp[id]?=some (some blk) ∧ σ id=some (b,x))
theorem lenS_snap (g:SV → SV):∀ l:List Seg,lenS (l.map (snapSeg g))=lenS l
 | []=>rfl
 | .ints k n f :: r=>by rw [List.map_cons,snapSeg,lenS_ints,lenS_ints,lenS_snap g r]
 | .one v :: r=>by rw [List.map_cons,snapSeg,lenS_one,lenS_one,lenS_snap g r]
theorem cell_snap {σ':Sg} {pr':Pr} {g:SV → SV} (hg:∀ s v,RS σ pr w s v → RS σ' pr' w (g s) v):∀ (l:List Seg) (c:Nat) (v:Value),c < lenS l → RS σ pr w (cellAt l c) v → RS σ' pr' w (cellAt (l.map (snapSeg g)) c) v
 | [],c,v,h,_=>by simp [lenS] at h
 | .ints k n f :: r,c,v,h,hv=>by
  rw [lenS_ints] at h
  rw [List.map_cons,snapSeg]
  by_cases hc:c < n
  ·rw [cellAt_ints_lt hc] at hv ⊢
   rw [RS.int_inv hv]; exact .int
  ·rw [cellAt_ints_ge (by omega) (by rw [lenS_snap]; exact h)]
   rw [cellAt_ints_ge (by omega) h] at hv
   exact cell_snap hg r _ v (by omega) hv
 | .one x :: r,c,v,h,hv=>by
  rw [lenS_one] at h
  rw [List.map_cons,snapSeg]
  cases c with
  | zero=>exact hg _ _ hv
  | succ c=>exact cell_snap hg r c v (by omega) hv
theorem snap_spec (tg:Bool) (H:HI w0 own0 σ pr hp w):∀ (fuel:Nat) (s:SV) (v:Value),RS σ pr w s v → RS noσ (prCall tg σ pr hp) w (snapSV tg hp fuel s) v
 | 0,s,v,h=>.unk h.one
 | fuel+1,s,v,h=>by
  have ih:=snap_spec tg H fuel
  have hone:=h.one
  cases s with
  | ptr id sz i c ext =>
   obtain ⟨g,n,rfl,h1,h2,h3,_⟩:=RS.ptr_inv h
   simp only [snapSV]
   split
   ·rename_i k z m f hb
    obtain ⟨e1,e2,hB⟩:=own_cells H hb h1
    obtain ⟨cells,T,fz,q1,q2,q3,q4⟩:=hB.cells
    simp only [Blk.sz,Blk.n] at e1 e2
    subst e1 e2
    refine RS.mk_vptr (.inr ⟨rfl,id,_,_,hb,h1⟩) (fun d hd=>?_)
    rw [show lenS [Seg.ints k ext fun d=>f i (c+d)]=ext from rfl] at hd
    obtain ⟨x,x1,x2⟩:=q4 i h2 (c+d) (show c+d < sz by omega)
    refine ⟨x,by rw [cell_of_heap q1,Nat.add_assoc]; exact x1,?_⟩
    rw [RS.int_inv x2]; exact .int
   ·rename_i z m row hb
    obtain ⟨e1,e2,hB⟩:=own_cells H hb h1
    obtain ⟨cells,T,fz,q1,q2,q3,q4⟩:=hB.cells
    simp only [Blk.sz,Blk.n] at e1 e2
    subst e1 e2
    have hl:=H.lens id _ hb i h2
    simp only [Blk.segs,Blk.sz] at hl
    obtain ⟨c1,c2⟩:=cutS_spec (s:=row i) (off:=c) (m:=ext) (by omega)
    refine RS.mk_vptr (.inr ⟨rfl,id,_,_,hb,h1⟩) (fun d hd=>?_)
    rw [lenS_snap,c1] at hd
    obtain ⟨x,x1,x2⟩:=q4 i h2 (c+d) (show c+d < sz by omega)
    refine ⟨x,by rw [cell_of_heap q1,Nat.add_assoc]; exact x1,cell_snap ih _ _ _ (by rw [c1]; exact hd) (by rw [c2 d hd]; exact x2)⟩
   ·exact .unk hone
  | slice id sz i c esz len =>
   simp only [snapSV]
   split
   ·rename_i k z m f hb
    cases h with
    | slice0=>split <;> exact .vints0
    | slice h1 hf hl hroom =>
     rename_i g n cap
     obtain ⟨e1,e2,hB⟩:=own_cells H hb h1
     obtain ⟨cells,T,fz,q1,q2,q3,q4⟩:=hB.cells
     simp only [Blk.sz,Blk.n] at e1 e2
     subst e1 e2
     rcases hf with ⟨rfl,rfl,hf⟩ | ⟨hne,hi,hf⟩
     ·rw [beq_t.2 rfl]
      refine .vints (.inr ⟨rfl,id,_,_,hb,h1⟩) (fun j hj d hd=>?_) hl
      obtain ⟨x,x1,x2⟩:=q4 (i+j) (show i+j < n by omega) d hd
      rw [cell_of_heap q1,show i * esz+0+j * esz+d=(i+j) * esz+d by rw [Nat.add_mul]; omega]
      have x1':cells[(i+j) * esz+d]?=some x:=x1
      rw [x1',RS.int_inv x2,Nat.zero_add]
     ·rw [beq_f.2 hne]
      refine .vints (.inr ⟨rfl,id,_,_,hb,h1⟩) (fun j hj d hd=>?_) hl
      have hle:=mul_lt_le (s:=esz) hj
      obtain ⟨x,x1,x2⟩:=q4 i hi (c+j * esz+d) (show c+j * esz+d < sz by omega)
      rw [cell_of_heap q1,show i * sz+c+j * esz+d=i * sz+(c+j * esz+d) by omega]
      have x1':cells[i * sz+(c+j * esz+d)]?=some x:=x1
      rw [x1',RS.int_inv x2]
   ·rename_i z m row hb
    cases h with
    | slice0=>split <;> exact .vrows0
    | slice h1 hf hl hroom =>
     rename_i g n cap
     obtain ⟨e1,e2,hB⟩:=own_cells H hb h1
     obtain ⟨cells,T,fz,q1,q2,q3,q4⟩:=hB.cells
     simp only [Blk.sz,Blk.n] at e1 e2
     subst e1 e2
     have hlens:=H.lens id _ hb
     rcases hf with ⟨rfl,rfl,hf⟩ | ⟨hne,hi,hf⟩
     ·rw [beq_t.2 rfl]
      have hcut:∀ j,j < len → lenS (cutS (row (i+j)) 0 esz)=esz ∧ ∀ d,d < esz → cellAt (cutS (row (i+j)) 0 esz) d=cellAt (row (i+j)) (0+d):=fun j hj =>
       cutS_spec (by have:=hlens (i+j) (show i+j < n by omega); simp only [Blk.segs,Blk.sz] at this; omega)
      have key:∀ j,j < len → ∀ d,d < esz → ∃ x,w.cell? ⟨g,i * esz+0+j * esz+d,none⟩=some x ∧ RS noσ (prCall tg σ pr hp) w (cellAt ((cutS (row (i+j)) 0 esz).map (snapSeg (snapSV tg hp fuel))) d) x:=fun j hj d hd=>by
       obtain ⟨x,x1,x2⟩:=q4 (i+j) (show i+j < n by omega) d hd
       refine ⟨x,?_,cell_snap ih _ _ _ (by rw [(hcut j hj).1]; exact hd) (by rw [(hcut j hj).2 d hd,Nat.zero_add]; exact x2)⟩
       rw [cell_of_heap q1,show i * esz+0+j * esz+d=(i+j) * esz+d by rw [Nat.add_mul]; omega]; exact x1
      refine .vrows (fun j d=>(w.cell? ⟨g,i * esz+0+j * esz+d,none⟩).getD undef) (.inr ⟨rfl,id,_,_,hb,h1⟩) (fun j hj d hd=>?_) (fun j hj d hd=>?_) (fun j hj=>by rw [lenS_snap,(hcut j hj).1]; exact Nat.le_refl _) hl
      ·obtain ⟨x,x1,_⟩:=key j hj d hd; rw [x1]; rfl
      ·obtain ⟨x,x1,x2⟩:=key j hj d hd; rw [x1]; exact x2
     ·rw [beq_f.2 hne]
      have hlen:=hlens i hi
      simp only [Blk.segs,Blk.sz] at hlen
      have hcut:∀ j,j < len → lenS (cutS (row i) (c+j * esz) esz)=esz ∧ ∀ d,d < esz → cellAt (cutS (row i) (c+j * esz) esz) d=cellAt (row i) (c+j * esz+d):=fun j hj =>
       cutS_spec (by have:=mul_lt_le (s:=esz) hj; omega)
      have key:∀ j,j < len → ∀ d,d < esz → ∃ x,w.cell? ⟨g,i * sz+c+j * esz+d,none⟩=some x ∧ RS noσ (prCall tg σ pr hp) w (cellAt ((cutS (row i) (c+j * esz) esz).map (snapSeg (snapSV tg hp fuel))) d) x:=fun j hj d hd=>by
       have hle:=mul_lt_le (s:=esz) hj
       obtain ⟨x,x1,x2⟩:=q4 i hi (c+j * esz+d) (show c+j * esz+d < sz by omega)
       refine ⟨x,?_,cell_snap ih _ _ _ (by rw [(hcut j hj).1]; exact hd) (by rw [(hcut j hj).2 d hd]; exact x2)⟩
       rw [cell_of_heap q1,show i * sz+c+j * esz+d=i * sz+(c+j * esz+d) by omega]; exact x1
      refine .vrows (fun j d=>(w.cell? ⟨g,i * sz+c+j * esz+d,none⟩).getD undef) (.inr ⟨rfl,id,_,_,hb,h1⟩) (fun j hj d hd=>?_) (fun j hj d hd=>?_) (fun j hj=>by rw [lenS_snap,(hcut j hj).1]; exact Nat.le_refl _) hl
      ·obtain ⟨x,x1,_⟩:=key j hj d hd; rw [x1]; rfl
      ·obtain ⟨x,x1,x2⟩:=key j hj d hd; rw [x1]; exact x2
   ·exact .unk hone
  | vptr t segs =>
   obtain ⟨b,off,rfl,h1,h2⟩:=RS.vptr_inv h
   simp only [snapSV]
   refine RS.mk_vptr (.inl h1) (fun c hc=>?_)
   rw [lenS_snap] at hc
   obtain ⟨x,x1,x2⟩:=h2 c hc
   exact ⟨x,x1,cell_snap ih _ _ _ hc x2⟩
  | vrows t sz len row =>
   simp only [snapSV]
   cases h with
   | vrows0=>exact .vrows0
   | vrows vs h1 h2 h3 hs hl =>
    exact .vrows vs (.inl h1) h2 (fun j hj c hc=>cell_snap ih _ _ _ (Nat.lt_of_lt_of_le hc (hs j hj)) (h3 j hj c hc)) (fun j hj=>by rw [lenS_snap]; exact hs j hj) hl
  | clo f caps =>
   simp only [snapSV]
   obtain ⟨vs,rfl,h1,h2⟩:=RS.clo_inv h
   refine .clo vs (by simpa using h1) (fun i hi=>?_)
   have hi':i < caps.length:=by simpa using hi
   have:=ih _ _ (h2 i hi')
   simp only [List.getD,List.getElem?_map,List.getElem?_eq_getElem hi',Option.map_some,Option.getD_some] at this ⊢
   exact this
  | bnd f segs =>
   simp only [snapSV]
   obtain ⟨cs,rfl,h1⟩:=RS.bnd_inv h
   refine RS.mk_bnd ⟨by rw [lenS_snap]; exact h1.1,fun c x hx=>?_⟩
   have hc:c < lenS segs:=by rw [← h1.1]; exact (List.getElem?_eq_some_iff.1 hx).1
   exact cell_snap ih _ _ _ hc (h1.2 c x hx)
  | unk=>exact .unk hone
  | int k n=>rw [RS.int_inv h]; exact .int
  | bit b=>cases h; exact .bit
  | bool b=>rw [RS.bool_inv h]; exact .bool
  | str s=>rw [RS.str_inv h]; exact .str
  | nilp=>rw [RS.nilp_inv h]; exact .nilp
  | nils=>rw [RS.nils_inv h]; exact .nils
  | raw v'=>cases h; exact .raw hone
  | vints t k sz len f =>
   cases h with
   | vints0=>exact .vints0
   | vints h1 h2 hl=>exact .vints (.inl h1) h2 hl
theorem snapA_spec (tg:Bool) (H:HI w0 own0 σ pr hp w) {a:AV} {v:Value} (h:RV σ pr w a v):RV noσ (prCall tg σ pr hp) w (snapA tg hp a) v:=by
 cases a with
 | any=>trivial
 | tup l=>trivial
 | sc s=>exact snap_spec tg H 9 s v h
 | agg s =>
  obtain ⟨cs,rfl,hg⟩:=h
  refine ⟨cs,rfl,by rw [lenS_snap]; exact hg.1,fun c v hv=>?_⟩
  exact cell_snap (snap_spec tg H 9) _ _ _ (by rw [← hg.1]; exact (List.getElem?_eq_some_iff.1 hv).1) (hg.2 c v hv)
end
end Go.AM
namespace Go.AM
open Go Go.RowKit
def ArgsOK (σ:Sg) (pr:Pr) (w:World) (args:List AV) (vs:List Value):Prop :=
 vs.length=args.length ∧ ∀ (i:Nat) (a:AV) (x:Value),args[i]?=some a → vs[i]?=some x → RV σ pr w a x
def Pure (P:Program) (f:FuncId) (args:List AV) (r:AV):Prop :=
 ∀ (pr:Pr) (w:World) (vs:List Value),ArgsOK noσ pr w args vs → (∀ t b,pr t b → b < w.heap.size) →
  (∃ val,(callFunc f vs.toArray).run P w=.ok (.value val) w ∧ RV noσ (fun _ _=>False) w r val) ∨
  ((callFunc f vs.toArray).run P w=.ok (.enter f vs.toArray) w ∧ Calls P f vs.toArray w (fun e w'=>∃ val,e=.returned val ∧ Below w.heap.size w w' ∧
    RV noσ (fun t b=>t=true ∧ (pr true b ∨ (w.heap.size ≤ b ∧ b < w'.heap.size))) w' r val))
def Eff (P:Program) (f:FuncId) (args:List AV) (hp:Heap) (r:AV) (hp':Heap):Prop :=
 ∀ (w0:World) (own0:Own) (σ:Sg) (pr:Pr) (w:World) (vs:List Value),HI w0 own0 σ pr hp w → ArgsOK σ pr w args vs →
  (callFunc f vs.toArray).run P w=.ok (.enter f vs.toArray) w ∧ Calls P f vs.toArray w (fun e w'=>∃ σ' pr' val,e=.returned val ∧ Out w0 own0 σ pr hp w hp.length r hp' val σ' pr' w')
def Sub (h0 hp:Heap):Prop:=h0.length=hp.length ∧ ∀ (id:Nat) (b:Blk),h0[id]?=some (some b) → hp[id]?=some (some b)
theorem Sub.refl (hp:Heap):Sub hp hp:=⟨rfl,fun _ _ h=>h⟩
structure EnvOK (P:Program) (E:Env):Prop where
 nones:∀ f O,E.W f=some O → ∀ args hp r hp',O args hp=some (r,hp') → ∀ (id:Nat),hp[id]?=some none → hp'[id]?=some none
 ty:EnvTy P E
 T:∀ f args r,E.T f args=some r → Pure P f args r
 W:∀ f O,E.W f=some O → ∀ args hp r hp',O args hp=some (r,hp') → Eff P f args hp r hp'
section
variable {P:Program} {E:Env} {σ:Sg} {pr:Pr} {w w0:World} {own0:Own} {hp:Heap} {ρ:Operand → AV} {γ:Operand → Value}
def After (P:Program) (w0:World) (own0:Own) (σ:Sg) (pr:Pr) (hp:Heap) (w:World) (sl:Nat) (v:AV) (hp':Heap):Result Next → Prop
 | .ok (.value val) w'=>∃ σ' pr',Out w0 own0 σ pr hp w sl v hp' val σ' pr' w'
 | .ok .skip w'=>∃ σ' pr',Out w0 own0 σ pr hp w sl v hp' undef σ' pr' w'
 | .ok (.enter f args) w'=>Calls P f args w' (fun e w''=>∃ val σ' pr',e=.returned val ∧ Out w0 own0 σ pr hp w sl v hp' val σ' pr' w'')
 | _=>False
theorem args_list (hρ:∀ x,RV σ pr w (ρ x) (γ x)) (xs:List Operand) {caps:List SV} {vs:List Value} (h1:vs.length=caps.length) (h2:∀ i,i < caps.length → RS σ pr w (caps.getD i .unk) (vs.getD i undef)) :
  ArgsOK σ pr w (xs.map ρ ++ caps.map .sc) (xs.map γ ++ vs):=by
 refine ⟨by simp [h1],fun i a x ha hx=>?_⟩
 by_cases hi:i < xs.length
 ·rw [List.getElem?_append_left (by simpa using hi)] at ha hx
  simp [hi] at ha hx
  subst ha hx
  exact hρ _
 ·rw [List.getElem?_append_right (by simp; omega)] at ha hx
  simp only [List.length_map] at ha hx
  have hlt:i - xs.length < caps.length:=by
   have:=(List.getElem?_eq_some_iff.1 ha).1
   simpa using this
  have:=h2 _ hlt
  simp only [List.getD,List.getElem?_eq_getElem hlt,List.getElem?_eq_getElem (show i - xs.length < vs.length by omega),Option.getD_some] at this
  simp only [List.getElem?_map,List.getElem?_eq_getElem hlt,Option.map_some,Option.some.injEq] at ha
  rw [List.getElem?_eq_getElem (show i - xs.length < vs.length by omega)] at hx
  simp only [Option.some.injEq] at hx
  subst ha hx
  exact this
theorem ArgsOK.snap (H:HI w0 own0 σ pr hp w) {args:List AV} {vs:List Value} (h:ArgsOK σ pr w args vs):ArgsOK noσ (prCall false σ pr hp) w (args.map (snapA false hp)) vs:=by
 refine ⟨by simp [h.1],fun i a x ha hx=>?_⟩
 simp only [List.getElem?_map,Option.map_eq_some_iff] at ha
 obtain ⟨a',ha',rfl⟩:=ha
 exact snapA_spec false H (h.2 i a' x ha' hx)
theorem HI.sub (H:HI w0 own0 σ pr hp w) {h0:Heap} (hs:Sub h0 hp):HI w0 own0 σ pr h0 w :=
 ⟨fun id h=>H.fresh id (by rw [← hs.1]; exact h),fun id b h=>H.blk id b (hs.2 id b h),fun j j' b b' g x x' h1 h2=>H.inj j j' b b' g x x' (hs.2 _ _ h1) (hs.2 _ _ h2),
  fun j b h=>H.lens j b (hs.2 _ _ h),H.ev,H.prlt,H.prnew⟩
theorem after_pure' (H:HI w0 own0 σ pr hp w) {h0:Heap} (hsub:Sub h0 hp) {f:FuncId} {args:List AV} {vs:List Value} {r:AV} (hP:Pure P f (args.map (snapA false h0)) r) (ha:ArgsOK σ pr w args vs) (sl:Nat) :
  After P w0 own0 σ pr hp w sl r hp ((callFunc f vs.toArray).run P w):=by
 have H0:=H.sub hsub
 have hlt:∀ t b,prCall false σ pr h0 t b → b < w.heap.size:=fun t b h=>by
  rcases h with h | ⟨_,id,blk,x,h1,h2⟩
  ·exact H.prlt t b h
  ·rcases H0.blk id blk h1 with ⟨h3,_⟩ | ⟨g,h3,hB⟩
   ·rw [h3] at h2; cases h2
   ·rw [h3] at h2
    simp only [Option.some.injEq,Prod.mk.injEq] at h2
    obtain ⟨cells,T,fz,q1,_⟩:=hB.cells
    rw [← h2.1]; exact lt_of_heap q1
 rcases hP (prCall false σ pr h0) w vs (ha.snap H0) hlt with ⟨val,h1,h2⟩ | ⟨h1,h2⟩
 ·rw [h1]
  refine ⟨σ,pr,Le.refl _ _ _,H,?_,fun _ _ _=>rfl,Nat.le_refl _⟩
  exact RV.mono ⟨fun _ _ h=>by simp [noσ] at h,fun _ _ h=>h.elim,fun _ _ _=>rfl,fun b cells T fz h=>⟨cells,fz,h,rfl⟩,Nat.le_refl _⟩ h2
 ·rw [h1]
  refine h2.mono fun e w' hq=>?_
  obtain ⟨val,he,hb,hv⟩:=hq
  have hpr':∀ t b,pr t b → w'.heap[b]?=w.heap[b]?:=fun t b h=>hb.block b (H.prlt t b h)
  let pr':Pr:=fun t b=>pr t b ∨ (t=true ∧ w.heap.size ≤ b ∧ b < w'.heap.size)
  have hL:Le σ pr w σ pr' w':=⟨fun _ _ h=>h,fun _ _ h=>.inl h,hpr',fun b cells T fz h=>⟨cells,fz,by rw [hb.block b (lt_of_heap h)]; exact h,rfl⟩,hb.size⟩
  refine ⟨val,σ,pr',he,hL,⟨H.fresh,fun id b hbk=>?_,H.inj,H.lens,H.ev.step hb.os hb.tape hb.output hb.size (fun b h1 _=>hb.block b (Nat.lt_of_lt_of_le h1 H.ev.size)),fun t b h=>?_,fun t b h=>?_⟩,?_,fun _ _ _=>rfl,Nat.le_refl _⟩
  ·rcases H.blk id b hbk with h | ⟨g,q1,q2⟩
   ·exact .inl h
   ·obtain ⟨cells,T,fz,q3,_⟩:=q2.cells
    have hg:=lt_of_heap q3
    refine .inr ⟨g,q1,q2.mono hL (fun t h=>?_) (hb.block g hg)⟩
    rcases h with h | ⟨_,h,_⟩
    ·exact q2.free t h
    ·omega
  ·rcases h with h | ⟨_,_,h⟩
   ·exact Nat.lt_of_lt_of_le (H.prlt t b h) hb.size
   ·exact h
  ·rcases h with h | ⟨h1,h2,_⟩
   ·exact H.prnew t b h
   ·exact .inr ⟨h1,.inr (Nat.le_trans H.ev.size h2)⟩
  ·refine RV.mono ⟨fun _ _ h=>by simp [noσ] at h,fun t b h=>?_,fun _ _ _=>rfl,fun b cells T fz h=>⟨cells,fz,h,rfl⟩,Nat.le_refl _⟩ hv
   obtain ⟨rfl,h | h⟩:=h
   ·rcases h with h | ⟨h,_⟩
    ·exact .inl h
    ·cases h
   ·exact .inr ⟨rfl,h⟩
theorem after_pure (H:HI w0 own0 σ pr hp w) {f:FuncId} {args:List AV} {vs:List Value} {r:AV} (hP:Pure P f (args.map (snapA false hp)) r) (ha:ArgsOK σ pr w args vs) (sl:Nat) :
  After P w0 own0 σ pr hp w sl r hp ((callFunc f vs.toArray).run P w):=after_pure' H (Sub.refl hp) hP ha sl
theorem run_call {f x:Operand} {args:Array Operand} {ts:Array TypeId} {fid:FuncId} {vs:List Value} (hf:γ f=.func (.func fid) #[] vs.toArray) {d t p e g} :
  (execOp γ ⟨d,.call ⟨.value f,args,ts⟩,t,p,e,g⟩).run P w=(callFunc fid (args.toList.map γ ++ vs).toArray).run P w:=by
 have:(args.map γ ++ vs.toArray)=(args.toList.map γ ++ vs).toArray:=by
  apply Array.ext'; simp
 simp only [execOp,resolve,hf,Deferred.ofValue,Sem.run_bind,Sem.run_pure,Result.andThen_ok,invoke,Array.empty_append,this]
theorem a_readCall (EO:EnvOK P E) (hρ:∀ x,RV σ pr w (ρ x) (γ x)) (H:HI w0 own0 σ pr hp w) {h0:Heap} (hsub:Sub h0 hp) {f:Operand} {args:Array Operand} {ts:Array TypeId} {v:AV} (h:readOp E ρ h0 (.call ⟨.value f,args,ts⟩)=some v) (sl:Nat) {d t p e g} :
  After P w0 own0 σ pr hp w sl v hp ((execOp γ ⟨d,.call ⟨.value f,args,ts⟩,t,p,e,g⟩).run P w):=by
 have hf:=hρ f
 simp only [readOp] at h
 split at h
 case h_2=>simp at h
 rename_i fid caps hfv
 rw [hfv] at hf
 obtain ⟨vs,ef,l1,l2⟩:=RS.clo_inv hf
 split at h
 ·simp at h
 have hP:=EO.T _ _ _ h
 rw [run_call (x:=f) ef]
 have hargs:=args_list hρ args.toList l1 l2
 have:=after_pure' H hsub (f:=fid) (args:=args.toList.map ρ ++ caps.map .sc) (vs:=args.toList.map γ ++ vs) (r:=v) (by rw [List.map_append,List.map_map,List.map_map]; exact hP) hargs sl
 exact this
theorem run_callB {f x:Operand} {args:Array Operand} {ts:Array TypeId} {fid:FuncId} {cs:Array Value} (hf:γ f=.func (.func fid) #[.agg cs] #[]) {d t p e g} :
  (execOp γ ⟨d,.call ⟨.value f,args,ts⟩,t,p,e,g⟩).run P w=(callFunc fid (.agg cs :: args.toList.map γ).toArray).run P w:=by
 have:(#[Value.agg cs] ++ args.map γ ++ #[])=(.agg cs :: args.toList.map γ).toArray:=by
  apply Array.ext'; simp
 simp only [execOp,resolve,hf,Deferred.ofValue,Sem.run_bind,Sem.run_pure,Result.andThen_ok,invoke,this]
theorem a_writeCall (EO:EnvOK P E) (hρ:∀ x,RV σ pr w (ρ x) (γ x)) (H:HI w0 own0 σ pr hp w) {f:Operand} {args:Array Operand} {ts:Array TypeId} {v:AV} {hp':Heap} {sl:Nat} (hsl:sl ≤ hp.length ∨ True) (h:writeOp E ρ hp sl (.call ⟨.value f,args,ts⟩)=some (v,hp')) {d t p e g} :
  After P w0 own0 σ pr hp w hp.length v hp' ((execOp γ ⟨d,.call ⟨.value f,args,ts⟩,t,p,e,g⟩).run P w):=by
 have hf:=hρ f
 simp only [writeOp] at h
 split at h
 case h_3=>simp at h
 case h_2 =>
  rename_i fid s hfv
  rw [hfv] at hf
  obtain ⟨cs,ef,hg⟩:=RS.bnd_inv hf
  split at h
  case h_2=>simp at h
  rename_i r hr
  simp only [Option.some.injEq,Prod.mk.injEq] at h
  obtain ⟨rfl,rfl⟩:=h
  have hP:=EO.T _ _ _ hr
  rw [run_callB (x:=f) ef]
  refine after_pure H (f:=fid) (args:=.agg s :: args.toList.map ρ) (vs:=.agg cs :: args.toList.map γ) (r:=r) (by rw [List.map_cons,List.map_map]; exact hP) ⟨by simp,fun j a x e1 e2=>?_⟩ _
  cases j with
  | zero =>
   simp only [List.getElem?_cons_zero,Option.some.injEq] at e1 e2
   subst e1 e2
   exact RV.of_agg hg
  | succ j =>
   simp only [List.getElem?_cons_succ,List.getElem?_map,Option.map_eq_some_iff] at e1 e2
   obtain ⟨y,y1,rfl⟩:=e1
   obtain ⟨y',y1',rfl⟩:=e2
   rw [y1] at y1'
   simp only [Option.some.injEq] at y1'
   subst y1'
   exact hρ y
 rename_i fid caps hfv
 rw [hfv] at hf
 obtain ⟨vs,ef,l1,l2⟩:=RS.clo_inv hf
 rw [run_call (x:=f) ef]
 have hargs:=args_list hρ args.toList l1 l2
 split at h
 ·rename_i O hO
  obtain ⟨q1,q2⟩:=EO.W _ _ hO _ _ _ _ h w0 own0 σ pr w _ H hargs
  rw [q1]
  refine q2.mono fun e w' hq=>?_
  obtain ⟨σ',pr',val,he,ho⟩:=hq
  exact ⟨val,σ',pr',he,ho⟩
 ·split at h
  ·rename_i r hr
   simp only [Option.some.injEq,Prod.mk.injEq] at h
   obtain ⟨rfl,rfl⟩:=h
   have hP:=EO.T _ _ _ hr
   exact after_pure H (f:=fid) (args:=args.toList.map ρ ++ caps.map .sc) (vs:=args.toList.map γ ++ vs) (r:=r) (by rw [List.map_append,List.map_map,List.map_map]; exact hP) hargs _
  ·simp at h
end
end Go.AM
namespace Go.AM
open Go Go.RowKit
section
variable {P:Program} {E:Env} {σ:Sg} {pr:Pr} {w w0:World} {own0:Own} {hp:Heap} {ρ:Operand → AV} {γ:Operand → Value}
theorem freeze_heap (w:World) (g n m:Nat) {cells:Array Value} {T:TypeId} {fz:Nat × Nat} (h:w.heap[g]?=some (.cells cells T fz)) :
  ∃ fz',(w.freeze ⟨g,n,none⟩ 1).heap[g]?=some (.cells cells T fz') ∧ (fz'.1=fz'.2 ∨ min fz.1 n ≤ fz'.1 ∧ (fz.1=fz.2 → fz'.1=n)):=by
 obtain ⟨lo,hi⟩:=fz
 refine ⟨if lo == hi then (n,n+1) else (min lo n,max hi (n+1)),?_,.inr ?_⟩
 ·simp [World.freeze,Array.getElem?_modify,h]
 ·by_cases e:lo=hi
  ·simp [e]; try omega
  ·simp [e]; try exact Nat.le_refl _
theorem cell_at {w:World} {g n:Nat} {cells:Array Value} {T:TypeId} {fz:Nat × Nat} (h:w.heap[g]?=some (.cells cells T fz)):w.cell? ⟨g,n,none⟩=cells[n]?:=by
 simp [World.cell?,h]
theorem bytesRow_at (s:ByteArray) (cap:Nat) {j:Nat} (hj:j < s.data.toList.length):(bytesRow s cap)[j]?=some (.int .u8 ((s.data.toList.getD j 0).toNat:Int)):=by
 have hj':j < s.data.size:=by simpa using hj
 unfold bytesRow
 rw [Array.getElem?_append_left (by simpa using hj')]
 simp only [Array.getElem?_map,Array.getElem?_eq_getElem hj',Option.map_some,List.getD,List.getElem?_eq_getElem hj,Option.getD_some,Array.getElem_toList]
theorem m_bytes (H:HI w0 own0 σ pr hp w) {s dd el:TypeId} {x:Operand} {str:ByteArray} (hu:P.underlying dd=some (.slice el)) (huF:P.underlying el=some (.int .u8)) (ex:γ x=.string str) (hs:P.underlying s=some .string) (sl:Nat) {d t p e g} :
  After P w0 own0 σ pr hp w sl (.sc (.vints true .u8 1 str.data.toList.length (fun j _=>((str.data.toList.getD j 0).toNat:Int)))) hp ((execOp γ ⟨d,.convert s dd x,t,p,e,g⟩).run P w):=by
 have hrun:=run_bytes_of_string w s dd el str hs hu huF
 generalize hcap:grownCap w str.size 0 el=cap at hrun
 have hrun':(execOp γ ⟨d,.convert s dd x,t,p,e,g⟩).run P w=.ok (.value (.slice (some ⟨w.heap.size,0,none⟩) str.size cap))
   (w.drew.alloc (.cells (bytesRow str cap) el ((bytesRow str cap).size,(bytesRow str cap).size+1))):=by
  simp only [execOp,ex,Sem.run_bind,hrun,Result.andThen_ok]; rfl
 rw [hrun']
 have hdh:w.drew.heap=w.heap:=rfl
 have hold:∀ i,i < w.heap.size → (w.drew.alloc (.cells (bytesRow str cap) el ((bytesRow str cap).size,(bytesRow str cap).size+1))).heap[i]?=w.heap[i]?:=fun i hi=>heap_old w.drew _ (by rw [hdh]; exact hi)
 have hnew:=heap_new w.drew (.cells (bytesRow str cap) el ((bytesRow str cap).size,(bytesRow str cap).size+1))
 have hsz:=heap_size w.drew (.cells (bytesRow str cap) el ((bytesRow str cap).size,(bytesRow str cap).size+1))
 rw [hdh] at hnew hsz
 let pr':Pr:=fun t b=>pr t b ∨ (t=true ∧ b=w.heap.size)
 have hL:Le σ pr w σ pr' (w.drew.alloc (.cells (bytesRow str cap) el ((bytesRow str cap).size,(bytesRow str cap).size+1))) :=
  ⟨fun _ _ h=>h,fun _ _ h=>.inl h,fun t b h=>hold b (H.prlt t b h),fun b cells T fz h=>⟨cells,fz,by rw [hold b (lt_of_heap h)]; exact h,rfl⟩,by rw [hsz]; omega⟩
 refine ⟨σ,pr',hL,⟨H.fresh,fun id b hbk=>?_,H.inj,H.lens,H.ev.step rfl rfl rfl (by rw [hsz]; omega) (fun b h1 _=>hold b (Nat.lt_of_lt_of_le h1 H.ev.size)),fun t b h=>?_,fun t b h=>?_⟩,?_,fun _ _ _=>rfl,Nat.le_refl _⟩
 ·rcases H.blk id b hbk with h | ⟨g,q1,q2⟩
  ·exact .inl h
  ·obtain ⟨cells,T,fz,q3,_⟩:=q2.cells
   have hg:=lt_of_heap q3
   refine .inr ⟨g,q1,q2.mono hL (fun t h=>?_) (hold g hg)⟩
   rcases h with h | ⟨_,h⟩
   ·exact q2.free t h
   ·omega
 ·rw [hsz]
  rcases h with h | ⟨_,h⟩
  ·exact Nat.lt_succ_of_lt (H.prlt t b h)
  ·omega
 ·rcases h with h | ⟨h1,h2⟩
  ·exact H.prnew t b h
  ·exact .inr ⟨h1,.inr (by rw [h2]; exact H.ev.size)⟩
 ·have hlen:str.size=str.data.toList.length:=rfl
  refine RV.of_sc ?_
  rw [hlen]
  by_cases h0:str.data.toList.length=0
  ·rw [h0]; exact .vints0
  refine .vints (.inr ⟨rfl,rfl⟩) (fun j hj c hc=>?_) ?_
  ·have:c=0:=by omega
   subst this
   have hb:=bytesRow_at str cap hj
   rw [cell_at hnew,show 0+j * 1+0=j by omega,hb]
  ·rw [← hcap,← hlen]
   exact grownCap_ge _ _ _ _
theorem m_mark (EO:EnvOK P E) (hρ:∀ x,RV σ pr w (ρ x) (γ x)) (H:HI w0 own0 σ pr hp w) {s dd:TypeId} {x:Operand} {v:AV} (hs:CV P s dd) (h:readOp E ρ hp (.convert s dd x)=some v) (sl:Nat) {d t p e g} :
  After P w0 own0 σ pr hp w sl v hp ((execOp γ ⟨d,.convert s dd x,t,p,e,g⟩).run P w):=by
 have hx:=hρ x
 simp only [readOp] at h
 split at h
 ·rename_i id sz i c esz len el _ _ _ _ hxv hT
  rw [hxv] at hx
  split at h
  case h_2=>simp at h
  rename_i F1 F2 F3 F4 hF
  split at h
  case h_2=>simp at h
  rename_i b hk hb
  simp only [Bool.and_eq_true,beq_t,ble_t] at hk
  obtain ⟨rfl,k2⟩:=hk
  simp only [Option.some.injEq] at h; subst h
  have hx:RS σ pr w (.slice id sz i c esz len) (γ x):=hx
  have hu:=under_slice (EO.ty.ty _ _ hT) rfl
  have huF:P.underlying el=some (.int .u8):=by
   obtain ⟨D,hD,eD⟩:=(EO.ty.ty _ _ hF).desc
   have:=td_int eD; subst this; exact hD
  generalize hgx:γ x=gx at hx
  have hx0:=hx
  cases hx with
  | slice0=>omega
  | slice h1 hf hl hroom =>
   rename_i g0 n cap
   obtain ⟨rfl,rfl,hB⟩:=own_cells H hb h1
   obtain ⟨cells,T,fz,q1,q2,q3,q4⟩:=hB.cells
   have hrun:(execOp γ ⟨d,.convert s s x,t,p,e,g⟩).run P w=.ok (.value (.slice (some ⟨g0,i * b.sz+c,none⟩) len cap)) (w.freeze ⟨g0,cells.size,none⟩ 1):=by
    simp [execOp,hgx,convert,run_underlying hu,run_underlying huF,markStringish,World.shape?,q1]
   rw [hrun]
   obtain ⟨fz',f1,f2⟩:=freeze_heap w g0 cells.size 0 q1
   have hoth:∀ k,k ≠ g0 → (w.freeze ⟨g0,cells.size,none⟩ 1).heap[k]?=w.heap[k]?:=fun k hk=>by
    simp only [World.freeze]
    rw [if_neg (by decide)]
    simp only [Array.getElem?_modify]
    rw [if_neg (fun e=>hk e.symm)]
   have hsize:(w.freeze ⟨g0,cells.size,none⟩ 1).heap.size=w.heap.size:=by simp [World.freeze]
   have hrest:(w.freeze ⟨g0,cells.size,none⟩ 1).os=w.os ∧ (w.freeze ⟨g0,cells.size,none⟩ 1).tape=w.tape ∧ (w.freeze ⟨g0,cells.size,none⟩ 1).output=w.output:=by simp [World.freeze]
   have hfz:fz'.1=fz'.2 ∨ cells.size ≤ fz'.1:=by
    rcases f2 with h | ⟨h,h'⟩
    ·exact .inl h
    ·rcases q2 with q | q
     ·exact .inr (by rw [h' q]; exact Nat.le_refl _)
     ·exact .inr (by omega)
   have hL:Le σ pr w σ pr (w.freeze ⟨g0,cells.size,none⟩ 1):=by
    refine ⟨fun _ _ h=>h,fun _ _ h=>h,fun t b1 hb1=>hoth b1 (by rintro rfl; exact hB.free t hb1),fun b1 cs T' fz1 hb1=>?_,by rw [hsize]; exact Nat.le_refl _⟩
    by_cases e:b1=g0
    ·subst e
     rw [q1] at hb1
     simp only [Option.some.injEq,Obj.cells.injEq] at hb1
     obtain ⟨rfl,rfl,rfl⟩:=hb1
     exact ⟨cells,fz',f1,rfl⟩
    ·exact ⟨cs,fz1,by rw [hoth b1 e]; exact hb1,rfl⟩
   refine ⟨σ,pr,hL,⟨H.fresh,fun j c' hj=>?_,H.inj,H.lens,H.ev.step hrest.1 hrest.2.1 hrest.2.2 (by rw [hsize]; exact Nat.le_refl _) (fun b1 hb1 hb2=>hoth b1 ?_),fun t b1 hb1=>by rw [hsize]; exact H.prlt t b1 hb1,H.prnew⟩,RV.of_sc (hx0.mono hL),fun _ _ _=>rfl,Nat.le_refl _⟩
   ·rcases H.blk j c' hj with h | ⟨g',e1,e2⟩
    ·exact .inl h
    ·refine .inr ⟨g',e1,?_⟩
     by_cases e:g'=g0
     ·subst e
      obtain ⟨cells',T',fz1,w1,w2,w3,w4⟩:=e2.cells
      rw [q1] at w1
      simp only [Option.some.injEq,Obj.cells.injEq] at w1
      obtain ⟨rfl,rfl,rfl⟩:=w1
      refine ⟨e2.free,e2.own,cells,T,fz',f1,hfz,w3,fun i1 hi1 c1 hc1=>?_⟩
      obtain ⟨y,y1,y2⟩:=w4 i1 hi1 c1 hc1
      exact ⟨y,y1,y2.mono hL⟩
     ·exact e2.mono hL e2.free (hoth g' e)
   ·rintro rfl
    rcases hB.own with h | h
    ·exact hb2 h
    ·omega
 ·rename_i k0 n k _ _ _ _ hxv hT
  rw [hxv] at hx
  have ex:=RS.int_inv hx
  simp only [Option.some.injEq] at h; subst h
  obtain ⟨⟨Ds,hDs⟩,_⟩:=hs
  have hrun:(execOp γ ⟨d,.convert s dd x,t,p,e,g⟩).run P w=.ok (.value (.int k (k.wrap n))) w:=by
   simp only [execOp,ex,Sem.run_bind,run_conv_int (EO.ty.ty _ _ hT) rfl (run_underlying hDs w),Result.andThen_ok]; rfl
  rw [hrun]
  exact ⟨σ,pr,Le.refl _ _ _,H,RV.of_sc .int,fun _ _ _=>rfl,Nat.le_refl _⟩
 ·rename_i str el _ _ _ _ hxv hT
  rw [hxv] at hx
  have ex:γ x=.string str:=by
   have hx:RS σ pr w (.str str) (γ x):=hx
   generalize γ x=y at hx
   cases hx; rfl
  split at h
  case h_2=>simp at h
  rename_i F1 F2 F3 F4 hk hF
  simp only [Option.some.injEq] at h; subst h
  have hstr:P.underlying s=some .string:=hs.2 (fun e=>by rw [e] at hk; simp at hk) ⟨_,under_slice (EO.ty.ty _ _ hT) rfl⟩
  exact m_bytes H (under_slice (EO.ty.ty _ _ hT) rfl) (by
   obtain ⟨D,hD,eD⟩:=(EO.ty.ty _ _ hF).desc
   have:=td_int eD; subst this; exact hD) ex hstr sl
 ·simp at h
theorem Yld.after (H:HI w0 own0 σ pr hp w) {o:Oper} {v:AV} (h:Yld P σ pr w γ o v) (sl:Nat):After P w0 own0 σ pr hp w sl v hp ((execOp γ o).run P w):=by
 obtain ⟨val,h1,h2⟩:=h
 rw [h1]
 exact ⟨σ,pr,Le.refl _ _ _,H,h2,fun _ _ _=>rfl,Nat.le_refl _⟩
theorem read_sub {h0:Heap} (hsub:Sub h0 hp) {op:Op} (hn:∀ c,op ≠ .call c) {v:AV} (h:readOp E ρ h0 op=some v):readOp E ρ hp op=some v:=by
 cases op <;> try (simp [readOp] at h; done)
 case load ty x =>
  simp only [readOp] at h ⊢
  split at h
  ·rename_i T id sz i c ext hT hp0
   split at h
   case h_2=>simp at h
   rename_i b hk hb
   rw [hk,hsub.2 id b hb]
   exact h
  ·rename_i T tg s hT hp0
   exact h
  ·simp at h
 case convert s d x =>
  simp only [readOp] at h ⊢
  split at h
  ·rename_i id sz i c esz len el _ _ _ _ hxv hT
   split at h
   case h_2=>simp at h
   rename_i F1 F2 F3 F4 hF
   split at h
   case h_2=>simp at h
   rename_i b hk hb
   rw [hk,hsub.2 id b hb]
   exact h
  ·rename_i hxv hT
   exact h
  ·rename_i hxv hT
   exact h
  ·simp at h
 case call c=>exact absurd rfl (hn c)
theorem read_sound (EO:EnvOK P E) (hρ:∀ x,RV σ pr w (ρ x) (γ x)) (H:HI w0 own0 σ pr hp w) {o:Oper} (hcv:∀ s d x,o.op=.convert s d x → CV P s d) {h0:Heap} (hsub:Sub h0 hp) {v:AV}
  (h:readOp E ρ h0 o.op=some v):After P w0 own0 σ pr hp w hp.length v hp ((execOp γ o).run P w):=by
 obtain ⟨d,op,t,p,e,g⟩:=o
 dsimp only at hcv h
 by_cases hn:∀ c,op ≠ .call c
 ·have hv:=read_sub hsub hn h
  cases op <;> try (simp [readOp] at hv; done)
  case load ty x=>exact (m_load EO.ty hρ H hv).after H _
  case convert s dd x=>exact m_mark EO hρ H (hcv _ _ _ rfl) hv _
  case call c=>exact absurd rfl (hn c)
 ·have:∃ c,op=.call c:=Classical.byContradiction fun h=>hn fun c e=>h ⟨c,e⟩
  obtain ⟨c,rfl⟩:=this
  obtain ⟨cal,args,ts⟩:=c
  cases cal with
  | value f=>exact a_readCall EO hρ H hsub h _
  | builtin b=>simp [readOp] at h
  | invoke r m=>simp [readOp] at h
theorem step_sound (EO:EnvOK P E) (PO:ProgOK P) (hρ:∀ x,RV σ pr w (ρ x) (γ x)) (H:HI w0 own0 σ pr hp w) {o:Oper} {sl:Nat} (hslot:slotted o.op=true → hp[sl]?=some none ∧ σ sl=none)
  (hcv:∀ s d x,o.op=.convert s d x → CV P s d) {v:AV} {hp':Heap} (h:stepOp E ρ hp sl o.op=some (v,hp')) :
  ∃ sl',(slotted o.op=true → sl'=sl) ∧ (slotted o.op=false → hp.length ≤ sl') ∧ After P w0 own0 σ pr hp w sl' v hp' ((execOp γ o).run P w):=by
 obtain ⟨d,op,t,p,e,g⟩:=o
 unfold stepOp at h
 dsimp only at hslot hcv h ⊢
 cases hc:cls E.isW op with
 | pur =>
  simp only [hc] at h
  have hns:slotted op=false:=by
   cases op <;> try rfl
   all_goals first
    | (simp [cls] at hc; done)
    | (rename_i c; obtain ⟨cal,args,ts⟩:=c; cases cal <;> first | rfl | (rename_i b; cases b <;> first | rfl | (simp [cls] at hc)))
  split at h
  case h_2=>simp at h
  rename_i v' hv
  simp only [Option.some.injEq,Prod.mk.injEq] at h
  obtain ⟨rfl,rfl⟩:=h
  exact ⟨hp.length,by simp [hns],fun _=>Nat.le_refl _,(pure_sound EO.ty PO hρ (o:=⟨d,op,t,p,e,g⟩) hcv hv).after H _⟩
 | mk =>
  simp only [hc] at h
  split at h
  case h_2=>simp at h
  rename_i v' b hv
  simp only [Option.some.injEq,Prod.mk.injEq] at h
  obtain ⟨rfl,rfl⟩:=h
  have fin:∀ {o:Oper},(∃ val w' σ',(execOp γ o).run P w=.ok (.value val) w' ∧ Out w0 own0 σ pr hp w sl v' (hp.set sl (some b)) val σ' pr w') → After P w0 own0 σ pr hp w sl v' (hp.set sl (some b)) ((execOp γ o).run P w):=by
   rintro o ⟨val,w',σ',h1,h2⟩
   rw [h1]; exact ⟨σ',pr,h2⟩
  cases op <;> try (simp [makeOp] at hv; done)
  case alloc ty =>
   obtain ⟨s1,s2⟩:=hslot rfl
   exact ⟨sl,fun _=>rfl,fun h=>by simp [slotted] at h,fin (m_alloc EO.ty H s1 s2 hv)⟩
  case box ty x =>
   obtain ⟨s1,s2⟩:=hslot rfl
   exact ⟨sl,fun _=>rfl,fun h=>by simp [slotted] at h,fin (m_box EO.ty hρ H s1 s2 hv)⟩
  case buildSlice ty len ps =>
   obtain ⟨s1,s2⟩:=hslot rfl
   exact ⟨sl,fun _=>rfl,fun h=>by simp [slotted] at h,fin (m_buildSlice EO.ty hρ H s1 s2 hv)⟩
  case makeSlice ty x y =>
   obtain ⟨s1,s2⟩:=hslot rfl
   exact ⟨sl,fun _=>rfl,fun h=>by simp [slotted] at h,fin (m_makeSlice EO.ty hρ H s1 s2 hv)⟩
 | rd =>
  simp only [hc] at h
  split at h
  case h_2=>simp at h
  rename_i v' hv
  simp only [Option.some.injEq,Prod.mk.injEq] at h
  obtain ⟨rfl,rfl⟩:=h
  refine ⟨hp.length,fun h=>?_,fun _=>Nat.le_refl _,read_sound EO hρ H (o:=⟨d,op,t,p,e,g⟩) hcv (Sub.refl hp) hv⟩
  cases op <;> try (simp [slotted] at h; done)
  all_goals first
   | (simp [cls] at hc; done)
   | (rename_i c; obtain ⟨cal,args,ts⟩:=c; cases cal <;> first | (simp [slotted] at h; done) | (rename_i b; cases b <;> first | (simp [slotted] at h; done) | (simp [cls] at hc)))
 | wrt =>
  simp only [hc] at h
  cases op <;> try (simp [writeOp] at h; done)
  case store ty x y =>
   obtain ⟨w',h1,h2⟩:=m_store EO.ty hρ H (d:=d) (t:=t) (p:=p) (e:=e) (g:=g) h
   refine ⟨hp.length,fun h=>by simp [slotted] at h,fun _=>Nat.le_refl _,?_⟩
   rw [h1]
   exact ⟨σ,pr,h2.le,h2.hi,h2.rv,fun _ _ _=>rfl,h2.len⟩
  case call c =>
   obtain ⟨cal,args,ts⟩:=c
   cases cal with
   | value f=>exact ⟨hp.length,fun h=>by simp [slotted] at h,fun _=>Nat.le_refl _,a_writeCall EO hρ H (.inr trivial) h⟩
   | builtin b =>
    cases b <;> try (simp [writeOp] at h; done)
    case copy =>
     obtain ⟨val,w',h1,h2⟩:=m_copy EO.ty hρ H (sl:=hp.length) (d:=d) (t:=t) (p:=p) (e:=e) (g:=g) h
     refine ⟨hp.length,fun h=>by simp [slotted] at h,fun _=>Nat.le_refl _,?_⟩
     rw [h1]
     exact ⟨σ,pr,h2⟩
    obtain ⟨s1,s2⟩:=hslot rfl
    obtain ⟨val,w',σ',h1,h2⟩:=m_append EO.ty hρ H s1 s2 (d:=d) (t:=t) (p:=p) (e:=e) (g:=g) h
    refine ⟨sl,fun _=>rfl,fun h=>by simp [slotted] at h,?_⟩
    rw [h1]
    exact ⟨σ',pr,h2⟩
   | invoke r m=>simp [writeOp] at h
end
end Go.AM
namespace Go.AM
open Go Go.RowKit
def clsFree:Cls → Cls → Bool
 | .pur,_=>true
 | _,.pur=>true
 | .rd,.rd=>true
 | .rd,.mk=>true
 | .mk,.mk=>true
 | .mk,.rd=>true
 | _,_=>false
def ldSt:Op → Op → Bool
 | .load ..,.store ..=>true
 | _,_=>false
def apart2 (isW:Operand → Bool) (ops:Array Oper) (x y:Oper):Bool:=x.apart ops y && (clsFree (cls isW x.op) (cls isW y.op) || ldSt x.op y.op)
def addrOf:Op → Option Tmp
 | .load _ (.tmp t)=>some t
 | .store _ (.tmp t) _=>some t
 | _=>none
def keeps (t:Tmp):List Oper → Bool
 | []=>true
 | o :: r=>(match o.dst with | some d=>!Nat.beq d t | none=>true) && keeps t r
def reOK:List Oper → Bool
 | []=>true
 | o :: r=>(match addrOf o.op with | some t=>keeps t (o :: r) | none=>true) && reOK r
def waitsB (ops:Array Oper) (i:Nat):Nat → Nat → Bool
 | 0,_=>false
 | n+1,j=>match ops[j]? with
  | some oj=>oj.after.any fun e=>Region.binds .any e && (e.on == i || waitsB ops i n e.on)
  | none=>false
def free2 (isW:Operand → Bool) (ops:Array Oper) (listed:Array Bool) (i:Nat):Bool :=
 match ops[i]? with
 | none=>false
 | some oi=>(List.range ops.size).all fun j=>j == i || listed.getD j true || match ops[j]? with
   | some oj=>oj.after.any (fun e=>Region.binds .any e && e.on == i) || (apart2 isW ops oi oj || waitsB ops i 4 j)
   | none=>true
def lexFrom2 (isW:Operand → Bool) (ops:Array Oper):Nat → Nat → Array Bool → Bool
 | 0,_,listed=>(Region.ready .any ops listed).isEmpty
 | fuel+1,k,listed=>(Region.ready .any ops listed).contains k && free2 isW ops listed k && lexFrom2 isW ops fuel (k+1) (listed.setIfInBounds k true)
def regionOK (isW:Operand → Bool) (ops:Array Oper):Bool:=reOK ops.toList && (Region.noSelect ops && lexFrom2 isW ops ops.size 0 (Array.replicate ops.size false))
section
variable {P:Program} {E:Env}
inductive AStep (E:Env) (Bl Wr:Nat → Nat → Prop) (ops:List Oper) (base i:Nat) (o:Oper):St → St → Prop where
 | no {tm:List AV} {hp:Heap} (h:wanted ops tm o=some false):AStep E Bl Wr ops base i o ⟨tm,hp⟩ ⟨put o.dst (.tup []) tm,hp⟩
 | fn {tm:List AV} {hp hp':Heap} {v:AV} (h:wanted ops tm o=some true) (hc:cls E.isW o.op ≠ .rd) (hs:stepOp E (ev tm) hp (base+before ops i) o.op=some (v,hp'))
   (hst:∀ T x y,o.op=.store T x y → ∃ id b,hp'=hp.set id (some b) ∧ Wr i id):AStep E Bl Wr ops base i o ⟨tm,hp⟩ ⟨put o.dst v tm,hp'⟩
 | rd {tm:List AV} {hp h0:Heap} {v:AV} (h:wanted ops tm o=some true) (hc:cls E.isW o.op=.rd) (hsub:Sub h0 hp) (hs:readOp E (ev tm) h0 o.op=some v)
   (hb:∀ id b,h0[id]?=some (some b) → ¬ Bl i id):AStep E Bl Wr ops base i o ⟨tm,hp⟩ ⟨put o.dst v tm,hp⟩
theorem store_eff {ρ:Operand → AV} {hp hp':Heap} {sl:Nat} {T:TypeId} {x y:Operand} {v:AV} (h:stepOp E ρ hp sl (.store T x y)=some (v,hp')):∃ id b,hp'=hp.set id (some b) ∧ ptrId (ρ x)=some id:=by
 have hc:cls E.isW (.store T x y)=.wrt:=rfl
 unfold stepOp at h
 rw [hc] at h
 simp only [writeOp] at h
 split at h
 case h_2=>simp at h
 rename_i id0 sz i c ext g _ hx _
 split at h
 case h_2=>simp at h
 split at h
 case h_2=>simp at h
 simp only [Option.some.injEq,Prod.mk.injEq] at h
 obtain ⟨_,rfl⟩:=h
 exact ⟨_,_,rfl,by rw [hx]; rfl⟩
theorem AStep.of_plain {ops:List Oper} {base i:Nat} {o:Oper} {s s':St} (h:amStep E ops false base i o s=some s'):AStep E (fun _ _=>False) (fun _ _=>True) ops base i o s s':=by
 obtain ⟨tm,hp⟩:=s
 unfold amStep at h
 dsimp only at h
 split at h
 ·rename_i hw
  unfold amOp at h
  dsimp only at h
  split at h
  ·rename_i hc
   split at h
   ·rename_i v hv
    simp only [Option.some.injEq] at h; subst h
    exact .rd hw hc (Sub.refl _) hv (fun _ _ _=>id)
   ·simp at h
  ·rename_i hc
   split at h
   ·rename_i v hp' hs
    simp only [Option.some.injEq] at h; subst h
    refine .fn hw hc hs fun T x y e=>?_
    rw [e] at hs
    obtain ⟨id,b,e1,_⟩:=store_eff hs
    exact ⟨id,b,e1,trivial⟩
   ·simp at h
 ·rename_i hw
  simp only [Option.some.injEq] at h; subst h
  exact .no hw
 ·simp at h
theorem getA_put {tm:List AV} {dst:Option Tmp} {v:AV} {t:Nat} (h:∀ d,dst=some d → t ≠ d):getA (put dst v tm) t=getA tm t:=by
 cases dst with
 | none=>rfl
 | some d =>
  have:=h d rfl
  simp [getA,put,List.getElem?_set_ne (fun e=>this e.symm)]
theorem ev_put {tm:List AV} {dst:Option Tmp} {v:AV} {x:Operand} (h:∀ d,dst=some d → x ≠ .tmp d):ev (put dst v tm) x=ev tm x:=by
 cases x with
 | tmp t=>exact getA_put fun d hd e=>h d hd (by rw [e])
 | _=>rfl
theorem put_comm {tm:List AV} {x y:Option Tmp} (v u:AV) (h:∀ d,x=some d → y ≠ some d):put y u (put x v tm)=put x v (put y u tm):=by
 cases x with
 | none=>rfl
 | some d =>
  cases y with
  | none=>rfl
  | some e =>
   have hne:d ≠ e:=fun he=>h d rfl (he ▸ rfl)
   simp only [put]
   rw [List.set_comm _ _ hne]
theorem pairs_congr {ρ ρ':Operand → AV}:∀ (ps:List (Nat × Operand)) (h:∀ x ∈ ps.map (·.2),ρ x=ρ' x) (f:Nat → Option (Nat × Nat)) (s:List Seg),buildParts f ρ ps s=buildParts f ρ' ps s
 | [],_,f,s=>rfl
 | (i,x) :: ps,h,f,s=>by
  unfold buildParts
  rw [h x (by simp)]
  split <;> try rfl
  split <;> try rfl
  split <;> try rfl
  exact pairs_congr ps (fun y hy=>h y (by simp at hy ⊢; exact .inr hy)) f _
theorem slices_congr {ρ ρ':Operand → AV} {esz:Nat}:∀ (ps:List (Nat × Operand)) (h:∀ x ∈ ps.map (·.2),ρ x=ρ' x) (l:List (List Seg)),sliceParts esz ρ ps l=sliceParts esz ρ' ps l
 | [],_,l=>rfl
 | (i,x) :: ps,h,l=>by
  unfold sliceParts
  rw [h x (by simp)]
  split <;> try rfl
  split <;> try rfl
  exact slices_congr ps (fun y hy=>h y (by simp at hy ⊢; exact .inr hy)) _
theorem optI_congr {ρ ρ':Operand → AV} (x:Option Operand) (h:∀ y ∈ x.toArray,ρ y=ρ' y):optI ρ x=optI ρ' x:=by
 cases x with
 | none=>rfl
 | some y=>simp only [optI]; rw [h y (by simp)]
theorem caps_congr {ρ ρ':Operand → AV}:∀ (xs:List Operand),(∀ x ∈ xs,ρ x=ρ' x) → capsOf ρ xs=capsOf ρ' xs
 | [],_=>rfl
 | x :: xs,h=>by
  simp only [capsOf]
  rw [caps_congr xs (fun y hy=>h y (by simp [hy])),h x (by simp)]
theorem pureOp_congr {ty:Nat → Option TI} {ρ ρ':Operand → AV} {op:Op} (h:∀ x ∈ op.operands,ρ x=ρ' x):pureOp ty ρ op=pureOp ty ρ' op:=by
 cases op <;> simp only [Op.operands] at h <;> simp only [pureOp]
 case move x=>rw [h x (by simp)]
 case assign x=>rw [h x (by simp)]
 case pick c a b=>rw [h c (by simp),h a (by simp),h b (by simp)]
 case binOp op t x y u=>rw [h x (by simp),h y (by simp)]
 case unOp op t x=>rw [h x (by simp)]
 case convert s d x=>rw [h x (by simp)]
 case extract x i=>rw [h x (by simp)]
 case fieldAddr t x i=>rw [h x (by simp)]
 case field t x i=>rw [h x (by simp)]
 case indexAddr t x y=>rw [h x (by simp),h y (by simp)]
 case nilCheck x=>rw [h x (by simp)]
 case sliceToArrayPointer t x=>rw [h x (by simp)]
 case index t x y=>rw [h x (by simp),h y (by simp)]
 case build t ps =>
  split
  ·split
   ·rw [pairs_congr ps.toList (fun x hx=>h x (by simpa using hx))]
   ·rfl
  ·rw [pairs_congr ps.toList (fun x hx=>h x (by simpa using hx))]
  ·rfl
 case slice t x lo hi mx =>
  rw [h x (by simp),optI_congr lo (fun y hy=>h y (by simp at hy ⊢; simp [hy])),optI_congr hi (fun y hy=>h y (by simp at hy ⊢; simp [hy]))]
 case makeFunc fn first caps =>
  rw [caps_congr caps.toList (fun x hx=>h x (by simp at hx ⊢; simp [hx]))]
  cases fn with
  | func f =>
   cases hf:first.toList with
   | nil=>rfl
   | cons x r =>
    cases r with
    | nil =>
     have hx:ρ x=ρ' x:=h x (by
      have:x ∈ first.toList:=by rw [hf]; simp
      simp only [Array.mem_append]
      exact .inl (by simpa using this))
     dsimp only
     rw [hx]
    | cons y r=>rfl
  | _=>rfl
 case call c =>
  obtain ⟨cal,args,ts⟩:=c
  cases cal with
  | builtin b =>
   cases b <;> try rfl
   all_goals dsimp only
   ·split
    ·rename_i x t ha hts
     rw [h x (by simp only [Call.operands]; simp; rw [← Array.mem_toList_iff,ha]; simp)]
    ·rfl
   ·split
    ·rename_i x y ha
     rw [h x (by simp only [Call.operands]; simp; rw [← Array.mem_toList_iff,ha]; simp),h y (by simp only [Call.operands]; simp; rw [← Array.mem_toList_iff,ha]; simp)]
    ·rfl
   ·split
    ·rename_i x y ha
     rw [h x (by simp only [Call.operands]; simp; rw [← Array.mem_toList_iff,ha]; simp),h y (by simp only [Call.operands]; simp; rw [← Array.mem_toList_iff,ha]; simp)]
    ·rename_i x y z ha
     rw [h x (by simp only [Call.operands]; simp; rw [← Array.mem_toList_iff,ha]; simp),h y (by simp only [Call.operands]; simp; rw [← Array.mem_toList_iff,ha]; simp),h z (by simp only [Call.operands]; simp; rw [← Array.mem_toList_iff,ha]; simp)]
    ·rfl
  | _=>rfl
theorem makeOp_congr {ty:Nat → Option TI} {ρ ρ':Operand → AV} {sl:Nat} {op:Op} (h:∀ x ∈ op.operands,ρ x=ρ' x):makeOp ty ρ sl op=makeOp ty ρ' sl op:=by
 cases op <;> simp only [Op.operands] at h <;> simp only [makeOp]
 case box t x=>rw [h x (by simp)]
 case buildSlice t n ps =>
  split
  ·split
   ·rw [slices_congr ps.toList (fun x hx=>h x (by simpa using hx))]
   ·rfl
  ·rfl
 case makeSlice t x y=>rw [h x (by simp),h y (by simp)]
theorem map_congr' {ρ ρ':Operand → AV} {α:Type} (f:AV → α) {args:Array Operand} (h:∀ x ∈ args,ρ x=ρ' x):(args.toList.map fun x=>f (ρ x))=args.toList.map fun x=>f (ρ' x) :=
 List.map_congr_left fun x hx=>by rw [h x (by simpa using hx)]
theorem readOp_congr {ρ ρ':Operand → AV} {hp:Heap} {op:Op} (h:∀ x ∈ op.operands,ρ x=ρ' x):readOp E ρ hp op=readOp E ρ' hp op:=by
 cases op <;> simp only [Op.operands] at h <;> simp only [readOp]
 case load t x=>rw [h x (by simp)]
 case convert s d x=>rw [h x (by simp)]
 case call c =>
  obtain ⟨cal,args,ts⟩:=c
  cases cal with
  | value f =>
   simp only [Call.operands] at h
   dsimp only
   rw [h f (by simp),map_congr' (snapA false hp) (fun x hx=>h x (by simp [hx]))]
  | _=>rfl
theorem writeOp_congr {ρ ρ':Operand → AV} {hp:Heap} {sl:Nat} {op:Op} (h:∀ x ∈ op.operands,ρ x=ρ' x):writeOp E ρ hp sl op=writeOp E ρ' hp sl op:=by
 cases op <;> simp only [Op.operands] at h <;> simp only [writeOp]
 case store t x y=>rw [h x (by simp),h y (by simp)]
 case call c =>
  obtain ⟨cal,args,ts⟩:=c
  cases cal with
  | value f =>
   simp only [Call.operands] at h
   dsimp only
   have hm:args.toList.map ρ=args.toList.map ρ':=List.map_congr_left fun x hx=>h x (by simp at hx ⊢; exact .inr hx)
   rw [h f (by simp),map_congr' (snapA false hp) (fun x hx=>h x (by simp [hx])),hm]
  | builtin b =>
   cases b <;> try rfl
   all_goals dsimp only
   all_goals split
   all_goals first
    | rfl
    | (rename_i ha hts
       rw [h _ (by simp only [Call.operands]; simp; rw [← Array.mem_toList_iff,ha]; exact List.mem_cons_self),h _ (by simp only [Call.operands]; simp; rw [← Array.mem_toList_iff,ha]; exact List.mem_cons_of_mem _ List.mem_cons_self)])
  | _=>rfl
theorem stepOp_congr {ρ ρ':Operand → AV} {hp:Heap} {sl:Nat} {op:Op} (h:∀ x ∈ op.operands,ρ x=ρ' x):stepOp E ρ hp sl op=stepOp E ρ' hp sl op:=by
 unfold stepOp
 rw [pureOp_congr h,makeOp_congr h,readOp_congr h,writeOp_congr h]
theorem ev_apart {ops:Array Oper} {o:Oper} {tm:List AV} {dst:Option Tmp} {v:AV} (h:∀ d,dst=some d → d ∉ o.looksAt ops):∀ x ∈ o.op.operands,ev (put dst v tm) x=ev tm x :=
 fun x hx=>ev_put fun d hd e=>h d hd (by
  subst e
  exact List.mem_append_left _ (List.mem_filterMap.2 ⟨.tmp d,by simpa using hx,rfl⟩))
theorem wanted_apart {ops:Array Oper} {o:Oper} {tm:List AV} {dst:Option Tmp} {v:AV} (h:∀ d,dst=some d → d ∉ o.looksAt ops):wanted ops.toList (put dst v tm) o=wanted ops.toList tm o:=by
 unfold wanted
 cases hg:o.guard with
 | none=>rfl
 | some gw =>
  obtain ⟨g,want⟩:=gw
  dsimp only
  cases ho:ops.toList[g]? with
  | none=>rfl
  | some o' =>
   dsimp only
   cases hd:o'.dst with
   | none=>rfl
   | some t =>
    dsimp only
    rw [getA_put]
    intro d hdd e
    subst e
    refine h t hdd (List.mem_append_right _ ?_)
    rw [hg]
    have:ops[g]?=some o':=by simpa using ho
    simp [this,hd]
end
end Go.AM
namespace Go.AM
open Go Go.RowKit
section
variable {P:Program} {E:Env} {ops:Array Oper} {base:Nat}
theorem stepOp_pur {ρ:Operand → AV} {hp:Heap} {sl:Nat} {op:Op} (hc:cls E.isW op=.pur):stepOp E ρ hp sl op=(match pureOp E.ty ρ op with | some v=>some (v,hp) | none=>none):=by
 unfold stepOp; rw [hc]; rfl
theorem stepOp_mk {ρ:Operand → AV} {hp:Heap} {sl:Nat} {op:Op} (hc:cls E.isW op=.mk):stepOp E ρ hp sl op=(match makeOp E.ty ρ sl op with | some (v,b)=>some (v,hp.set sl (some b)) | none=>none):=by
 unfold stepOp; rw [hc]; rfl
theorem pur_eff {ρ:Operand → AV} {hp hp':Heap} {sl:Nat} {op:Op} {v:AV} (hc:cls E.isW op=.pur) (h:stepOp E ρ hp sl op=some (v,hp')):hp'=hp ∧ ∀ h2 sl2,stepOp E ρ h2 sl2 op=some (v,h2):=by
 rw [stepOp_pur hc] at h
 split at h
 ·rename_i u hu
  simp only [Option.some.injEq,Prod.mk.injEq] at h
  obtain ⟨rfl,rfl⟩:=h
  exact ⟨rfl,fun h2 sl2=>by rw [stepOp_pur hc,hu]⟩
 ·simp at h
theorem mk_eff {ρ:Operand → AV} {hp hp':Heap} {sl:Nat} {op:Op} {v:AV} (hc:cls E.isW op=.mk) (h:stepOp E ρ hp sl op=some (v,hp')):∃ b,hp'=hp.set sl (some b) ∧ ∀ h2,stepOp E ρ h2 sl op=some (v,h2.set sl (some b)):=by
 rw [stepOp_mk hc] at h
 split at h
 ·rename_i u b hu
  simp only [Option.some.injEq,Prod.mk.injEq] at h
  obtain ⟨rfl,rfl⟩:=h
  exact ⟨b,rfl,fun h2=>by rw [stepOp_mk hc,hu]⟩
 ·simp at h
theorem mk_slotted {isW:Operand → Bool} {op:Op} (h:cls isW op=.mk):slotted op=true:=by
 cases op <;> try rfl
 all_goals try (simp [cls] at h; done)
 case convert s d x=>simp only [cls] at h; split at h <;> cases h
 case call c =>
  obtain ⟨cal,args,ts⟩:=c
  cases cal with
  | value f=>simp only [cls] at h; split at h <;> cases h
  | builtin b=>cases b <;> first | rfl | (simp [cls] at h)
  | invoke r m=>simp [cls] at h
theorem rd_slotted {isW:Operand → Bool} {op:Op} (h:cls isW op=.rd):slotted op=false:=by
 cases op <;> try rfl
 all_goals try (simp [cls] at h; done)
 case call c =>
  obtain ⟨cal,args,ts⟩:=c
  cases cal with
  | value f=>rfl
  | builtin b=>cases b <;> first | rfl | (simp [cls] at h)
  | invoke r m=>rfl
theorem sub_set {h0 hp:Heap} (hs:Sub h0 hp) {sl:Nat} (hn:hp[sl]?=some none) (b:Option Blk):Sub h0 (hp.set sl b):=by
 refine ⟨by rw [List.length_set]; exact hs.1,fun id b' h=>?_⟩
 have:=hs.2 id b' h
 have hne:sl ≠ id:=by rintro rfl; rw [hn] at this; cases this
 rw [List.getElem?_set_ne hne]; exact this
theorem before_lt (l:List Oper):∀ (i j:Nat) (o:Oper),i < j → l[i]?=some o → slotted o.op=true → before l i < before l j:=by
 induction l with
 | nil=>intro i j o h ho _; simp at ho
 | cons x l ih =>
  intro i j o h ho hs
  cases j with
  | zero=>omega
  | succ j =>
   cases i with
   | zero =>
    simp at ho; subst ho
    simp only [before,hs]
    omega
   | succ i =>
    have:=ih i j o (by omega) (by simpa using ho) hs
    simp only [before]
    split <;> omega
theorem before_ne {l:List Oper} {i j:Nat} {o u:Oper} (h:i ≠ j) (ho:l[i]?=some o) (hu:l[j]?=some u) (hs:slotted o.op=true) (ht:slotted u.op=true):before l i ≠ before l j:=by
 rcases Nat.lt_or_gt_of_ne h with h | h
 ·have:=before_lt l i j o h ho hs; omega
 ·have:=before_lt l j i u h hu ht; omega
theorem stepOp_nones (EO:EnvOK P E) {ρ:Operand → AV} {hp hp':Heap} {sl:Nat} {op:Op} {v:AV} (h:stepOp E ρ hp sl op=some (v,hp')) {id:Nat} (hid:slotted op=true → id ≠ sl) (hn:hp[id]?=some none):hp'[id]?=some none:=by
 cases hc:cls E.isW op with
 | pur=>obtain ⟨rfl,_⟩:=pur_eff hc h; exact hn
 | mk =>
  obtain ⟨b,rfl,_⟩:=mk_eff hc h
  rw [List.getElem?_set_ne (fun e=>hid (mk_slotted hc) e.symm)]; exact hn
 | rd =>
  unfold stepOp at h
  rw [hc] at h
  dsimp only at h
  split at h
  ·simp only [Option.some.injEq,Prod.mk.injEq] at h
   obtain ⟨_,rfl⟩:=h; exact hn
  ·simp at h
 | wrt =>
  unfold stepOp at h
  rw [hc] at h
  dsimp only at h
  cases op <;> try (simp [writeOp] at h; done)
  case store t x y =>
   simp only [writeOp] at h
   split at h
   case h_2=>simp at h
   rename_i T id0 sz i c ext g _ _ _
   split at h
   case h_2=>simp at h
   rename_i b _ hb
   split at h
   case h_2=>simp at h
   simp only [Option.some.injEq,Prod.mk.injEq] at h
   obtain ⟨_,rfl⟩:=h
   rw [List.getElem?_set_ne (by rintro rfl; rw [hb] at hn; cases hn)]; exact hn
  case call c =>
   obtain ⟨cal,args,ts⟩:=c
   cases cal with
   | value f =>
    simp only [writeOp] at h
    split at h
    case h_3=>simp at h
    case h_2 =>
     split at h
     ·simp only [Option.some.injEq,Prod.mk.injEq] at h
      obtain ⟨_,rfl⟩:=h; exact hn
     ·simp at h
    split at h
    ·rename_i O hO
     exact EO.nones _ _ hO _ _ _ _ h id hn
    ·split at h
     ·simp only [Option.some.injEq,Prod.mk.injEq] at h
      obtain ⟨_,rfl⟩:=h; exact hn
     ·simp at h
   | builtin b =>
    cases b <;> try (simp [writeOp] at h; done)
    case copy =>
     simp only [writeOp] at h
     split at h
     case h_2=>simp at h
     split at h
     case h_2=>simp at h
     split at h
     case h_2=>simp at h
     rename_i hblk
     split at h
     case h_2=>simp at h
     simp only [Option.some.injEq,Prod.mk.injEq] at h
     obtain ⟨_,rfl⟩:=h
     rw [List.getElem?_set_ne (by rintro rfl; rw [hblk] at hn; cases hn)]; exact hn
    have hne:=hid rfl
    simp only [writeOp] at h
    split at h
    case h_2=>simp at h
    split at h
    case h_2=>simp at h
    split at h
    case h_2=>simp at h
    split at h
    case h_2=>simp at h
    split at h
    case h_2=>simp at h
    split at h
    ·simp only [Option.some.injEq,Prod.mk.injEq] at h
     obtain ⟨_,rfl⟩:=h
     rw [List.getElem?_set_ne (fun e=>hne e.symm)]; exact hn
    ·rename_i id1 _ _ _ _ _ _
     split at h
     case h_2=>simp at h
     simp only [Option.some.injEq,Prod.mk.injEq] at h
     obtain ⟨_,rfl⟩:=h
     rw [List.getElem?_set_ne (fun e=>hne e.symm),List.getElem?_set]
     split
     ·rename_i e; subst e
      rw [if_pos (List.getElem?_eq_some_iff.1 hn).1]
     ·exact hn
    ·simp at h
   | invoke r m=>simp [writeOp] at h
theorem AStep.nones (EO:EnvOK P E) {Bl Wr:Nat → Nat → Prop} {i:Nat} {o:Oper} {s s':St} (h:AStep E Bl Wr ops.toList base i o s s') {id:Nat} (hid:slotted o.op=true → id ≠ base+before ops.toList i) (hn:s.hp[id]?=some none):s'.hp[id]?=some none:=by
 cases h with
 | no _=>exact hn
 | fn _ _ hs _=>exact stepOp_nones EO hs hid hn
 | rd _ _ _ _ _=>exact hn
theorem apart2_spec {isW:Operand → Bool} {x y:Oper} (h:apart2 isW ops x y=true):x.apart ops y=true ∧ (clsFree (cls isW x.op) (cls isW y.op)=true ∨ ldSt x.op y.op=true):=by
 simpa [apart2,Bool.and_eq_true] using h
theorem sub_set' {h0 hp:Heap} {id:Nat} {x:Option Blk} (hs:Sub h0 hp) (hn:∀ b,h0[id]? ≠ some (some b)):Sub h0 (hp.set id x):=by
 refine ⟨by rw [List.length_set]; exact hs.1,fun k b h=>?_⟩
 have hne:id ≠ k:=by rintro rfl; exact hn b h
 rw [List.getElem?_set_ne hne]; exact hs.2 k b h
theorem sub_unset {h0 hp:Heap} {id:Nat} {x:Option Blk} (hs:Sub h0 (hp.set id x)) (hn:∀ b,h0[id]? ≠ some (some b)):Sub h0 hp:=by
 refine ⟨by rw [hs.1,List.length_set],fun k b h=>?_⟩
 have hne:id ≠ k:=by rintro rfl; exact hn b h
 have:=hs.2 k b h
 rwa [List.getElem?_set_ne hne] at this
theorem AStep.comm {Bl Wr:Nat → Nat → Prop} {i j:Nat} {oi oj:Oper} (hij:i ≠ j) (hoi:ops.toList[i]?=some oi) (hoj:ops.toList[j]?=some oj) (hap:apart2 E.isW ops oi oj=true)
  (hl1:slotted oi.op=true → Bl j (base+before ops.toList i)) (hl2:ldSt oi.op oj.op=true → ∀ id,Wr j id → Bl i id) {s si sij:St}
  (h1:AStep E Bl Wr ops.toList base i oi s si) (h2:AStep E Bl Wr ops.toList base j oj si sij) (hn:slotted oj.op=true → s.hp[base+before ops.toList j]?=some none) :
  ∃ sj,AStep E Bl Wr ops.toList base j oj s sj ∧ AStep E Bl Wr ops.toList base i oi sj sij:=by
 obtain ⟨ha,hcf⟩:=apart2_spec hap
 obtain ⟨a1,a2,a3⟩:=Oper.apart_spec ha
 -- oi does not touch what oj looks at; the other way round; not one place
 have evj:∀ (v:AV) (tm:List AV),∀ x ∈ oj.op.operands,ev (put oi.dst v tm) x=ev tm x:=fun v tm=>ev_apart a1
 have evi:∀ (v:AV) (tm:List AV),∀ x ∈ oi.op.operands,ev (put oj.dst v tm) x=ev tm x:=fun v tm=>ev_apart a3
 have wj:∀ (v:AV) (tm:List AV),wanted ops.toList (put oi.dst v tm) oj=wanted ops.toList tm oj:=fun v tm=>wanted_apart a1
 have wi:∀ (v:AV) (tm:List AV),wanted ops.toList (put oj.dst v tm) oi=wanted ops.toList tm oi:=fun v tm=>wanted_apart a3
 have pc:∀ (v u:AV) (tm:List AV),put oj.dst u (put oi.dst v tm)=put oi.dst v (put oj.dst u tm):=fun v u tm=>put_comm v u a2
 have nst:∀ (o:Oper) (k:Nat) (hp hp':Heap),cls E.isW o.op ≠ .wrt → ∀ T x y,o.op=.store T x y → ∃ id b,hp'=hp.set id (some b) ∧ Wr k id:=fun o k hp hp' h T x y e=>absurd (by rw [e]; rfl) h
 have hld:ldSt oi.op oj.op=true → cls E.isW oi.op=.rd:=fun h=>by
  cases ho:oi.op <;> rw [ho] at h <;> first | rfl | (simp [ldSt] at h)
 cases h1 with
 | no hw =>
  rename_i tm hp
  cases h2 with
  | no hw2=>rw [pc]; exact ⟨_,.no (by rw [← wj]; exact hw2),.no (by rw [wi]; exact hw)⟩
  | fn hw2 hc2 hs2 hst2 =>
   rw [pc]
   rw [stepOp_congr (evj _ tm)] at hs2
   exact ⟨_,.fn (by rw [← wj]; exact hw2) hc2 hs2 hst2,.no (by rw [wi]; exact hw)⟩
  | rd hw2 hc2 hsub hs2 hb2 =>
   rw [pc]
   rw [readOp_congr (evj _ tm)] at hs2
   exact ⟨_,.rd (by rw [← wj]; exact hw2) hc2 hsub hs2 hb2,.no (by rw [wi]; exact hw)⟩
 | fn hw hc hs hst =>
  rename_i tm hp hp' v
  have hcf:clsFree (cls E.isW oi.op) (cls E.isW oj.op)=true:=by
   rcases hcf with h | h
   ·exact h
   ·exact absurd (hld h) hc
  cases h2 with
  | no hw2 =>
   rw [pc]
   refine ⟨_,.no (by rw [← wj]; exact hw2),.fn (by rw [wi]; exact hw) hc ?_ hst⟩
   rw [stepOp_congr (evi _ tm)]; exact hs
  | fn hw2 hc2 hs2 hst2 =>
   rename_i hp2 u
   rw [pc]
   rw [stepOp_congr (evj _ tm)] at hs2
   have hw2':wanted ops.toList tm oj=some true:=by rw [← wj]; exact hw2
   cases hci:cls E.isW oi.op with
   | pur =>
    obtain ⟨rfl,q⟩:=pur_eff hci hs
    refine ⟨_,.fn hw2' hc2 hs2 hst2,.fn (by rw [wi]; exact hw) hc ?_ (nst _ _ _ _ (by rw [hci]; decide))⟩
    rw [stepOp_congr (evi _ tm)]; exact q _ _
   | rd=>exact absurd hci hc
   | mk =>
    obtain ⟨b,rfl,q⟩:=mk_eff hci hs
    cases hcj:cls E.isW oj.op with
    | pur =>
     obtain ⟨rfl,q2⟩:=pur_eff hcj hs2
     refine ⟨_,.fn hw2' hc2 (q2 hp _) (nst _ _ _ _ (by rw [hcj]; decide)),.fn (by rw [wi]; exact hw) hc ?_ (nst _ _ _ _ (by rw [hci]; decide))⟩
     rw [stepOp_congr (evi _ tm)]; exact q _
    | mk =>
     obtain ⟨b2,rfl,q2⟩:=mk_eff hcj hs2
     refine ⟨_,.fn hw2' hc2 (q2 hp) (nst _ _ _ _ (by rw [hcj]; decide)),.fn (by rw [wi]; exact hw) hc ?_ (nst _ _ _ _ (by rw [hci]; decide))⟩
     rw [stepOp_congr (evi _ tm),List.set_comm _ _ (by have:=before_ne hij hoi hoj (mk_slotted hci) (mk_slotted hcj); omega)]
     exact q _
    | rd=>exact absurd hcj hc2
    | wrt=>rw [hci,hcj] at hcf; cases hcf
   | wrt =>
    cases hcj:cls E.isW oj.op with
    | pur =>
     obtain ⟨rfl,q2⟩:=pur_eff hcj hs2
     refine ⟨_,.fn hw2' hc2 (q2 hp _) (nst _ _ _ _ (by rw [hcj]; decide)),.fn (by rw [wi]; exact hw) hc ?_ hst⟩
     rw [stepOp_congr (evi _ tm)]; exact hs
    | mk=>rw [hci,hcj] at hcf; cases hcf
    | rd=>exact absurd hcj hc2
    | wrt=>rw [hci,hcj] at hcf; cases hcf
  | rd hw2 hc2 hsub hs2 hb2 =>
   rename_i h0 u
   rw [pc]
   rw [readOp_congr (evj _ tm)] at hs2
   have hw2':wanted ops.toList tm oj=some true:=by rw [← wj]; exact hw2
   cases hci:cls E.isW oi.op with
   | pur =>
    obtain ⟨rfl,q⟩:=pur_eff hci hs
    refine ⟨_,.rd hw2' hc2 hsub hs2 hb2,.fn (by rw [wi]; exact hw) hc ?_ (nst _ _ _ _ (by rw [hci]; decide))⟩
    rw [stepOp_congr (evi _ tm)]; exact q _ _
   | rd=>exact absurd hci hc
   | mk =>
    obtain ⟨b,rfl,q⟩:=mk_eff hci hs
    refine ⟨_,.rd hw2' hc2 (sub_unset hsub fun b' h=>hb2 _ b' h (hl1 (mk_slotted hci))) hs2 hb2,.fn (by rw [wi]; exact hw) hc ?_ (nst _ _ _ _ (by rw [hci]; decide))⟩
    rw [stepOp_congr (evi _ tm)]; exact q _
   | wrt=>rw [hci,hc2] at hcf; cases hcf
 | rd hw hc hsub hs hb =>
  rename_i tm hp h0 v
  cases h2 with
  | no hw2 =>
   rw [pc]
   refine ⟨_,.no (by rw [← wj]; exact hw2),.rd (by rw [wi]; exact hw) hc hsub ?_ hb⟩
   rw [readOp_congr (evi _ tm)]; exact hs
  | fn hw2 hc2 hs2 hst2 =>
   rename_i hp2 u
   rw [pc]
   rw [stepOp_congr (evj _ tm)] at hs2
   have hw2':wanted ops.toList tm oj=some true:=by rw [← wj]; exact hw2
   cases hcj:cls E.isW oj.op with
   | pur =>
    obtain ⟨rfl,q2⟩:=pur_eff hcj hs2
    refine ⟨_,.fn hw2' hc2 hs2 hst2,.rd (by rw [wi]; exact hw) hc hsub ?_ hb⟩
    rw [readOp_congr (evi _ tm)]; exact hs
   | mk =>
    obtain ⟨b2,rfl,q2⟩:=mk_eff hcj hs2
    refine ⟨_,.fn hw2' hc2 hs2 hst2,.rd (by rw [wi]; exact hw) hc (sub_set hsub (hn (mk_slotted hcj)) _) ?_ hb⟩
    rw [readOp_congr (evi _ tm)]; exact hs
   | rd=>exact absurd hcj hc2
   | wrt =>
    have hls:ldSt oi.op oj.op=true:=by
     rcases hcf with h | h
     ·rw [hc,hcj] at h; cases h
     ·exact h
    obtain ⟨T,x,y,hoj'⟩:∃ T x y,oj.op=.store T x y:=by
     cases ho:oi.op <;> cases ho':oj.op <;> rw [ho,ho'] at hls <;> first | exact ⟨_,_,_,rfl⟩ | (simp [ldSt] at hls)
    obtain ⟨id,b,rfl,hwr⟩:=hst2 T x y hoj'
    refine ⟨_,.fn hw2' hc2 hs2 hst2,.rd (by rw [wi]; exact hw) hc (sub_set' hsub fun b' h=>hb _ b' h (hl2 hls _ hwr)) ?_ hb⟩
    rw [readOp_congr (evi _ tm)]; exact hs
  | rd hw2 hc2 hsub2 hs2 hb2 =>
   rw [pc]
   rw [readOp_congr (evj _ tm)] at hs2
   refine ⟨_,.rd (by rw [← wj]; exact hw2) hc2 hsub2 hs2 hb2,.rd (by rw [wi]; exact hw) hc hsub ?_ hb⟩
   rw [readOp_congr (evi _ tm)]; exact hs
def Bl (ops:Array Oper) (base:Nat) (F:List AV) (i id:Nat):Prop :=
 ∃ k ok oi,ops.toList[k]?=some ok ∧ ops.toList[i]?=some oi ∧
  ((slotted ok.op=true ∧ noEdge oi k=true ∧ id=base+before ops.toList k) ∨
   ∃ T x y T' x',ok.op=.store T x y ∧ oi.op=.load T' x' ∧ noEdge ok i=true ∧ ptrId (ev F x)=some id)
def Wr (ops:Array Oper) (F:List AV) (j id:Nat):Prop:=∃ oj T x y,ops.toList[j]?=some oj ∧ oj.op=.store T x y ∧ ptrId (ev F x)=some id
theorem noEdge_t {o:Oper} {k:Nat}:noEdge o k=true ↔ ∀ e ∈ o.after,Region.binds .any e=true → e.on ≠ k:=by
 simp only [noEdge,Bool.not_eq_true',List.any_eq_false,Bool.and_eq_true,not_and,beq_t]
 constructor
 ·intro h e he hb; exact h e (by simpa using he) hb
 ·intro h e he hb; exact h e (by simpa using he) hb
def AmAny (E:Env) (Bl Wr:Nat → Nat → Prop) (ops:Array Oper) (base:Nat) (Fin:St → Prop):Nat → Array Bool → St → Prop
 | 0,listed,s=>Region.ready .any ops listed=[] ∧ Fin s
 | fuel+1,listed,s=>(Region.ready .any ops listed=[] → Fin s) ∧
   ∀ i ∈ Region.ready .any ops listed,∀ o,ops.toList[i]?=some o → ∃ s',AStep E Bl Wr ops.toList base i o s s' ∧ AmAny E Bl Wr ops base Fin fuel (listed.setIfInBounds i true) s'
def Slots (ops:Array Oper) (base:Nat) (listed:Array Bool) (s:St):Prop :=
 ∀ i o,ops.toList[i]?=some o → slotted o.op=true → listed.getD i true=false → s.hp[base+before ops.toList i]?=some none
theorem Slots.step (EO:EnvOK P E) {Bl Wr:Nat → Nat → Prop} {listed:Array Bool} {s s':St} (h:Slots ops base listed s) {i:Nat} {o:Oper} (ho:ops.toList[i]?=some o) (hs:AStep E Bl Wr ops.toList base i o s s'):Slots ops base (listed.setIfInBounds i true) s':=by
 intro j u hj hsl hun
 by_cases e:i=j
 ·subst e
  have:(listed.setIfInBounds i true).getD i true=true:=by
   rcases Nat.lt_or_ge i listed.size with h' | h'
   ·simp [h']
   ·simp [h']
  rw [this] at hun; cases hun
 ·rw [getD_set_ne true e] at hun
  exact hs.nones EO (fun hso=>by have:=before_ne e ho hj hso hsl; omega) (h j u hj hsl hun)
def Closed (ops:Array Oper) (listed:Array Bool):Prop:=∀ m om,ops[m]?=some om → listed.getD m false=true → ∀ e ∈ om.after,Region.binds .any e=true → listed.getD e.on false=true
theorem Closed.waits {ops:Array Oper} {listed:Array Bool} (h:Closed ops listed) {i:Nat}:∀ (n m:Nat),listed.getD m false=true → waitsB ops i n m=true → listed.getD i false=true
 | 0,m,hm,hw=>by simp [waitsB] at hw
 | n+1,m,hm,hw=>by
  unfold waitsB at hw
  split at hw
  case h_2=>simp at hw
  rename_i om ho
  obtain ⟨e,he,hb⟩:=Array.any_eq_true'.1 hw
  simp only [Bool.and_eq_true,Bool.or_eq_true,beq_iff_eq] at hb
  have hl:=h m om ho hm e he hb.1
  rcases hb.2 with h1 | h1
  ·rw [← h1]; exact hl
  ·exact h.waits n _ hl h1
theorem getD_true {listed:Array Bool} {i:Nat} (h:listed.getD i true=false):listed.getD i false=false:=by
 rcases Nat.lt_or_ge i listed.size with h' | h'
 ·simp [h'] at h ⊢; exact h
 ·simp [h'] at h
theorem Closed.ready {ops:Array Oper} {listed:Array Bool} (h:Closed ops listed) {i j:Nat} (hi:listed.getD i true=false) (hj:j ∈ Region.ready .any ops listed):waitsB ops i 4 j=false:=by
 cases hw:waitsB ops i 4 j with
 | false=>rfl
 | true =>
  obtain ⟨_,oj,hoj,hall⟩:=mem_ready.1 hj
  unfold waitsB at hw
  rw [hoj] at hw
  dsimp only at hw
  obtain ⟨e,he,hb⟩:=Array.any_eq_true'.1 hw
  simp only [Bool.and_eq_true,Bool.or_eq_true,beq_iff_eq] at hb
  have hl:=hall e he hb.1
  have:listed.getD i false=true:=by
   rcases hb.2 with h1 | h1
   ·rw [← h1]; exact hl
   ·exact h.waits _ _ hl h1
  rw [getD_true hi] at this; cases this
theorem Closed.set {ops:Array Oper} {listed:Array Bool} (h:Closed ops listed) {j:Nat} (hj:j ∈ Region.ready .any ops listed):Closed ops (listed.setIfInBounds j true):=by
 obtain ⟨hjun,oj,hoj,hall⟩:=mem_ready.1 hj
 have up:∀ k,listed.getD k false=true → (listed.setIfInBounds j true).getD k false=true:=fun k hk=>by
  by_cases e:j=k
  ·subst e
   rw [getD_true hjun] at hk; cases hk
  ·rw [getD_set_ne false e]; exact hk
 intro m om ho hm e he hb
 by_cases q:j=m
 ·subst q
  rw [hoj] at ho
  simp only [Option.some.injEq] at ho; subst ho
  exact up _ (hall e he hb)
 ·rw [getD_set_ne false q] at hm
  exact up _ (h m om ho hm e he hb)
theorem AmAny_first (EO:EnvOK P E) {Bl Wr:Nat → Nat → Prop} {Fin:St → Prop} {i:Nat} {oi:Oper} (hi:ops.toList[i]?=some oi) :
  ∀ (fuel:Nat) (listed:Array Bool) (s si:St),
   (∀ j oj,ops[j]?=some oj → j ≠ i → listed.getD j true=false → (∀ e ∈ oj.after,Region.binds .any e=true → e.on ≠ i) → waitsB ops i 4 j=false → apart2 E.isW ops oi oj=true ∧ (slotted oi.op=true → Bl j (base+before ops.toList i)) ∧ (ldSt oi.op oj.op=true → ∀ id,Wr j id → Bl i id)) →
   i ∈ Region.ready .any ops listed → Closed ops listed → AStep E Bl Wr ops.toList base i oi s si → Slots ops base listed s →
   AmAny E Bl Wr ops base Fin fuel (listed.setIfInBounds i true) si → AmAny E Bl Wr ops base Fin (fuel+1) listed s:=by
 intro fuel
 induction fuel with
 | zero =>
  intro listed s si _ hr hcl hy _ H
  refine ⟨fun h=>(by rw [h] at hr; cases hr),fun j hj o ho=>?_⟩
  by_cases hji:j=i
  ·subst hji; rw [hi] at ho; simp only [Option.some.injEq] at ho; subst ho; exact ⟨si,hy,H⟩
  ·have:=ready_mono hj hji
   rw [H.1] at this
   cases this
 | succ fuel ih =>
  intro listed s si hfree hr hcl hy hsl H
  refine ⟨fun h=>(by rw [h] at hr; cases hr),fun j hj o ho=>?_⟩
  by_cases hji:j=i
  ·subst hji; rw [hi] at ho; simp only [Option.some.injEq] at ho; subst ho; exact ⟨si,hy,H⟩
  ·obtain ⟨sij,h1,h1'⟩:=H.2 j (ready_mono hj hji) o ho
   obtain ⟨hjun,oj,hoj,hall⟩:=mem_ready.1 hj
   have hoo:ops.toList[j]?=some oj:=by simpa using hoj
   rw [ho] at hoo; simp only [Option.some.injEq] at hoo; subst hoo
   have hnot:∀ e ∈ o.after,Region.binds .any e=true → e.on ≠ i:=fun e he hb heq=>by
    have h1:=hall e he hb
    have h0:=(mem_ready.1 hr).1
    rw [heq] at h1
    rcases Nat.lt_or_ge i listed.size with h' | h'
    ·simp [h'] at h0 h1; rw [h0] at h1; cases h1
    ·simp [Array.getElem?_eq_none h'] at h1
   have hfree':∀ k ok,ops[k]?=some ok → k ≠ i → (listed.setIfInBounds j true).getD k true=false →
     (∀ e ∈ ok.after,Region.binds .any e=true → e.on ≠ i) → waitsB ops i 4 k=false → apart2 E.isW ops oi ok=true ∧ (slotted oi.op=true → Bl k (base+before ops.toList i)) ∧ (ldSt oi.op ok.op=true → ∀ id,Wr k id → Bl i id):=fun k ok hk hki hun hno hnw=>by
    refine hfree k ok hk hki ?_ hno hnw
    by_cases hjk:j=k
    ·subst hjk; exact hjun
    ·rw [getD_set_ne true hjk] at hun; exact hun
   obtain ⟨f1,f2,f3⟩:=hfree j o hoj hji hjun hnot (hcl.ready (mem_ready.1 hr).1 hj)
   obtain ⟨sj,c1,c2⟩:=AStep.comm (fun e=>hji e.symm) hi ho f1 f2 f3 hy h1 (fun h=>hsl j o ho h hjun)
   refine ⟨sj,c1,ih (listed.setIfInBounds j true) sj sij hfree' (ready_mono hr (Ne.symm hji)) (hcl.set hj) c2 (hsl.step EO ho c1) ?_⟩
   rw [Array.setIfInBounds_comm _ _ hji]
   exact h1'
theorem free2_spec {isW:Operand → Bool} {i:Nat} {oi:Oper} {listed:Array Bool} (hi:ops[i]?=some oi) (h:free2 isW ops listed i=true) (j:Nat) (oj:Oper)
  (hj:ops[j]?=some oj) (hne:j ≠ i) (hun:listed.getD j true=false) (hno:∀ e ∈ oj.after,Region.binds .any e=true → e.on ≠ i) (hnw:waitsB ops i 4 j=false):apart2 isW ops oi oj=true:=by
 simp only [free2,hi,List.all_eq_true,List.mem_range] at h
 have h1:=h j (Array.getElem?_eq_some_iff.1 hj).1
 simp only [hj,Bool.or_eq_true,beq_iff_eq,hne,false_or,hun,Bool.false_eq_true] at h1
 rcases h1 with h1 | h1
 ·obtain ⟨e,he,hb⟩:=Array.any_eq_true'.1 h1
  simp only [Bool.and_eq_true,beq_iff_eq] at hb
  exact absurd hb.2 (hno e he hb.1)
 ·rcases h1 with h1 | h1
  ·exact h1
  ·rw [hnw] at h1; cases h1
theorem maskH_spec (oi:Oper):∀ (l:List Oper) (k sl:Nat) (hp:Heap),(maskH oi l k sl hp).length=hp.length ∧
  (∀ (id:Nat) (b:Blk),(maskH oi l k sl hp)[id]?=some (some b) → hp[id]?=some (some b)) ∧
  ∀ (j:Nat) (o:Oper),l[j]?=some o → slotted o.op=true → noEdge oi (k+j)=true → ∀ b:Blk,(maskH oi l k sl hp)[sl+before l j]? ≠ some (some b)
 | [],k,sl,hp=>⟨rfl,fun _ _ h=>h,fun j o h=>by simp at h⟩
 | u :: l,k,sl,hp=>by
  have set_sub:∀ (id:Nat) (b:Blk),(hp.set sl none)[id]?=some (some b) → hp[id]?=some (some b):=fun id b h=>by
   by_cases e:sl=id
   ·subst e
    rw [List.getElem?_set] at h
    split at h
    ·split at h <;> simp at h
    ·exact h
   ·rwa [List.getElem?_set_ne e] at h
  have nset:∀ b:Blk,(hp.set sl none)[sl]? ≠ some (some b):=fun b h=>by
   rw [List.getElem?_set] at h
   split at h
   ·split at h <;> simp at h
   ·rename_i h'; exact h' rfl
  cases hs:slotted u.op with
  | false =>
   have e:maskH oi (u :: l) k sl hp=maskH oi l (k+1) sl hp:=by simp only [maskH,hs]
   rw [e]
   obtain ⟨q1,q2,q3⟩:=maskH_spec oi l (k+1) sl hp
   refine ⟨q1,q2,fun j o hj hso hne=>?_⟩
   cases j with
   | zero=>simp at hj; subst hj; rw [hs] at hso; cases hso
   | succ j =>
    have:=q3 j o (by simpa using hj) hso (by rw [show k+1+j=k+(j+1) by omega]; exact hne)
    simpa only [before,hs] using this
  | true =>
   cases he:noEdge oi k with
   | true =>
    have e:maskH oi (u :: l) k sl hp=maskH oi l (k+1) (sl+1) (hp.set sl none):=by simp only [maskH,hs,he]
    rw [e]
    obtain ⟨q1,q2,q3⟩:=maskH_spec oi l (k+1) (sl+1) (hp.set sl none)
    refine ⟨by rw [q1,List.length_set],fun id b h=>set_sub id b (q2 id b h),fun j o hj hso hne=>?_⟩
    cases j with
    | zero=>intro b h; exact nset b (q2 _ b (by simpa only [before,Nat.add_zero] using h))
    | succ j =>
     have:=q3 j o (by simpa using hj) hso (by rw [show k+1+j=k+(j+1) by omega]; exact hne)
     simp only [before,hs]
     rwa [show sl+(before l j+1)=sl+1+before l j by omega]
   | false =>
    have e:maskH oi (u :: l) k sl hp=maskH oi l (k+1) (sl+1) hp:=by simp only [maskH,hs,he]
    rw [e]
    obtain ⟨q1,q2,q3⟩:=maskH_spec oi l (k+1) (sl+1) hp
    refine ⟨q1,q2,fun j o hj hso hne=>?_⟩
    cases j with
    | zero=>rw [Nat.add_zero,he] at hne; cases hne
    | succ j =>
     have:=q3 j o (by simpa using hj) hso (by rw [show k+1+j=k+(j+1) by omega]; exact hne)
     simp only [before,hs]
     rwa [show sl+(before l j+1)=sl+1+before l j by omega]
theorem loadsOK_spec {tm:List AV} {oj:Oper} {idj:Option Nat}:∀ (l:List Oper) (k:Nat),loadsOK tm oj idj l k=true → ∀ (i:Nat) (o:Oper) (T:TypeId) (x:Operand),l[i]?=some o → o.op=.load T x → noEdge oj (k+i)=true → diffId (ptrId (ev tm x)) idj=true
 | [],k,_,i,o,T,x,h,_,_=>by simp at h
 | u :: l,k,h,i,o,T,x,hi,ho,hne=>by
  have hrec:loadsOK tm oj idj l (k+1)=true:=by
   simp only [loadsOK] at h
   split at h
   ·split at h
    ·simp only [Bool.and_eq_true] at h; exact h.2
    ·exact h
   ·exact h
  cases i with
  | succ i=>exact loadsOK_spec l (k+1) hrec i o T x (by simpa using hi) ho (by rw [show k+1+i=k+(i+1) by omega]; exact hne)
  | zero =>
   simp at hi; subst hi
   simp only [loadsOK,ho] at h
   rw [Nat.add_zero] at hne
   rw [hne] at h
   simp only [Bool.and_eq_true] at h
   exact h.1
theorem pairsOK_spec {ops:List Oper} {tm:List AV}:∀ (l:List Oper),pairsOK ops tm l=true → ∀ (j:Nat) (oj:Oper) (T:TypeId) (x y:Operand),l[j]?=some oj → oj.op=.store T x y → loadsOK tm oj (ptrId (ev tm x)) ops 0=true
 | [],_,j,oj,T,x,y,h,_=>by simp at h
 | u :: l,h,j,oj,T,x,y,hj,ho=>by
  cases j with
  | zero =>
   simp at hj; subst hj
   simp only [pairsOK,ho,Bool.and_eq_true] at h
   exact h.1
  | succ j =>
   refine pairsOK_spec l ?_ j oj T x y (by simpa using hj) ho
   simp only [pairsOK] at h
   split at h
   ·simp only [Bool.and_eq_true] at h; exact h.2
   ·exact h
theorem keeps_put {t:Tmp} {o:Oper} {r:List Oper} (h:keeps t (o :: r)=true) (v:AV) (tm:List AV):getA (put o.dst v tm) t=getA tm t:=by
 simp only [keeps,Bool.and_eq_true] at h
 refine getA_put fun d hd e=>?_
 have h1:=h.1
 rw [hd] at h1
 simp only [Bool.not_eq_true',beq_f] at h1
 exact h1 e.symm
theorem amStep_keep {dr:Bool} {l:List Oper} {i:Nat} {o:Oper} {r:List Oper} {s s':St} {t:Tmp} (hk:keeps t (o :: r)=true) (h:amStep E l dr base i o s=some s'):getA s'.tm t=getA s.tm t:=by
 obtain ⟨tm,hp⟩:=s
 unfold amStep at h
 dsimp only at h
 split at h
 ·unfold amOp at h
  dsimp only at h
  split at h
  ·split at h
   ·simp only [Option.some.injEq] at h; subst h; exact keeps_put hk _ _
   ·simp at h
  ·split at h
   ·simp only [Option.some.injEq] at h; subst h; exact keeps_put hk _ _
   ·simp at h
 ·simp only [Option.some.injEq] at h; subst h; exact keeps_put hk _ _
 ·simp at h
theorem amOps_keep {dr:Bool} {l:List Oper} {t:Tmp}:∀ (r:List Oper) (k:Nat) (s s':St),keeps t r=true → amOps E l dr base r k s=some s' → getA s'.tm t=getA s.tm t
 | [],k,s,s',_,h=>by simp only [amOps,Option.some.injEq] at h; subst h; rfl
 | o :: r,k,s,s',hk,h=>by
  simp only [amOps] at h
  split at h
  ·rename_i s1 h1
   have hk':keeps t r=true:=by simp only [keeps,Bool.and_eq_true] at hk; exact hk.2
   rw [amOps_keep r (k+1) s1 s' hk' h,amStep_keep hk h1]
  ·simp at h
theorem ev_keep {dr:Bool} {l r:List Oper} {o:Oper} {k:Nat} {s s':St} {x:Operand} (hx:(∃ T,o.op=.load T x) ∨ ∃ T y,o.op=.store T x y) (hre:reOK (o :: r)=true) (h:amOps E l dr base (o :: r) k s=some s'):ev s.tm x=ev s'.tm x:=by
 cases x with
 | tmp t =>
  have ha:addrOf o.op=some t:=by
   rcases hx with ⟨T,h⟩ | ⟨T,y,h⟩ <;> rw [h] <;> rfl
  simp only [reOK,ha,Bool.and_eq_true] at hre
  exact (amOps_keep (o :: r) k s s' hre.1 h).symm
 | _=>rfl
theorem readOp_load {ρ:Operand → AV} {hp h0:Heap} {T:TypeId} {x:Operand} {v:AV} (h:readOp E ρ hp (.load T x)=some v) (hk:∀ (id:Nat) (b:Blk),ptrId (ρ x)=some id → hp[id]?=some (some b) → h0[id]?=some (some b)):readOp E ρ h0 (.load T x)=some v:=by
 simp only [readOp] at h ⊢
 split at h
 ·rename_i T' id sz i c ext hT hx
  split at h
  ·rename_i b hb hhb
   have:=hk id b (by rw [hx]; rfl) hhb
   rw [this,hb]; exact h
  ·simp at h
 ·rename_i hT hx
  exact h
 ·simp at h
theorem AStep.of_am {l:List Oper} {k:Nat} {o:Oper} {s s1 s':St} (hl:∀ j,(o :: l)[j]?=ops[k+j]?) (hre:reOK (o :: l)=true) (h:amOps E ops.toList true base (o :: l) k s=some s') (h1:amStep E ops.toList true base k o s=some s1)
  (hp:pairsOK ops.toList s'.tm ops.toList=true):AStep E (Bl ops base s'.tm) (Wr ops s'.tm) ops.toList base k o s s1:=by
 have ho:ops.toList[k]?=some o:=by simpa using (hl 0).symm
 have hev:=fun x hx=>ev_keep (x:=x) hx hre h
 obtain ⟨tm,hp0⟩:=s
 unfold amStep at h1
 dsimp only at h1
 split at h1
 ·rename_i hw
  unfold amOp at h1
  dsimp only at h1
  split at h1
  ·rename_i hc
   split at h1
   case h_2=>simp at h1
   rename_i v hv
   simp only [Option.some.injEq] at h1; subst h1
   -- what the mask leaves
   have hmask:(maskIf true ops.toList base o hp0).length=hp0.length ∧ (∀ (id:Nat) (b:Blk),(maskIf true ops.toList base o hp0)[id]?=some (some b) → hp0[id]?=some (some b)) ∧
     ∀ (j:Nat) (u:Oper),ops.toList[j]?=some u → slotted u.op=true → noEdge o j=true → ∀ b:Blk,(maskIf true ops.toList base o hp0)[base+before ops.toList j]? ≠ some (some b):=by
    unfold maskIf
    dsimp only
    split
    ·rename_i hbq
     exact ⟨rfl,fun _ _ h=>h,fun j u hj hs _=>by have:=before_lt ops.toList j ops.toList.length u (List.getElem?_eq_some_iff.1 hj).1 hj hs; have:=beq_t.1 hbq; omega⟩
    ·obtain ⟨q1,q2,q3⟩:=maskH_spec o ops.toList 0 base hp0
     exact ⟨q1,q2,fun j u hj hs hne=>q3 j u hj hs (by rw [Nat.zero_add]; exact hne)⟩
   obtain ⟨m1,m2,m3⟩:=hmask
   by_cases hld:∃ T x,o.op=.load T x
   ·obtain ⟨T,x,hop⟩:=hld
    rw [hop] at hv
    classical
    let h0:Heap:=(maskIf true ops.toList base o hp0).mapIdx fun id b=>if Bl ops base s'.tm k id then none else b
    have hg:∀ (id:Nat) (b:Blk),h0[id]?=some (some b) → (maskIf true ops.toList base o hp0)[id]?=some (some b) ∧ ¬ Bl ops base s'.tm k id:=by
     intro id b hb
     simp only [h0,List.getElem?_mapIdx,Option.map_eq_some_iff] at hb
     obtain ⟨a,ha,hif⟩:=hb
     split at hif
     ·cases hif
     ·rename_i hnb; rw [hif] at ha; exact ⟨ha,hnb⟩
    refine .rd (h0:=h0) hw hc ⟨by simp only [h0,List.length_mapIdx]; exact m1,fun id b hb=>m2 id b (hg id b hb).1⟩ ?_ (fun id b hb=>(hg id b hb).2)
    rw [hop]
    refine readOp_load hv fun id b hid hb=>?_
    simp only [h0,List.getElem?_mapIdx,hb,Option.map_some,Option.some.injEq]
    rw [if_neg]
    rintro ⟨j,oj,oi,hj,hi,hor⟩
    rw [ho] at hi
    simp only [Option.some.injEq] at hi; subst hi
    rcases hor with ⟨z1,z2,z3⟩ | ⟨T2,x2,y2,T3,x3,z1,z2,z3,z4⟩
    ·rw [z3] at hb; exact m3 j oj hj z1 z2 b hb
    ·have hx3:x3=x:=by rw [hop] at z2; cases z2; rfl
     have q:=pairsOK_spec _ hp j oj T2 x2 y2 hj z1
     have:=loadsOK_spec _ 0 q k o T x ho hop (by rw [Nat.zero_add]; exact z3)
     have e:=hev x (.inl ⟨T,hop⟩)
     simp only at e
     rw [← e,hid,z4] at this
     simp [diffId,Nat.beq_eq] at this
   ·refine .rd hw hc ⟨m1,m2⟩ hv fun id b hb=>?_
    rintro ⟨j,oj,oi,hj,hi,hor⟩
    rw [ho] at hi
    simp only [Option.some.injEq] at hi; subst hi
    rcases hor with ⟨z1,z2,z3⟩ | ⟨T2,x2,y2,T3,x3,z1,z2,z3,z4⟩
    ·rw [z3] at hb; exact m3 j oj hj z1 z2 b hb
    ·exact hld ⟨_,_,z2⟩
  ·rename_i hc
   split at h1
   case h_2=>simp at h1
   rename_i v hp' hs
   simp only [Option.some.injEq] at h1; subst h1
   refine .fn hw hc hs fun T x y e=>?_
   have hs':=hs
   rw [e] at hs'
   obtain ⟨id,b,e1,e2⟩:=store_eff hs'
   refine ⟨id,b,e1,o,T,x,y,ho,e,?_⟩
   have:=hev x (.inr ⟨T,y,e⟩)
   simp only at this
   rw [← this]; exact e2
 ·rename_i hw
  simp only [Option.some.injEq] at h1; subst h1
  exact .no hw
 ·simp at h1
theorem AmAny_lex (EO:EnvOK P E) {Fin:St → Prop} {F:List AV} (hp:pairsOK ops.toList F ops.toList=true):∀ (l:List Oper) (k:Nat) (listed:Array Bool) (s s':St),(∀ j,l[j]?=ops[k+j]?) → reOK l=true → lexFrom2 E.isW ops l.length k listed=true → Closed ops listed → Slots ops base listed s →
  amOps E ops.toList true base l k s=some s' → s'.tm=F → Fin s' → AmAny E (Bl ops base F) (Wr ops F) ops base Fin l.length listed s
 | [],k,listed,s,s',_,_,hB,_,_,h,_,hF=>by
  simp only [amOps,Option.some.injEq] at h; subst h
  exact ⟨by simpa [lexFrom2] using hB,hF⟩
 | o :: l,k,listed,s,s',hl,hre,hB,hcl,hsl,h,hFe,hF=>by
  have h0:ops[k]?=some o:=by simpa using (hl 0).symm
  have h0':ops.toList[k]?=some o:=by simpa using h0
  simp only [List.length_cons,lexFrom2,Bool.and_eq_true] at hB
  obtain ⟨⟨hr,hf⟩,hB'⟩:=hB
  have hall:=h
  simp only [amOps] at h
  split at h
  ·rename_i s1 h1
   have hst:=AStep.of_am hl hre hall h1 (by rw [hFe]; exact hp)
   rw [hFe] at hst
   have hre':reOK l=true:=by simp only [reOK,Bool.and_eq_true] at hre; exact hre.2
   refine AmAny_first EO h0' l.length listed s s1 (fun j oj hj hne hun hno hnw=>?_) (by simpa using hr) hcl hst hsl
    (AmAny_lex EO hp l (k+1) _ _ s' (fun j=>by have:=hl (j+1); simpa [Nat.add_assoc,Nat.add_comm 1 j] using this) hre' hB' (hcl.set (by simpa using hr)) (hsl.step EO h0' hst) h hFe hF)
   have hj':ops.toList[j]?=some oj:=by simpa using hj
   refine ⟨free2_spec h0 hf j oj hj hne hun hno hnw,fun hs=>⟨k,o,oj,h0',hj',.inl ⟨hs,noEdge_t.2 hno,rfl⟩⟩,fun hls id hw=>?_⟩
   obtain ⟨oj',T,x,y,e1,e2,e3⟩:=hw
   rw [hj'] at e1
   simp only [Option.some.injEq] at e1; subst e1
   have:∃ T' x',o.op=.load T' x':=by
    cases hoo:o.op <;> rw [hoo,e2] at hls <;> first | exact ⟨_,_,rfl⟩ | (simp [ldSt] at hls)
   obtain ⟨T',x',e4⟩:=this
   exact ⟨j,oj,o,hj',h0',.inr ⟨T,x,y,T',x',e2,e4,noEdge_t.2 hno,e3⟩⟩
  ·simp at h
end
end Go.AM
namespace Go.AM
open Go Go.RowKit
def FI (σ:Sg) (pr:Pr) (w:World) (tm:List AV) (a:Act):Prop :=
 a.tmps.size=tm.length ∧ ∀ i,i < tm.length → RV σ pr w (getA tm i) (a.tmps.getD i undef)
structure SI (w0:World) (own0:Own) (σ:Sg) (pr:Pr) (s:St) (a:Act) (w:World):Prop where
 hi:HI w0 own0 σ pr s.hp w
 fi:FI σ pr w s.tm a
 df:a.defers=[]
section
variable {P:Program} {E:Env} {σ:Sg} {pr:Pr} {w w0:World} {own0:Own} {ops:Array Oper} {base:Nat}
theorem FI.any {tm:List AV} {a:Act} (h:FI σ pr w tm a) (i:Nat):RV σ pr w (getA tm i) (a.tmps.getD i undef):=by
 by_cases hi:i < tm.length
 ·exact h.2 i hi
 ·have:getA tm i=.any:=by simp [getA,List.getElem?_eq_none (Nat.le_of_not_lt hi)]
  rw [this]; trivial
theorem ofConst_spec (v:Value):RV σ pr w (ofConst v) v:=by
 unfold ofConst
 split
 ·exact RV.of_sc .int
 ·exact RV.of_sc .bool
 ·exact RV.of_sc .str
 ·exact RV.of_sc .nils
 ·exact RV.of_sc .nilp
 ·exact RV.of_sc (.raw rfl)
 ·trivial
theorem FI.ev {tm:List AV} {a:Act} (h:FI σ pr w tm a) (x:Operand):RV σ pr w (ev tm x) (a.eval x):=by
 cases x with
 | tmp t=>exact h.any t
 | const v=>exact ofConst_spec v
 | global g=>trivial
 | func f =>
  have:=RS.clo (σ:=σ) (pr:=pr) (w:=w) (f:=f) (caps:=[]) [] rfl (fun i hi=>by simp at hi)
  exact RV.of_sc this
theorem FI.put {tm:List AV} {a:Act} (h:FI σ pr w tm a) {σ':Sg} {pr':Pr} {w':World} (hL:Le σ pr w σ' pr' w') {dst:Option Tmp} {v:AV} {val:Value} (hv:RV σ' pr' w' v val):FI σ' pr' w' (put dst v tm) (a.put dst val):=by
 cases dst with
 | none=>exact ⟨h.1,fun i hi=>(h.2 i hi).mono hL⟩
 | some d =>
  refine ⟨by simp [Act.put,AM.put,h.1],fun i hi=>?_⟩
  have hi':i < tm.length:=by simpa [AM.put] using hi
  by_cases e:d=i
  ·subst e
   have h1:getA (AM.put (some d) v tm) d=v:=by simp [getA,AM.put,hi']
   have h2:(a.put (some d) val).tmps.getD d undef=val:=by simp [Act.put,h.1,hi']
   rw [h1,h2]; exact hv
  ·have h1:getA (AM.put (some d) v tm) i=getA tm i:=getA_put fun d' hd' e'=>by cases hd'; exact e e'.symm
   have h2:(a.put (some d) val).tmps.getD i undef=a.tmps.getD i undef:=by
    simp [Act.put,Array.getElem?_setIfInBounds_ne e]
   rw [h1,h2]; exact (h.2 i hi').mono hL
theorem wanted_spec {tm:List AV} {a:Act} (h:FI σ pr w tm a) {o:Oper} {b:Bool} (hw:wanted ops.toList tm o=some b):Region.wanted o (yielded ops a.tmps)=b:=by
 unfold wanted at hw
 unfold Region.wanted
 cases hg:o.guard with
 | none=>simp [hg] at hw; subst hw; rfl
 | some gw =>
  obtain ⟨g,want⟩:=gw
  simp only [hg] at hw
  dsimp only
  cases ho:ops.toList[g]? with
  | none=>simp [ho] at hw
  | some o' =>
   simp only [ho] at hw
   have ho':ops[g]?=some o':=by simpa using ho
   cases hd:o'.dst with
   | none=>simp [hd] at hw
   | some t =>
    simp only [hd] at hw
    have hr:=h.any t
    have ht:t < tm.length:=by
     rcases Nat.lt_or_ge t tm.length with h' | h'
     ·exact h'
     ·have:getA tm t=.any:=by simp [getA,List.getElem?_eq_none h']
      rw [this] at hw; simp at hw
    have hsome:a.tmps[t]?=some (a.tmps.getD t undef):=by
     have:t < a.tmps.size:=by rw [h.1]; exact ht
     simp [this]
    have hy:yielded ops a.tmps g=match a.tmps.getD t undef with | .bool b=>some b | _=>none:=by
     unfold yielded
     simp only [ho',Option.bind_some,hd,hsome]
     generalize a.tmps.getD t undef=q
     cases q <;> rfl
    rw [hy]
    split at hw
    ·rename_i c hc
     simp only [Option.some.injEq] at hw; subst hw
     rw [hc] at hr
     rw [RS.bool_inv hr]
     cases c <;> cases want <;> rfl
    ·rename_i hc
     simp only [Option.some.injEq] at hw; subst hw
     rw [hc] at hr
     obtain ⟨vs,e,hl,_⟩:=hr
     have:vs=[]:=by simpa using hl
     subst this
     rw [e]; rfl
    ·simp at hw
def convOK (P:Program) (o:Oper):Prop:=∀ s d x,o.op=.convert s d x → CV P s d
theorem upon_after {hp:Heap} {hp':Heap} {v:AV} {sl:Nat} {o:Oper} {a:Act} {K:Act → World → Prop} {Q:Exit → Act → World → Prop} {r:Result Next} (h:After P w0 own0 σ pr hp w sl v hp' r)
  (hK:∀ val σ' pr' w',Out w0 own0 σ pr hp w sl v hp' val σ' pr' w' → K (a.put o.dst val) w'):o.upon P a K Q r:=by
 cases r with
 | halt x w'=>exact h.elim
 | ok n w' =>
  cases n <;> try exact h.elim
  case value val =>
   obtain ⟨σ',pr',ho⟩:=h
   exact hK _ _ _ _ ho
  case skip =>
   obtain ⟨σ',pr',ho⟩:=h
   exact hK _ _ _ _ ho
  case enter f args =>
   refine Calls.mono h fun e w'' he=>?_
   obtain ⟨val,σ',pr',rfl,ho⟩:=he
   exact hK _ _ _ _ ho
theorem step_wpOp (EO:EnvOK P E) (PO:ProgOK P) (hcv:∀ o ∈ ops.toList,convOK P o) {i:Nat} {o:Oper} (ho:ops.toList[i]?=some o) {Bl Wr:Nat → Nat → Prop} {s s':St} (hs:AStep E Bl Wr ops.toList base i o s s')
  {a:Act} (H:SI w0 own0 σ pr s a w) (hslot:slotted o.op=true → s.hp[base+before ops.toList i]?=some none ∧ σ (base+before ops.toList i)=none)
  {K:Act → World → Prop} {Q:Exit → Act → World → Prop}
  (hK:∀ a' σ' pr' w',SI w0 own0 σ' pr' s' a' w' → Le σ pr w σ' pr' w' → (∀ id,id < s.hp.length → (slotted o.op=true → id ≠ base+before ops.toList i) → σ' id=σ id) → s.hp.length ≤ s'.hp.length → K a' w'):wpOp P ops Q i K a w:=by
 have ho':ops[i]?=some o:=by simpa using ho
 have hcvo:=hcv o (List.mem_of_getElem? ho)
 unfold wpOp
 simp only [ho']
 have hρ:=H.fi.ev
 cases hs with
 | no hw =>
  have:=wanted_spec H.fi hw
  rw [this]
  simp only [Bool.false_eq_true,if_false]
  exact hK _ σ pr w ⟨H.hi,H.fi.put (Le.refl _ _ _) RV.none,by cases o.dst <;> simpa [Act.put] using H.df⟩ (Le.refl _ _ _) (fun _ _ _=>rfl) (Nat.le_refl _)
 | fn hw hc hst _ =>
  rename_i tm hp hp' v
  have:=wanted_spec H.fi hw
  rw [this]
  simp only [if_true]
  refine .inl ?_
  obtain ⟨sl',e1,e2,hA⟩:=step_sound EO PO hρ H.hi hslot hcvo hst
  refine upon_after hA fun val σ' pr' w' out=>hK _ σ' pr' w' ⟨out.hi,H.fi.put out.le out.rv,by cases o.dst <;> simpa [Act.put] using H.df⟩ out.le (fun id hid hne=>out.keep id hid ?_) out.len
  cases hso:slotted o.op with
  | true=>rw [e1 hso]; exact hne hso
  | false=>exact Nat.ne_of_lt (Nat.lt_of_lt_of_le hid (e2 hso))
 | rd hw hc hsub hst _ =>
  rename_i tm hp h0 v
  have:=wanted_spec H.fi hw
  rw [this]
  simp only [if_true]
  refine .inl ?_
  have hA:=read_sound EO hρ H.hi (o:=o) hcvo hsub hst
  refine upon_after hA fun val σ' pr' w' out=>hK _ σ' pr' w' ⟨out.hi,H.fi.put out.le out.rv,by cases o.dst <;> simpa [Act.put] using H.df⟩ out.le (fun id hid _=>out.keep id hid (Nat.ne_of_lt hid)) out.len
def Fresh (σ:Sg) (ops:Array Oper) (base:Nat) (listed:Array Bool):Prop :=
 ∀ i o,ops.toList[i]?=some o → slotted o.op=true → listed.getD i true=false → σ (base+before ops.toList i)=none
theorem wpAny_of_am (EO:EnvOK P E) (PO:ProgOK P) (hcv:∀ o ∈ ops.toList,convOK P o) {Bl Wr:Nat → Nat → Prop} {Fin:St → Prop} {Q:Exit → Act → World → Prop}:∀ (fuel:Nat) (listed:Array Bool) (s:St) (a:Act) (σ:Sg) (pr:Pr) (w:World),
  AmAny E Bl Wr ops base Fin fuel listed s → SI w0 own0 σ pr s a w → Slots ops base listed s → Fresh σ ops base listed → base ≤ s.hp.length →
  (∀ s' a' σ' pr' w',Fin s' → SI w0 own0 σ' pr' s' a' w' → Le σ pr w σ' pr' w' → (∀ id,id < base → σ' id=σ id) → base ≤ s'.hp.length → Q .normal a' w') → wpAny P .any ops Q fuel listed a w
 | 0,listed,s,a,σ,pr,w,h,H,_,_,hbl,hQ=>⟨h.1,hQ s a σ pr w h.2 H (Le.refl _ _ _) (fun _ _=>rfl) hbl⟩
 | fuel+1,listed,s,a,σ,pr,w,h,H,hsl,hfr,hbl,hQ=>by
  refine ⟨fun h0=>hQ s a σ pr w (h.1 h0) H (Le.refl _ _ _) (fun _ _=>rfl) hbl,fun i hi=>?_⟩
  obtain ⟨hiun,o,ho,_⟩:=mem_ready.1 hi
  have ho':ops.toList[i]?=some o:=by simpa using ho
  obtain ⟨s',hs,h'⟩:=h.2 i hi o ho'
  refine step_wpOp EO PO hcv ho' hs H (fun hso=>⟨hsl i o ho' hso hiun,hfr i o ho' hso hiun⟩) (fun a' σ' pr' w' H' hL hkeep hlen=>?_)
  refine wpAny_of_am EO PO hcv fuel _ s' a' σ' pr' w' h' H' (hsl.step EO ho' hs) (fun j u hj hso hun=>?_) (Nat.le_trans hbl hlen) (fun s'' a'' σ'' pr'' w'' hF H'' hL' hk' hl'=>hQ s'' a'' σ'' pr'' w'' hF H'' (hL.trans hL') (fun id hid=>by rw [hk' id hid,hkeep id (Nat.lt_of_lt_of_le hid hbl) (fun _=>by omega)]) hl')
  by_cases e:i=j
  ·subst e
   have:(listed.setIfInBounds i true).getD i true=true:=by
    rcases Nat.lt_or_ge i listed.size with h' | h'
    ·simp [h']
    ·simp [h']
   rw [this] at hun; cases hun
  ·rw [getD_set_ne true e] at hun
   have hslj:=hsl j u hj hso hun
   rw [hkeep _ (List.getElem?_eq_some_iff.1 hslj).1 (fun hso'=>by have:=before_ne e ho' hj hso' hso; omega)]
   exact hfr j u hj hso hun
theorem wpOps_of_am (EO:EnvOK P E) (PO:ProgOK P) (hcv:∀ o ∈ ops.toList,convOK P o) {Q:Exit → Act → World → Prop}:∀ (l:List Oper) (k:Nat) (s s':St) (a:Act) (σ:Sg) (pr:Pr) (w:World),(∀ j,l[j]?=ops.toList[k+j]?) →
  amOps E ops.toList false base l k s=some s' → SI w0 own0 σ pr s a w →
  (∀ i o,k ≤ i → ops.toList[i]?=some o → slotted o.op=true → s.hp[base+before ops.toList i]?=some none ∧ σ (base+before ops.toList i)=none) →
  base ≤ s.hp.length → (∀ a' σ' pr' w',SI w0 own0 σ' pr' s' a' w' → Le σ pr w σ' pr' w' → (∀ id,id < base → σ' id=σ id) → base ≤ s'.hp.length → Q .normal a' w') → wpOps P ops Q ((List.range l.length).map (k+·)) a w
 | [],k,s,s',a,σ,pr,w,_,h,H,_,hbl,hQ=>by
  simp only [amOps,Option.some.injEq] at h; subst h
  exact hQ a σ pr w H (Le.refl _ _ _) (fun _ _=>rfl) hbl
 | o :: l,k,s,s',a,σ,pr,w,hl,h,H,hsl,hbl,hQ=>by
  have ho':ops.toList[k]?=some o:=by simpa using (hl 0).symm
  simp only [amOps] at h
  split at h
  ·rename_i s1 h1
   have hst:=AStep.of_plain h1
   rw [List.length_cons,List.range_succ_eq_map,List.map_cons,List.map_map,Nat.add_zero,wpOps_cons]
   refine step_wpOp EO PO hcv ho' hst H (hsl k o (Nat.le_refl _) ho') (fun a' σ' pr' w' H' hL hkeep hlen=>?_)
   have hm:List.map ((fun x=>k+x) ∘ Nat.succ) (List.range l.length)=(List.range l.length).map (k+1+·):=List.map_congr_left fun x _=>by simp; omega
   rw [hm]
   refine wpOps_of_am EO PO hcv l (k+1) s1 s' a' σ' pr' w' (fun j=>by have:=hl (j+1); simpa [Nat.add_assoc,Nat.add_comm 1 j] using this) h H' (fun i u hi hu hso=>?_) (Nat.le_trans hbl hlen) (fun a'' σ'' pr'' w'' H'' hL' hk' hl'=>hQ a'' σ'' pr'' w'' H'' (hL.trans hL') (fun id hid=>by rw [hk' id hid,hkeep id (Nat.lt_of_lt_of_le hid hbl) (fun _=>by omega)]) hl')
   obtain ⟨q1,q2⟩:=hsl i u (by omega) hu hso
   have hne:slotted o.op=true → base+before ops.toList i ≠ base+before ops.toList k:=fun hso'=>by
    have:=before_ne (show k ≠ i by omega) ho' hu hso' hso; omega
   exact ⟨hst.nones EO hne q1,by rw [hkeep _ (List.getElem?_eq_some_iff.1 q1).1 hne]; exact q2⟩
  ·simp at h
end
end Go.AM
namespace Go.AM
open Go Go.RowKit
def convB (P:Program) (o:Oper):Bool :=
 match o.op with
 | .convert s d _=>(P.underlying s).isSome && (Nat.beq s d || match P.underlying d with | some (.slice _)=>(match P.underlying s with | some .string=>true | _=>false) | _=>true)
 | _=>true
theorem convB_spec {P:Program} {o:Oper} (h:convB P o=true):convOK P o:=fun s d x e=>by
 simp only [convB,e,Bool.and_eq_true,Bool.or_eq_true] at h
 refine ⟨Option.isSome_iff_exists.1 h.1,fun hne he=>?_⟩
 obtain ⟨el,he⟩:=he
 rcases h.2 with h | h
 ·exact absurd (beq_t.1 h) hne
 ·rw [he] at h
  dsimp only at h
  split at h
  ·rename_i hu; exact hu
  ·simp at h
def codeOK (P:Program) (isW:Operand → Bool):Code → Bool
 | .region _ ops draw=>(!draw || regionOK isW ops) && ops.toList.all (convB P)
 | .seq a b | .cond _ a b=>codeOK P isW a && codeOK P isW b
 | .block _ b | .loop b=>codeOK P isW b
 | _=>true
def exOf:Ex → Exit
 | .normal=>.normal
 | .exit id=>.exit id
 | .ret=>.ret
section
variable {P:Program} {E:Env} {w0:World} {own0:Own}
structure Le2 (n0:Nat) (σ:Sg) (pr:Pr) (w:World) (σ':Sg) (pr':Pr) (w':World):Prop where
 le:Le σ pr w σ' pr' w'
 keep:∀ id,id < n0 → σ' id=σ id
theorem Le2.refl (n0:Nat) (σ:Sg) (pr:Pr) (w:World):Le2 n0 σ pr w σ pr w:=⟨Le.refl _ _ _,fun _ _=>rfl⟩
theorem Le2.trans {n0:Nat} {σ σ' σ'':Sg} {pr pr' pr'':Pr} {w w' w'':World} (a:Le2 n0 σ pr w σ' pr' w') (b:Le2 n0 σ' pr' w' σ'' pr'' w''):Le2 n0 σ pr w σ'' pr'' w'' :=
 ⟨a.le.trans b.le,fun id h=>by rw [b.keep id h,a.keep id h]⟩
structure SJ (n0:Nat) (w0:World) (own0:Own) (σ:Sg) (pr:Pr) (s:St) (a:Act) (w:World):Prop where
 si:SI w0 own0 σ pr s a w
 len:n0 ≤ s.hp.length
def Post (n0:Nat) (w0:World) (own0:Own) (σ:Sg) (pr:Pr) (w:World) (e:Ex) (s':St) (Q:Exit → Act → World → Prop):Prop :=
 ∀ a' σ' pr' w',SJ n0 w0 own0 σ' pr' s' a' w' → Le2 n0 σ pr w σ' pr' w' → Q (exOf e) a' w'
theorem slots_start (ops:Array Oper) (tm:List AV) (hp:Heap) {i:Nat} {o:Oper} (ho:ops.toList[i]?=some o) (hs:slotted o.op=true):(hp ++ List.replicate (before ops.toList ops.toList.length) none)[hp.length+before ops.toList i]?=some none:=by
 have hlt:=before_lt ops.toList i ops.toList.length o (List.getElem?_eq_some_iff.1 ho).1 ho hs
 rw [List.getElem?_append_right (by omega),Nat.add_sub_cancel_left,List.getElem?_replicate,if_pos hlt]
theorem SI.grow {σ:Sg} {pr:Pr} {tm:List AV} {hp:Heap} {a:Act} {w:World} (H:SI w0 own0 σ pr ⟨tm,hp⟩ a w) (n:Nat):SI w0 own0 σ pr ⟨tm,hp ++ List.replicate n none⟩ a w:=by
 have old:∀ (id:Nat) (b:Blk),(hp ++ List.replicate n none)[id]?=some (some b) → hp[id]?=some (some b):=fun id b h=>by
  by_cases e:id < hp.length
  ·rw [List.getElem?_append_left e] at h; exact h
  ·rw [List.getElem?_append_right (by omega),List.getElem?_replicate] at h
   split at h <;> simp at h
 exact ⟨⟨fun id h=>H.hi.fresh id (by simp at h; simp only; omega),fun id b h=>H.hi.blk id b (old id b h),fun j j' b b' g x x' h1 h2=>H.hi.inj j j' b b' g x x' (old _ _ h1) (old _ _ h2),fun j b h=>H.hi.lens j b (old j b h),H.hi.ev,H.hi.prlt,H.hi.prnew⟩,H.fi,H.df⟩
theorem region_sound (EO:EnvOK P E) (PO:ProgOK P) (hm:P.follows .mixedOrders=true) {id:Nat} {ops:Array Oper} {draw:Bool} (hc:codeOK P E.isW (.region id ops draw)=true) {s s':St} (h:amRegion E ops.toList draw s=some s')
  {n0:Nat} {σ:Sg} {pr:Pr} {a:Act} {w:World} (HJ:SJ n0 w0 own0 σ pr s a w) {Q:Exit → Act → World → Prop} (hQ:Post n0 w0 own0 σ pr w .normal s' Q):(Code.region id ops draw).wp P Q a w:=by
 obtain ⟨tm,hp⟩:=s
 obtain ⟨H,hn0⟩:=HJ
 simp only at hn0
 simp only [codeOK,Bool.and_eq_true,Bool.or_eq_true,Bool.not_eq_true',List.all_eq_true] at hc
 obtain ⟨hc1,hc2⟩:=hc
 have hcv:∀ o ∈ ops.toList,convOK P o:=fun o ho=>convB_spec (hc2 o ho)
 simp only [amRegion] at h
 split at h
 case h_2=>simp at h
 rename_i s1 hs1
 have H1:=H.grow (before ops.toList ops.toList.length)
 have hfr:∀ i,σ (hp.length+before ops.toList i)=none:=fun i=>H.hi.fresh _ (by simp only; omega)
 cases draw with
 | false =>
  refine wp_region ?_
  simp only [Option.some.injEq] at h; subst h
  have:=wpOps_of_am EO PO hcv (Q:=Q) ops.toList 0 _ s1 a σ pr w (fun j=>by simp) hs1 H1 (fun i o _ ho hs=>⟨slots_start ops tm hp ho hs,hfr i⟩) (by simp) (fun a' σ' pr' w' H' L' hk hl=>hQ a' σ' pr' w' ⟨H',Nat.le_trans hn0 hl⟩ ⟨L',fun id hid=>hk id (Nat.lt_of_lt_of_le hid hn0)⟩)
  simpa using this
 | true =>
  have hc1:regionOK E.isW ops=true:=by simpa using hc1
  simp only [regionOK,Bool.and_eq_true] at hc1
  dsimp only at h
  split at h
  case h_2=>simp at h
  rename_i hpo
  simp only [Option.some.injEq] at h; subst h
  refine wp_region_any hm ?_
  obtain ⟨HD,LD⟩:=H1.hi.drew
  have H2:SI w0 own0 σ pr ⟨tm,hp ++ List.replicate (before ops.toList ops.toList.length) none⟩ a w.drew:=⟨HD,⟨H1.fi.1,fun i hi=>(H1.fi.2 i hi).mono LD⟩,H1.df⟩
  have hsl:Slots ops hp.length (Array.replicate ops.size false) ⟨tm,hp ++ List.replicate (before ops.toList ops.toList.length) none⟩:=fun i o ho hs _=>slots_start ops tm hp ho hs
  have hany:=AmAny_lex EO (Fin:=fun t=>t=s1) hpo ops.toList 0 (Array.replicate ops.size false) _ s1 (fun j=>by simp) hc1.1 (by simpa using hc1.2.2) (fun m om _ hm=>by simp [Array.getD,Array.getElem?_replicate] at hm) hsl hs1 rfl rfl
  have:=wpAny_of_am EO PO hcv (Q:=Q) _ _ _ a σ pr w.drew hany H2 hsl (fun i o _ _ _=>hfr i) (by simp) (fun s'' a'' σ'' pr'' w'' hF H'' hL hk hl=>by subst hF; exact hQ a'' σ'' pr'' w'' ⟨H'',Nat.le_trans hn0 hl⟩ ⟨LD.trans hL,fun id hid=>hk id (Nat.lt_of_lt_of_le hid hn0)⟩)
  simpa using this
def BlockSound (P:Program) (w0:World) (own0:Own) (F:St → Option (Ex × St)) (id:Nat) (b:Code):Prop :=
 ∀ (n0:Nat) (s s':St) (e:Ex) (σ:Sg) (pr:Pr) (a:Act) (w:World) (Q:Exit → Act → World → Prop),
  F s=some (e,s') → SJ n0 w0 own0 σ pr s a w → Post n0 w0 own0 σ pr w e s' Q → (Code.block id b).wp P Q a w
def accOK (P:Program) (E:Env) (w0:World) (own0:Own):Code → Prop
 | .seq a b | .cond _ a b=>accOK P E w0 own0 a ∧ accOK P E w0 own0 b
 | .block id b=>match E.L id with
  | some F=>BlockSound P w0 own0 F id b
  | none=>accOK P E w0 own0 b
 | .loop b=>accOK P E w0 own0 b
 | _=>True
theorem accOK_none {P:Program} {E:Env} {w0:World} {own0:Own} (h:∀ id,E.L id=none):∀ c,accOK P E w0 own0 c:=by
 intro c
 induction c with
 | seq a b iha ihb=>exact ⟨iha,ihb⟩
 | cond c a b iha ihb=>exact ⟨iha,ihb⟩
 | block id b ih=>simp only [accOK,h]; exact ih
 | loop b ih=>exact ih
 | _=>trivial
theorem am_sound (EO:EnvOK P E) (PO:ProgOK P) (hm:P.follows .mixedOrders=true) (N n0:Nat):∀ (c:Code),codeOK P E.isW c=true → accOK P E w0 own0 c → ∀ (s s':St) (e:Ex) (σ:Sg) (pr:Pr) (a:Act) (w:World) (Q:Exit → Act → World → Prop),
  am E N c s=some (e,s') → SJ n0 w0 own0 σ pr s a w → Post n0 w0 own0 σ pr w e s' Q → c.wp P Q a w:=by
 intro c
 induction c with
 | skip =>
  intro _ hac s s' e σ pr a w Q h H hQ
  simp only [am,Option.some.injEq,Prod.mk.injEq] at h
  obtain ⟨rfl,rfl⟩:=h
  exact wp_skip (hQ a σ pr w H (Le2.refl _ _ _ _))
 | region id ops draw =>
  intro hc hac s s' e σ pr a w Q h H hQ
  simp only [am] at h
  split at h
  ·rename_i s1 h1
   simp only [Option.some.injEq,Prod.mk.injEq] at h
   obtain ⟨rfl,rfl⟩:=h
   exact region_sound EO PO hm hc h1 H hQ
  ·simp at h
 | seq x y ihx ihy =>
  intro hc hac s s' e σ pr a w Q h H hQ
  simp only [codeOK,Bool.and_eq_true] at hc
  simp only [am] at h
  split at h
  ·rename_i e1 s1 h1
   cases e1 with
   | normal =>
    refine wp_seq (ihx hc.1 hac.1 s s1 .normal σ pr a w _ h1 H ?_)
    intro a1 σ1 pr1 w1 H1 L1
    exact ihy hc.2 hac.2 s1 s' e σ1 pr1 a1 w1 Q h H1 (fun a2 σ2 pr2 w2 H2 L2=>hQ a2 σ2 pr2 w2 H2 (L1.trans L2))
   | exit id =>
    simp only [Option.some.injEq,Prod.mk.injEq] at h
    obtain ⟨rfl,rfl⟩:=h
    exact wp_seq (ihx hc.1 hac.1 s s1 (.exit id) σ pr a w _ h1 H (fun a2 σ2 pr2 w2 H2 L2=>hQ a2 σ2 pr2 w2 H2 L2))
   | ret =>
    simp only [Option.some.injEq,Prod.mk.injEq] at h
    obtain ⟨rfl,rfl⟩:=h
    exact wp_seq (ihx hc.1 hac.1 s s1 .ret σ pr a w _ h1 H (fun a2 σ2 pr2 w2 H2 L2=>hQ a2 σ2 pr2 w2 H2 L2))
  ·simp at h
 | cond c x y ihx ihy =>
  intro hc hac s s' e σ pr a w Q h H hQ
  simp only [codeOK,Bool.and_eq_true] at hc
  simp only [am] at h
  split at h
  ·rename_i b hb
   have hv:=H.si.fi.ev c
   have hbv:a.eval c=.bool b:=by
    unfold condB at hb
    split at hb
    ·rename_i b' hb'
     simp only [Option.some.injEq] at hb; subst hb
     rw [hb'] at hv
     exact RS.bool_inv hv
    ·simp at hb
   cases b with
   | true=>exact wp_cond_true hbv (ihx hc.1 hac.1 s s' e σ pr a w Q h H hQ)
   | false=>exact wp_cond_false hbv (ihy hc.2 hac.2 s s' e σ pr a w Q h H hQ)
  ·simp at h
 | block id b ih =>
  intro hc hac s s' e σ pr a w Q h H hQ
  simp only [codeOK] at hc
  simp only [am] at h
  simp only [accOK] at hac
  cases hL:E.L id with
  | some F=>rw [hL] at h hac; exact hac n0 s s' e σ pr a w Q h H hQ
  | none =>
  rw [hL] at h hac
  dsimp only at h hac
  split at h
  ·rename_i e1 s1 h1
   refine wp_block (ih hc hac s s1 e1 σ pr a w _ h1 H ?_)
   intro a1 σ1 pr1 w1 H1 L1
   cases e1 with
   | normal =>
    simp only [Option.some.injEq,Prod.mk.injEq] at h
    obtain ⟨rfl,rfl⟩:=h
    exact hQ a1 σ1 pr1 w1 H1 L1
   | exit j =>
    simp only at h
    split at h
    ·rename_i hj
     have hj:=beq_t.1 hj
     simp only [Option.some.injEq,Prod.mk.injEq] at h
     obtain ⟨rfl,rfl⟩:=h
     simp only [exOf,Exit.inBlock,hj,if_true]
     exact hQ a1 σ1 pr1 w1 H1 L1
    ·rename_i hj
     have hj:=beq_f.1 hj
     simp only [Option.some.injEq,Prod.mk.injEq] at h
     obtain ⟨rfl,rfl⟩:=h
     simp only [exOf,Exit.inBlock,if_neg hj]
     exact hQ a1 σ1 pr1 w1 H1 L1
   | ret =>
    simp only [Option.some.injEq,Prod.mk.injEq] at h
    obtain ⟨rfl,rfl⟩:=h
    exact hQ a1 σ1 pr1 w1 H1 L1
  ·simp at h
 | loop b ih =>
  intro hc hac s s' e σ pr a w Q h H hQ
  simp only [codeOK] at hc
  simp only [am] at h
  have key:∀ (n:Nat) (s:St) (σ:Sg) (pr:Pr) (a:Act) (w:World),loopN (am E N b) n s=some (e,s') → SJ n0 w0 own0 σ pr s a w → Post n0 w0 own0 σ pr w e s' Q → Code.rounds P b Q n a w:=by
   intro n
   induction n with
   | zero=>intro s σ pr a w h; simp [loopN] at h
   | succ n ihn =>
    intro s σ pr a w h H hQ
    simp only [loopN] at h
    rw [rounds_succ]
    split at h
    ·rename_i e1 s1 h1
     cases e1 with
     | normal =>
      refine ih hc hac s s1 .normal σ pr a w _ h1 H ?_
      intro a1 σ1 pr1 w1 H1 L1
      exact ihn s1 σ1 pr1 a1 w1 h H1 (fun a2 σ2 pr2 w2 H2 L2=>hQ a2 σ2 pr2 w2 H2 (L1.trans L2))
     | exit id =>
      simp only [Option.some.injEq,Prod.mk.injEq] at h
      obtain ⟨rfl,rfl⟩:=h
      exact ih hc hac s s1 (.exit id) σ pr a w _ h1 H (fun a2 σ2 pr2 w2 H2 L2=>hQ a2 σ2 pr2 w2 H2 L2)
     | ret =>
      simp only [Option.some.injEq,Prod.mk.injEq] at h
      obtain ⟨rfl,rfl⟩:=h
      exact ih hc hac s s1 .ret σ pr a w _ h1 H (fun a2 σ2 pr2 w2 H2 L2=>hQ a2 σ2 pr2 w2 H2 L2)
    ·simp at h
  exact wp_loop_rounds N (key N s σ pr a w h H hQ)
 | exit id =>
  intro _ hac s s' e σ pr a w Q h H hQ
  simp only [am,Option.some.injEq,Prod.mk.injEq] at h
  obtain ⟨rfl,rfl⟩:=h
  exact wp_exit (hQ a σ pr w H (Le2.refl _ _ _ _))
 | ret =>
  intro _ hac s s' e σ pr a w Q h H hQ
  simp only [am,Option.some.injEq,Prod.mk.injEq] at h
  obtain ⟨rfl,rfl⟩:=h
  exact wp_ret (hQ a σ pr w H (Le2.refl _ _ _ _))
 | _=>intro _ hac s s' e σ pr a w Q h; simp [am] at h
end
end Go.AM
namespace Go.AM
open Go Go.RowKit
section
variable {P:Program} {E:Env} {w0:World} {own0:Own}
def resSem (tmps:Array Value):ResultVar → Sem Value
 | .tmp t=>pure (tmps.getD t undef)
 | .cell x t=>do loadVar t (← asAddr (tmps.getD x undef))
theorem results_eq (fn:Func) (tmps:Array Value):results fn tmps=(do let vs ← fn.results.mapM (resSem tmps); pure (if h:vs.size=1 then vs[0] else .tuple vs)):=by
 have h:∀ g:ResultVar → Sem Value,(∀ r,g r=resSem tmps r) → (do let vs ← fn.results.mapM g; pure (if h:vs.size=1 then vs[0] else Value.tuple vs):Sem Value)=(do let vs ← fn.results.mapM (resSem tmps); pure (if h:vs.size=1 then vs[0] else .tuple vs)):=fun g hg=>by
  rw [show g=resSem tmps from funext hg]
 exact h _ (fun r=>by cases r <;> rfl)
theorem run_resVar (ET:EnvTy P E) {σ:Sg} {pr:Pr} {w:World} {s:St} {a:Act} (H:SI w0 own0 σ pr s a w) {r:ResultVar} {v:AV} (h:resVar E.ty s r=some v) :
  ∃ val,(resSem a.tmps r).run P w=.ok val w ∧ RV σ pr w v val:=by
 cases r with
 | tmp t =>
  simp only [resVar,Option.some.injEq] at h; subst h
  exact ⟨_,rfl,H.fi.any t⟩
 | cell x t =>
  have hread:readOp E (ev s.tm) s.hp (.load t (.tmp x))=some v:=by
   simp only [resVar] at h
   simp only [readOp,ev]
   split at h
   ·rename_i id sz i c ext T hx hT
    rw [hx,hT]
    exact h
   ·simp at h
  obtain ⟨val, h1, h2⟩ := m_load (γ := a.eval) ET H.fi.ev H.hi hread (d := none) (t := 0) (p := "") (e := #[]) (g := none)
  have hval:∃ ad,a.tmps.getD x undef=.pointer (some ad):=by
   simp only [resVar] at h
   split at h
   ·rename_i id sz i c ext T hx hT
    have:=H.fi.any x
    rw [hx] at this
    obtain ⟨b,n,e,_⟩:=RS.ptr_inv this
    exact ⟨_,e⟩
   ·simp at h
  obtain ⟨ad,had⟩:=hval
  refine ⟨val,?_,h2⟩
  have he:a.eval (.tmp x)=.pointer (some ad):=had
  simp only [execOp,he,Instr.loadAt,Instr.sureAddr,Sem.run_bind,Sem.run_pure,Result.andThen_ok] at h1
  simp only [resSem,had,asAddr,Sem.run_bind,Sem.run_pure,Result.andThen_ok]
  generalize (loadVar t ad).run P w=res at h1
  cases res with
  | ok x w' =>
   simp only [Result.andThen_ok,Result.ok.injEq,Next.value.injEq] at h1
   obtain ⟨rfl,rfl⟩:=h1; rfl
  | halt x w'=>simp [Result.andThen] at h1
theorem run_resL (ET:EnvTy P E) {σ:Sg} {pr:Pr} {w:World} {s:St} {a:Act} (H:SI w0 own0 σ pr s a w):∀ (l:List ResultVar) (vs:List AV),resL E.ty s l=some vs →
  ∃ vals,(l.mapM (resSem a.tmps)).run P w=.ok vals w ∧ vals.length=vs.length ∧ ∀ (i:Nat) (u:AV) (x:Value),vs[i]?=some u → vals[i]?=some x → RV σ pr w u x
 | [],vs,h=>by
  simp only [resL,Option.some.injEq] at h; subst h
  exact ⟨[],rfl,rfl,fun i u x h=>by simp at h⟩
 | r :: l,vs,h=>by
  simp only [resL] at h
  split at h
  case h_2=>simp at h
  rename_i v hv
  split at h
  case h_2=>simp at h
  rename_i vs' hvs
  simp only [Option.some.injEq] at h; subst h
  obtain ⟨val,e1,e2⟩:=run_resVar ET H hv
  obtain ⟨vals,e3,e4,e5⟩:=run_resL ET H l vs' hvs
  refine ⟨val :: vals,?_,by simp [e4],fun i u x h1 h2=>?_⟩
  ·rw [List.mapM_cons,Sem.run_bind,e1]
   simp only [Result.andThen_ok,Sem.run_bind,e3]
   rfl
  ·cases i with
   | zero=>simp at h1 h2; subst h1 h2; exact e2
   | succ i=>exact e5 i u x (by simpa using h1) (by simpa using h2)
def noTup:AV → Bool
 | .tup _=>false
 | .any=>false
 | _=>true
theorem run_results (ET:EnvTy P E) {σ:Sg} {pr:Pr} {w:World} {s:St} {a:Act} (H:SI w0 own0 σ pr s a w) {fn:Func} {v:AV} (h:resAll E.ty s fn.results.toList=some v) (hn:∀ l,v=.tup l → l.all noTup=true) :
  ∃ val,(results fn a.tmps).run P w=.ok val w ∧ RV σ pr w v val:=by
 unfold resAll at h
 split at h
 ·rename_i u hu
  simp only [Option.some.injEq] at h; subst h
  obtain ⟨vals,e1,e2,e3⟩:=run_resL ET H _ _ hu
  obtain ⟨x,rfl⟩:∃ x,vals=[x]:=by
   match vals,e2 with
   | [x],_=>exact ⟨x,rfl⟩
  refine ⟨x,?_,e3 0 u x rfl rfl⟩
  rw [results_eq,← Array.toArray_toList (xs:=fn.results),List.mapM_toArray]
  simp only [Sem.run_bind,Sem.run_map]
  rw [e1]
  simp
 ·rename_i vs hne hu
  simp only [Option.some.injEq] at h; subst h
  obtain ⟨vals,e1,e2,e3⟩:=run_resL ET H _ _ hu
  have hne':vals.length ≠ 1:=fun h1=>by
   rw [e2] at h1
   match vs,h1 with
   | [x],_=>exact hne x rfl
  refine ⟨.tuple vals.toArray,?_,vals,rfl,e2,fun i u x h1 h2=>?_⟩
  ·rw [results_eq,← Array.toArray_toList (xs:=fn.results),List.mapM_toArray]
   simp only [Sem.run_bind,Sem.run_map]
   rw [e1]
   simp [hne']
  ·have hr:=e3 i u x h1 h2
   have:=List.all_eq_true.1 (hn vs rfl) u (List.mem_of_getElem? h1)
   cases u with
   | any=>simp [noTup] at this
   | tup l=>simp [noTup] at this
   | sc s=>exact hr
   | agg s=>exact hr
 ·simp at h
theorem func_sound (EO:EnvOK P E) (PO:ProgOK P) (hm:P.follows .mixedOrders=true) {N:Nat} {f:FuncId} {fn:Func} (hfn:P.funcs[f]?=some fn) (hok:∀ c,fn.body=some c → codeOK P E.isW c=true) (hacc:∀ c,fn.body=some c → accOK P E w0 own0 c)
  {args:List AV} {hp hp':Heap} {v:AV} (h:amFunc E N fn args hp=some (v,hp')) (hn:∀ l,v=.tup l → l.all noTup=true) {σ:Sg} {pr:Pr} {w:World} (H:HI w0 own0 σ pr hp w) {vs:List Value} (ha:ArgsOK σ pr w args vs) :
  Calls P f vs.toArray w (fun e w'=>∃ val σ' pr',e=.returned val ∧ HI w0 own0 σ' pr' hp' w' ∧ RV σ' pr' w' v val ∧ Le σ pr w σ' pr' w' ∧ (∀ id,id < hp.length → σ' id=σ id) ∧ hp.length ≤ hp'.length):=by
 unfold amFunc at h
 split at h
 ·simp at h
 rename_i c hc
 split at h
 case h_2=>simp at h
 rename_i e s hs
 have hex:e=.normal ∨ e=.ret:=by
  cases e with
  | exit id=>simp at h
  | normal=>exact .inl rfl
  | ret=>exact .inr rfl
 have h':(match resAll E.ty s fn.results.toList with | some v=>some (v,s.hp) | none=>none)=some (v,hp'):=by
  rcases hex with rfl | rfl <;> exact h
 split at h'
 case h_2=>simp at h'
 rename_i v' hv
 simp only [Option.some.injEq,Prod.mk.injEq] at h'
 obtain ⟨rfl,rfl⟩:=h'
 refine calls_of_wp hfn hc ?_
 have hlen:vs.length=args.length:=ha.1
 have S0:SI w0 own0 σ pr ⟨start fn args,hp⟩ { tmps:=vs.toArray ++ Array.replicate (fn.ntmps - vs.toArray.size) undef,defers:=[] } w:=by
  refine ⟨H,⟨by simp [start,hlen],fun i hi=>?_⟩,rfl⟩
  by_cases e:i < args.length
  ·have h1:getA (start fn args) i=args[i]:=by simp only [getA,start,List.getD]; rw [List.getElem?_append_left e]; simp [e]
   have h2:(vs.toArray ++ Array.replicate (fn.ntmps - vs.toArray.size) undef).getD i undef=vs[i]'(by omega):=by
    have:i < vs.length:=by omega
    simp [Array.getElem?_append,this]
   rw [h1,h2]
   exact ha.2 i _ _ (List.getElem?_eq_getElem e) (List.getElem?_eq_getElem (by omega))
  ·have hr:i - args.length < fn.ntmps - args.length:=by simp [start] at hi; omega
   have h1:getA (start fn args) i=.tup []:=by
    simp [getA,start,List.getElem?_append_right (Nat.le_of_not_lt e),hr]
   have h2:(vs.toArray ++ Array.replicate (fn.ntmps - vs.toArray.size) undef).getD i undef=undef:=by
    simp [Array.getElem?_append]
    split
    ·omega
    ·simp [Array.getElem?_replicate]; split <;> rfl
   rw [h1,h2]; exact RV.none
 refine am_sound EO PO hm N hp.length c (hok c hc) (hacc c hc) _ s e σ pr _ w _ hs ⟨S0,Nat.le_refl _⟩ ?_
 intro a' σ' pr' w' S' L'
 obtain ⟨val,r1,r2⟩:=run_results EO.ty S'.si hv hn
 rcases hex with rfl | rfl <;> exact ⟨S'.si.df,val,r1,val,σ',pr',rfl,S'.si.hi,r2,L'.le,L'.keep,S'.len⟩
inductive NF:SV → Prop where
 | unk:NF .unk
 | int {k n}:NF (.int k n)
 | bit {b}:NF (.bit b)
 | bool {b}:NF (.bool b)
 | str {s}:NF (.str s)
 | nilp:NF .nilp
 | nils:NF .nils
 | raw {v}:NF (.raw v)
 | vptr {segs} (h:∀ c,c < lenS segs → NF (cellAt segs c)):NF (.vptr true segs)
 | vints {k sz len f}:NF (.vints true k sz len f)
 | vrows {sz len row} (h:∀ j,j < len → ∀ c,c < sz → NF (cellAt (row j) c)):NF (.vrows true sz len row)
 | clo {f caps} (h:∀ i,i < caps.length → NF (caps.getD i .unk)):NF (.clo f caps)
 | bnd {f segs} (h:∀ c,c < lenS segs → NF (cellAt segs c)):NF (.bnd f segs)
def NFA:AV → Prop
 | .any=>True
 | .sc s=>NF s
 | .agg s=>∀ c,c < lenS s → NF (cellAt s c)
 | .tup l=>∀ (i:Nat) (a:AV),l[i]?=some a → match a with | .sc s=>NF s | .agg s=>∀ c,c < lenS s → NF (cellAt s c) | _=>True
theorem RS.onlyTrue {σ:Sg} {pr:Pr} {w:World} {s:SV} {v:Value} (h:RS σ pr w s v):NF s → RS σ (fun t b=>t=true ∧ pr t b) w s v:=by
 induction h with
 | unk h=>exact fun _=>.unk h
 | int=>exact fun _=>.int
 | bit=>exact fun _=>.bit
 | bool=>exact fun _=>.bool
 | str=>exact fun _=>.str
 | ptr h hi hc hroom=>exact fun _=>.ptr h hi hc hroom
 | vptr vs hp h hr ih =>
  intro hn
  cases hn with
  | vptr h'=>exact .vptr vs ⟨rfl,hp⟩ h (fun c hc=>ih c hc (h' c hc))
 | nilp=>exact fun _=>.nilp
 | slice0=>exact fun _=>.slice0
 | slice h hf hl hroom=>exact fun _=>.slice h hf hl hroom
 | vints0=>exact fun _=>.vints0
 | vints hp h hl =>
  intro hn
  cases hn with
  | vints=>exact .vints ⟨rfl,hp⟩ h hl
 | vrows0=>exact fun _=>.vrows0
 | vrows vs hp h hr hs hl ih =>
  intro hn
  cases hn with
  | vrows h'=>exact .vrows vs ⟨rfl,hp⟩ h (fun j hj c hc=>ih j hj c hc (h' j hj c hc)) hs hl
 | nils=>exact fun _=>.nils
 | clo vs hl h ih =>
  intro hn
  cases hn with
  | clo h'=>exact .clo vs hl (fun i hi=>ih i hi (h' i hi))
 | bnd cs hl h ih =>
  intro hn
  cases hn with
  | bnd h'=>exact .bnd cs hl (fun c hc=>ih c hc (h' c hc))
 | raw h=>exact fun _=>.raw h
theorem RV.onlyTrue {σ:Sg} {pr:Pr} {w:World} {a:AV} {v:Value} (h:RV σ pr w a v) (hn:NFA a):RV σ (fun t b=>t=true ∧ pr t b) w a v:=by
 have agg:∀ (s:List Seg) (v:Value),(∃ cs:Array Value,v=.agg cs ∧ RG σ pr w s cs.toList) → (∀ c,c < lenS s → NF (cellAt s c)) → ∃ cs:Array Value,v=.agg cs ∧ RG σ (fun t b=>t=true ∧ pr t b) w s cs.toList:=by
  rintro s v ⟨cs,rfl,hg⟩ hn
  exact ⟨cs,rfl,hg.1,fun c x hx=>(hg.2 c x hx).onlyTrue (hn c (by rw [← hg.1]; exact (List.getElem?_eq_some_iff.1 hx).1))⟩
 cases a with
 | any=>trivial
 | sc s=>exact RS.onlyTrue h hn
 | agg s=>exact agg s v h hn
 | tup l =>
  obtain ⟨vs,rfl,hl,h⟩:=h
  refine ⟨vs,rfl,hl,fun i a x h1 h2=>?_⟩
  have hw:=h i a x h1 h2
  have hna:=hn i a h1
  cases a with
  | any=>exact hw.elim
  | tup l=>exact hw.elim
  | sc s=>exact RS.onlyTrue hw hna
  | agg s=>exact agg s x hw hna
def freeze (hp:Heap):AV → AV
 | .tup l=>.tup (l.map (snapA true hp))
 | v=>snapA true hp v
theorem freeze_spec {σ:Sg} {pr:Pr} {hp:Heap} {w:World} (H:HI w0 own0 σ pr hp w) {a:AV} {v:Value} (h:RV σ pr w a v):RV noσ (prCall true σ pr hp) w (freeze hp a) v:=by
 cases a with
 | any=>trivial
 | sc s=>exact snapA_spec true H (a:=.sc s) h
 | agg s=>exact snapA_spec true H (a:=.agg s) h
 | tup l =>
  obtain ⟨vs,rfl,hl,h⟩:=h
  refine ⟨vs,rfl,by simp [hl],fun i a x h1 h2=>?_⟩
  simp only [List.getElem?_map,Option.map_eq_some_iff] at h1
  obtain ⟨a',h1',rfl⟩:=h1
  have hw:=h i a' x h1' h2
  cases a' with
  | any=>exact hw.elim
  | tup l=>exact hw.elim
  | sc s=>exact snapA_spec true H (a:=.sc s) hw
  | agg s=>exact snapA_spec true H (a:=.agg s) hw
theorem pure_of_am (EO:EnvOK P E) (PO:ProgOK P) (hm:P.follows .mixedOrders=true) {N:Nat} {f:FuncId} {fn:Func} (hfn:P.funcs[f]?=some fn) (hcall:∀ args w,(callFunc f args).run P w=.ok (.enter f args) w)
  (hok:∀ c,fn.body=some c → codeOK P E.isW c=true) (hacc:∀ w0 own0 c,fn.body=some c → accOK P E w0 own0 c) {args:List AV} {hp':Heap} {v r:AV} (h:amFunc E N fn args []=some (v,hp')) (hn:∀ l,v=.tup l → l.all noTup=true) (hr:freeze hp' v=r) (hnf:NFA r):Pure P f args r:=by
 intro pr w vs ha hlt
 refine .inr ⟨hcall _ _,?_⟩
 have H:HI w ⟨fun _=>False,pr⟩ noσ pr [] w :=
  ⟨fun _ _=>rfl,fun id b h=>by simp at h,fun j j' b b' g x x' h=>by simp at h,fun j b h=>by simp at h,Ev.refl _ _,hlt,fun t b h=>.inl h⟩
 refine (func_sound EO PO hm hfn hok (hacc _ _) h hn H ha).mono fun e w' hq=>?_
 obtain ⟨val,σ',pr',he,H',hv,L,_⟩:=hq
 refine ⟨val,he,⟨H'.ev.os,H'.ev.tape,H'.ev.output,H'.ev.size,fun k hk=>H'.ev.block k hk (fun h=>h)⟩,?_⟩
 rw [← hr] at hnf ⊢
 have h1:=(freeze_spec H' hv).onlyTrue hnf
 refine RV.mono ⟨fun _ _ h=>h,fun t b h=>?_,fun _ _ _=>rfl,fun b cells T fz h=>⟨cells,fz,h,rfl⟩,Nat.le_refl _⟩ h1
 obtain ⟨rfl,h⟩:=h
 refine ⟨rfl,?_⟩
 rcases h with h | ⟨_,id,blk,x,h1,h2⟩
 ·have hb:=H'.prlt true b h
  rcases H'.prnew true b h with h | ⟨_,h | h⟩
  ·exact .inl h
  ·exact h.elim
  ·exact .inr ⟨h,hb⟩
 ·rcases H'.blk id blk h1 with ⟨h3,_⟩ | ⟨g,h3,hB⟩
  ·rw [h3] at h2; cases h2
  ·rw [h3] at h2
   simp only [Option.some.injEq,Prod.mk.injEq] at h2
   obtain ⟨cells,T,fz,q1,_⟩:=hB.cells
   rw [← h2.1]
   rcases hB.own with h | h
   ·exact h.elim
   ·exact .inr ⟨h,lt_of_heap q1⟩
end
end Go.AM
namespace Go.AM
open Go
def contig (P:Program):Nat → List Field → Nat → Bool
 | off,[],m=>off == m
 | off,f :: fs,m=>(f.offset == off) && contig P (off+P.cellsOf f.type) fs m
def intTy (P:Program):Nat → TypeId → Bool
 | 0,_=>false
 | d+1,t=>match P.underlying t with
  | some (.int _)=>P.cellsOf t == 1
  | some (.array n e)=>intTy P d e && (P.cellsOf t == n * P.cellsOf e)
  | some (.struct fs) => (fs.toList.all fun f => f.name != "_" && intTy P d f.type) && (contig P 0 fs.toList (P.cellsOf t) && !P.stoodInHeld t)
  | _=>false
section
variable {P:Program}
def Nums (xs ys:Array Value) (off m:Nat):Prop:=∀ c,c < m → ∃ k a b,xs[off+c]?=some (.int k a) ∧ ys[off+c]?=some (.int k b)
theorem Nums.sub {xs ys:Array Value} {off m o n:Nat} (h:Nums xs ys off m) (hs:o+n ≤ m):Nums xs ys (off+o) n:=fun c hc=>by
 have:=h (o+c) (by omega)
 rwa [← Nat.add_assoc] at this
def EqI (P:Program) (dd:Nat) (t:TypeId):Prop :=
 ∀ (w:World) (xs ys:Array Value) (off:Nat),Nums xs ys off (P.cellsOf t) → off+P.cellsOf t ≤ xs.size → off+P.cellsOf t ≤ ys.size →
  ∃ (a b:Value) (r:Bool),(part t xs off).run P w=.ok a w ∧ (part t ys off).run P w=.ok b w ∧ (Op.equalIn dd t a b).run P w=.ok r w ∧ (r=true ↔ ∀ c,c < P.cellsOf t → xs[off+c]?=ys[off+c]?)
theorem eqItems_ints {dd:Nat} {e:TypeId} (IH:EqI P dd e) (w:World) (xs ys:Array Value) (off:Nat):∀ (is:List Nat),
  (∀ i ∈ is,Nums xs ys (i * P.cellsOf e) (P.cellsOf e) ∧ i * P.cellsOf e+P.cellsOf e ≤ xs.size ∧ i * P.cellsOf e+P.cellsOf e ≤ ys.size) →
  ∃ r:Bool,(Op.eqItems dd e (P.cellsOf e) xs ys is).run P w=.ok r w ∧ (r=true ↔ ∀ i ∈ is,∀ c,c < P.cellsOf e → xs[i * P.cellsOf e+c]?=ys[i * P.cellsOf e+c]?)
 | [],_=>⟨true,by simp [Op.eqItems],by simp⟩
 | i :: is,h=>by
  obtain ⟨h1,h2,h3⟩:=h i (by simp)
  obtain ⟨a,b,r,p1,p2,p3,hiff⟩:=IH w xs ys _ h1 h2 h3
  obtain ⟨r',hr',hiff'⟩:=eqItems_ints IH w xs ys off is (fun j hj=>h j (by simp [hj]))
  simp only [Op.eqItems,Sem.run_bind,p1,p2,p3,Result.andThen_ok]
  cases r
  ·refine ⟨false,by simp,?_⟩
   simp only [Bool.false_eq_true,false_iff]
   intro hall
   have:=hiff.2 (fun c hc=>hall i (by simp) c hc)
   simp at this
  ·refine ⟨r',by simpa using hr',?_⟩
   rw [hiff']
   constructor
   ·intro h j hj
    rcases List.mem_cons.1 hj with rfl | hj
    ·exact hiff.1 rfl
    ·exact h j hj
   ·exact fun h j hj=>h j (by simp [hj])
theorem eqFields_ints {dd:Nat} (w:World) (xs ys:Array Value) (m:Nat) (h1:Nums xs ys 0 m) (h2:m ≤ xs.size) (h3:m ≤ ys.size):∀ (fs:List Field) (off:Nat),
  (∀ f ∈ fs, f.name ≠ "_" ∧ EqI P dd f.type) → contig P off fs m = true →
  ∃ r:Bool,(Op.eqFields dd xs ys fs).run P w=.ok r w ∧ (r=true ↔ ∀ c,off ≤ c → c < m → xs[c]?=ys[c]?)
 | [],off,_,hc=>by
  simp only [contig,beq_iff_eq] at hc
  exact ⟨true,by simp [Op.eqFields],by simp; omega⟩
 | f :: fs,off,hall,hc=>by
  simp only [contig,Bool.and_eq_true,beq_iff_eq] at hc
  obtain ⟨ho,hc⟩:=hc
  have hle:∀ (l:List Field) (o:Nat),contig P o l m=true → o ≤ m:=by
   intro l
   induction l with
   | nil=>intro o h; simp [contig] at h; omega
   | cons g l ih =>
    intro o h
    simp only [contig,Bool.and_eq_true,beq_iff_eq] at h
    have:=ih _ h.2
    omega
  have hm:=hle _ _ hc
  obtain ⟨hn,hp⟩:=hall f (by simp)
  have hN:Nums xs ys f.offset (P.cellsOf f.type):=by
   have:=h1.sub (o:=off) (n:=P.cellsOf f.type) (by omega)
   rwa [Nat.zero_add,← ho] at this
  obtain ⟨a,b,r,p1,p2,p3,hiff⟩:=hp w xs ys f.offset hN (by omega) (by omega)
  obtain ⟨r',hr',hiff'⟩:=eqFields_ints w xs ys m h1 h2 h3 fs _ (fun g hg=>hall g (by simp [hg])) hc
  simp only [Op.eqFields,hn,ne_eq,not_false_eq_true,if_true,Sem.run_bind,p1,p2,p3,Result.andThen_ok]
  cases r
  ·refine ⟨false,by simp,?_⟩
   simp only [Bool.false_eq_true,false_iff]
   intro hall
   have:=hiff.2 (fun c hc=>hall (f.offset+c) (by omega) (by omega))
   simp at this
  ·refine ⟨r',by simpa using hr',?_⟩
   rw [hiff']
   constructor
   ·intro h c c1 c2
    by_cases e:c < off+P.cellsOf f.type
    ·have:=hiff.1 rfl (c - off) (by omega)
     rwa [show f.offset+(c - off)=c from by omega] at this
    ·exact h c (by omega) c2
   ·exact fun h c c1 c2=>h c (by omega) c2
theorem extract_get {xs:Array Value} {off m c:Nat} (hs:off+m ≤ xs.size) (hc:c < m):(xs.extract off (off+m))[c]?=xs[off+c]?:=by
 rw [Array.getElem?_extract]
 simp
 omega
theorem equalIn_ints (d:Nat):∀ (m:Nat) (t:TypeId),intTy P m t=true → EqI P (d+m) t
 | 0,_,h=>by simp [intTy] at h
 | m+1,t,h=>by
  intro w xs ys off hN hx hy
  unfold intTy at h
  cases hu:P.underlying t with
  | none=>simp [hu] at h
  | some kd =>
   obtain ⟨i,hi⟩:=info_of_underlying hu
   cases kd
   case int q =>
    simp only [hu,beq_iff_eq] at h
    obtain ⟨k,a,b,e1,e2⟩:=hN 0 (by omega)
    rw [Nat.add_zero] at e1 e2
    refine ⟨_,_,a == b,?_,?_,run_equalIn_int w (d+m) t k q a b hu,?_⟩
    ·simp [part,isAgg,run_underlying hu,e1]
    ·simp [part,isAgg,run_underlying hu,e2]
    ·rw [h,beq_iff_eq]
     constructor
     ·rintro rfl c hc
      obtain rfl:c=0:=by omega
      rw [Nat.add_zero,e1,e2]
     ·intro hall
      have:=hall 0 (by omega)
      rw [Nat.add_zero,e1,e2] at this
      simpa using this
   case array n e =>
    simp only [hu,Bool.and_eq_true,beq_iff_eq] at h
    obtain ⟨he,hs⟩:=h
    have hpe:∃ i,P.info? e=some i:=by
     cases m with
     | zero=>simp [intTy] at he
     | succ m' =>
      unfold intTy at he
      cases hue:P.underlying e with
      | none=>simp [hue] at he
      | some _=>exact info_of_underlying hue
    obtain ⟨i',hi'⟩:=hpe
    have key:∀ j,j < n → j * P.cellsOf e+P.cellsOf e ≤ P.cellsOf t:=fun j hj=>by
     rw [hs,← Nat.succ_mul]
     exact Nat.mul_le_mul_right _ hj
    obtain ⟨r,hr,hiff⟩:=eqItems_ints (equalIn_ints d m e he) w (xs.extract off (off+P.cellsOf t)) (ys.extract off (off+P.cellsOf t)) off (List.range n) (fun j hj=>by
     have hk:=key j (by simpa using hj)
     refine ⟨fun c hc=>?_,by simp; omega,by simp; omega⟩
     obtain ⟨k,a,b,e1,e2⟩:=hN (j * P.cellsOf e+c) (by omega)
     exact ⟨k,a,b,by rw [extract_get hx (by omega)]; exact e1,by rw [extract_get hy (by omega)]; exact e2⟩)
    refine ⟨.agg (xs.extract off (off+P.cellsOf t)),.agg (ys.extract off (off+P.cellsOf t)),r,?_,?_,?_,?_⟩
    ·simp [part,isAgg,run_underlying hu,run_sizeOf w hi]
    ·simp [part,isAgg,run_underlying hu,run_sizeOf w hi]
    ·rw [show d+(m+1)=(d+m)+1 from rfl,run_equalIn_array w (d+m) _ _ hu hi']; exact hr
    ·rw [hiff]
     constructor
     ·intro h c hc
      have hpos:0 < P.cellsOf e:=by
       rcases Nat.eq_zero_or_pos (P.cellsOf e) with h0 | h0
       ·rw [hs,h0] at hc; simp at hc
       ·exact h0
      have hj:c / P.cellsOf e < n:=by
       rw [Nat.div_lt_iff_lt_mul hpos,← hs]; exact hc
      have hd:c / P.cellsOf e * P.cellsOf e+c % P.cellsOf e=c:=by rw [Nat.mul_comm]; exact Nat.div_add_mod _ _
      have:=h (c / P.cellsOf e) (by simpa using hj) (c % P.cellsOf e) (Nat.mod_lt _ hpos)
      rw [hd] at this
      rwa [extract_get hx hc,extract_get hy hc] at this
     ·intro h j hj c hc
      have hk:=key j (by simpa using hj)
      rw [extract_get hx (by omega),extract_get hy (by omega)]
      exact h _ (by omega)
   case struct fs =>
    simp only [hu,Bool.and_eq_true,Bool.not_eq_true'] at h
    obtain ⟨hf,hc,hst⟩:=h
    have hfs:P.fieldsOf t=fs:=by simp [Program.fieldsOf,hu]
    have hN':Nums (xs.extract off (off+P.cellsOf t)) (ys.extract off (off+P.cellsOf t)) 0 (P.cellsOf t):=fun c hc=>by
     obtain ⟨k,a,b,e1,e2⟩:=hN c hc
     rw [Nat.zero_add]
     exact ⟨k,a,b,by rw [extract_get hx hc]; exact e1,by rw [extract_get hy hc]; exact e2⟩
    obtain ⟨r,hr,hiff⟩:=eqFields_ints (dd:=d+m) w _ _ (P.cellsOf t) hN' (by simp; omega) (by simp; omega) fs.toList 0 (fun f hfm=>by
     have:=List.all_eq_true.1 hf f hfm
     simp only [Bool.and_eq_true,bne_iff_ne,ne_eq] at this
     exact ⟨this.1,equalIn_ints d m f.type this.2⟩) hc
    refine ⟨.agg (xs.extract off (off+P.cellsOf t)),.agg (ys.extract off (off+P.cellsOf t)),r,?_,?_,?_,?_⟩
    ·simp [part,isAgg,run_underlying hu,run_sizeOf w hi]
    ·simp [part,isAgg,run_underlying hu,run_sizeOf w hi]
    ·rw [show d+(m+1)=(d+m)+1 from rfl,run_equalIn_struct w (d+m) t _ _ (by rw [hfs]; exact hu) hst,hfs]; exact hr
    ·rw [hiff]
     constructor
     ·intro h c hc
      have:=h c (by omega) hc
      rwa [extract_get hx hc,extract_get hy hc] at this
     ·intro h c _ hc
      rw [extract_get hx hc,extract_get hy hc]
      exact h c hc
   all_goals (simp [hu] at h; done)
theorem equal_ints (w:World) {m:Nat} (hm:m ≤ 10000) {t:TypeId} (ht:intTy P m t=true) (hagg:(match P.underlying t with | some (.array _ _) | some (.struct _)=>true | _=>false)=true) {cs cs':Array Value}
  (h1:cs.size=P.cellsOf t) (h2:cs'.size=P.cellsOf t) (hN:Nums cs cs' 0 (P.cellsOf t)) :
  ∃ r:Bool,(Op.equal t (.agg cs) (.agg cs')).run P w=.ok r w ∧ (r=true ↔ ∀ c,c < P.cellsOf t → cs[c]?=cs'[c]?):=by
 obtain ⟨a,b,r,p1,p2,p3,hiff⟩:=equalIn_ints (P:=P) (10000 - m) m t ht w cs cs' 0 hN (by omega) (by omega)
 cases hu:P.underlying t with
 | none=>simp [hu] at hagg
 | some kd =>
  obtain ⟨i,hi⟩:=info_of_underlying hu
  have pa:∀ zs:Array Value,zs.size=P.cellsOf t → (part t zs 0).run P w=.ok (.agg zs) w:=by
   intro zs hz
   have he:zs.extract 0 (P.cellsOf t)=zs:=by rw [← hz]; simp
   cases kd <;> simp [hu] at hagg <;> simp [part,isAgg,run_underlying hu,run_sizeOf w hi,he]
  rw [pa _ h1] at p1
  rw [pa _ h2] at p2
  simp only [Result.ok.injEq,and_true] at p1 p2
  subst p1 p2
  refine ⟨r,?_,by simpa using hiff⟩
  unfold Op.equal Op.maxDepth
  rw [show (10000:Nat)=10000 - m+m by omega]
  exact p3
end
end Go.AM
namespace Go.AM
open Go
def tdEq:TD → TD → Bool
 | .int k,.int k'=>kEq k k'
 | .bool,.bool=>true
 | .str,.str=>true
 | .ptr,.ptr=>true
 | .slice e,.slice e'=>Nat.beq e e'
 | .arr n e,.arr n' e'=>Nat.beq n n' && Nat.beq e e'
 | .struct l,.struct l'=>decide (l=l')
 | .other,.other=>true
 | _,_=>false
theorem tdEq_t {a b:TD} (h:tdEq a b=true):a=b:=by
 cases a <;> cases b <;> simp_all [tdEq,kEq_t]
def oneOK:SV → Value → Bool
 | .bool b,.bool b'=>b == b'
 | .str s,.string s'=>s.size == 0 && s'.size == 0
 | .nilp,.pointer none=>true
 | .nils,.slice none 0 0=>true
 | .raw .nilIface,.nilIface=>true
 | .unk,v=>v.oneCell'
 | _,_=>false
def intsOK (k:IntKind) (f:Nat → Int):Nat → List Value → Bool
 | _,[]=>true
 | j,.int k' a :: r=>kEq k k' && (decide (f j=a) && intsOK k f (j+1) r)
 | _,_=>false
def zeroOK:List Seg → List Value → Bool
 | [],[]=>true
 | .ints k n f :: r,vs=>Nat.ble n vs.length && (intsOK k f 0 (vs.take n) && zeroOK r (vs.drop n))
 | .one s :: r,v :: vs=>oneOK s v && zeroOK r vs
 | _,_=>false
theorem oneOK_spec {s:SV} {v:Value} (h:oneOK s v=true) (σ:Sg) (pr:Pr) (w:World):RS σ pr w s v:=by
 unfold oneOK at h
 split at h
 ·simp only [beq_iff_eq] at h; subst h; exact .bool
 ·rename_i s s'
  simp only [Bool.and_eq_true,beq_iff_eq] at h
  have hs:∀ x:ByteArray,x.size=0 → x=⟨#[]⟩:=by
   rintro ⟨x⟩ h
   have:x.size=0:=h
   rw [Array.size_eq_zero_iff.1 this]
  rw [hs s h.1,hs s' h.2]; exact .str
 ·exact .nilp
 ·exact .nils
 ·exact .raw rfl
 ·exact .unk h
 ·simp at h
theorem intsOK_spec {k:IntKind} {f:Nat → Int}:∀ (l:List Value) (j:Nat),intsOK k f j l=true → ∀ (c:Nat) (v:Value),l[c]?=some v → v=.int k (f (j+c))
 | [],_,_,c,v,h=>by simp at h
 | x :: r,j,h,c,v,hv=>by
  cases x <;> simp only [intsOK,Bool.and_eq_true,Bool.false_eq_true,dec_t,kEq_t] at h
  obtain ⟨rfl,h2,h3⟩:=h
  cases c with
  | zero=>simp only [List.getElem?_cons_zero,Option.some.injEq] at hv; subst hv; rw [Nat.add_zero,h2]
  | succ c =>
   have:=intsOK_spec r (j+1) h3 c v (by simpa using hv)
   rw [this,Nat.add_assoc,Nat.add_comm 1 c]
theorem zeroOK_spec (σ:Sg) (pr:Pr) (w:World):∀ (s:List Seg) (vs:List Value),zeroOK s vs=true → RG σ pr w s vs
 | [],[],_=>⟨rfl,fun c v h=>by simp at h⟩
 | [],_ :: _,h=>by simp [zeroOK] at h
 | .ints k n f :: r,vs,h=>by
  simp only [zeroOK,Bool.and_eq_true,ble_t] at h
  obtain ⟨h1,h2,h3⟩:=h
  obtain ⟨q1,q2⟩:=zeroOK_spec σ pr w r _ h3
  simp only [List.length_drop] at q1
  refine ⟨by rw [lenS_ints]; omega,fun c v hv=>?_⟩
  by_cases hc:c < n
  ·rw [cellAt_ints_lt hc]
   have:=intsOK_spec _ 0 h2 c v (by rw [List.getElem?_take,if_pos hc]; exact hv)
   rw [this,Nat.zero_add]; exact .int
  ·have hlt:c < vs.length:=(List.getElem?_eq_some_iff.1 hv).1
   rw [cellAt_ints_ge (by omega) (by omega)]
   exact q2 _ _ (by rw [List.getElem?_drop,show n+(c - n)=c by omega]; exact hv)
 | .one s :: r,v :: vs,h=>by
  simp only [zeroOK,Bool.and_eq_true] at h
  obtain ⟨q1,q2⟩:=zeroOK_spec σ pr w r _ h.2
  refine ⟨by rw [lenS_one]; simp [q1,Nat.add_comm],fun c x hx=>?_⟩
  cases c with
  | zero=>simp only [List.getElem?_cons_zero,Option.some.injEq] at hx; subst hx; rw [cellAt_one_zero]; exact oneOK_spec h.1 σ pr w
  | succ c=>rw [cellAt_one_succ]; exact q2 c x (by simpa using hx)
 | .one s :: r,[],h=>by simp [zeroOK] at h
theorem eqSegs_spec:∀ (s s':List Seg) (r:Bool),eqSegs s s'=some r → lenS s=lenS s' ∧
  (∀ c,c < lenS s → ∃ k a b,cellAt s c=.int k a ∧ cellAt s' c=.int k b) ∧ (r=true ↔ ∀ c,c < lenS s → cellAt s c=cellAt s' c)
 | [],[],r,h=>by
  simp only [eqSegs,Option.some.injEq] at h; subst h
  exact ⟨rfl,fun c hc=>by simp [lenS_nil] at hc,by simp [lenS_nil]⟩
 | .ints k n f :: s,.ints k' m g :: s',r,h=>by
  simp only [eqSegs] at h
  split at h
  case h_2=>simp at h
  rename_i hk
  simp only [Bool.and_eq_true,kEq_t,beq_t] at hk
  obtain ⟨rfl,rfl⟩:=hk
  split at h
  case h_2=>simp at h
  rename_i b hb
  simp only [Option.some.injEq] at h; subst h
  obtain ⟨q1,q2,q3⟩:=eqSegs_spec s s' b hb
  rw [lenS_ints,lenS_ints,← q1]
  refine ⟨rfl,fun c hc=>?_,?_⟩
  ·by_cases h:c < n
   ·exact ⟨k,_,_,cellAt_ints_lt h,cellAt_ints_lt h⟩
   ·rw [cellAt_ints_ge (by omega) (by omega),cellAt_ints_ge (by omega) (by omega)]
    exact q2 _ (by omega)
  ·rw [Bool.and_eq_true,q3]
   unfold eqN
   rw [List.all_eq_true]
   constructor
   ·rintro ⟨h1,h2⟩ c hc
    by_cases h:c < n
    ·rw [cellAt_ints_lt h,cellAt_ints_lt h]
     have:=h1 c (by simpa using h)
     rw [beq_iff_eq.1 this]
    ·rw [cellAt_ints_ge (by omega) (by omega),cellAt_ints_ge (by omega) (by omega)]
     exact h2 _ (by omega)
   ·intro h
    refine ⟨fun c hc=>?_,fun c hc=>?_⟩
    ·have hc:c < n:=by simpa using hc
     have:=h c (by omega)
     rw [cellAt_ints_lt hc,cellAt_ints_lt hc] at this
     simp only [SV.int.injEq,true_and] at this
     simp [this]
    ·have:=h (n+c) (by omega)
     rw [cellAt_ints_ge (by omega) (by omega),cellAt_ints_ge (by omega) (by omega),Nat.add_sub_cancel_left] at this
     exact this
 | [],.ints .. :: _,_,h=>by simp [eqSegs] at h
 | [],.one _ :: _,_,h=>by simp [eqSegs] at h
 | .ints .. :: _,[],_,h=>by simp [eqSegs] at h
 | .ints .. :: _,.one _ :: _,_,h=>by simp [eqSegs] at h
 | .one _ :: _,_,_,h=>by simp [eqSegs] at h
def fieldsOK (P:Program) (t:Nat):Bool :=
 match P.underlying t with
 | some (.struct fs)=>fs.toList.all fun f=>(P.info? f.type).isSome
 | _=>true
def tyChk (P:Program) (t:Nat) (T:TI):Bool :=
 (match P.info? t with
  | some i=>Nat.beq i.size T.size && (Nat.beq i.bytes T.bytes && (match i.zero with | some z=>zeroOK T.zero z.cells.toList | none=>false))
  | none=>false) &&
 ((match P.underlying t with
  | some d=>tdEq T.d (tdOf d)
  | none=>false) &&
 ((T.d.agg || Nat.beq T.size 1) && ((!T.eq || (T.d.agg && (intTy P 12 t && !P.eqGuardType P.depth t))) && fieldsOK P t)))
theorem tyChk_spec {P:Program} {t:Nat} {T:TI} (h:tyChk P t T=true):TyOK P t T:=by
 simp only [tyChk,Bool.and_eq_true,Bool.or_eq_true,Bool.not_eq_true',beq_t] at h
 obtain ⟨h1,h2,h3,h4,h5⟩:=h
 split at h1
 case h_2=>simp at h1
 rename_i i hi
 simp only [Bool.and_eq_true,beq_t] at h1
 obtain ⟨a1,a2,a3⟩:=h1
 split at a3
 case h_2=>simp at a3
 rename_i z hz
 split at h2
 case h_2=>simp at h2
 rename_i d hd
 have ed:=tdEq_t h2
 refine ⟨⟨i,z,hi,a1,a2,hz,fun σ pr w=>zeroOK_spec σ pr w _ _ a3⟩,⟨d,hd,ed⟩,fun hf=>?_,?_,?_⟩
 ·rcases h3 with h | h
  ·rw [h] at hf; cases hf
  ·exact h
 ·intro fields hu f hf
  simp only [fieldsOK,hu,List.all_eq_true] at h5
  have:=h5 f hf
  exact Option.isSome_iff_exists.1 this
 ·intro he s s' cs cs' w r hg hl hs
  obtain ⟨σ,pr,g1,g2⟩:=hg
  rcases h4 with h | ⟨h4,h6,h7⟩
  ·rw [he] at h; cases h
  obtain ⟨q1,q2,q3⟩:=eqSegs_spec s s' r hs
  have hsz:P.cellsOf t=T.size:=by simp [Program.cellsOf,hi,a1]
  have l1:cs.size=P.cellsOf t:=by have:=g1.1; simp at this; omega
  have l2:cs'.size=P.cellsOf t:=by have:=g2.1; simp at this; omega
  have cell:∀ c,c < P.cellsOf t → ∃ k a b,cellAt s c=.int k a ∧ cellAt s' c=.int k b ∧ cs[c]?=some (.int k a) ∧ cs'[c]?=some (.int k b):=by
   intro c hc
   obtain ⟨k,a,b,e1,e2⟩:=q2 c (by omega)
   have x1:=g1.2 c _ (by simp [show c < cs.size by omega]; rfl)
   have x2:=g2.2 c _ (by simp [show c < cs'.size by omega]; rfl)
   rw [e1] at x1
   rw [e2] at x2
   refine ⟨k,a,b,e1,e2,?_,?_⟩
   ·rw [Array.getElem?_eq_getElem (by omega)]
    generalize cs[c]=y at x1
    cases x1; rfl
   ·rw [Array.getElem?_eq_getElem (by omega)]
    generalize cs'[c]=y at x2
    cases x2; rfl
  have hN:Nums cs cs' 0 (P.cellsOf t):=fun c hc=>by
   obtain ⟨k,a,b,_,_,e3,e4⟩:=cell c hc
   rw [Nat.zero_add]
   exact ⟨k,a,b,e3,e4⟩
  have hagg:(match P.underlying t with | some (.array _ _) | some (.struct _)=>true | _=>false)=true:=by
   rw [ed,agg_tdOf] at h4
   rw [hd]
   cases d <;> simp_all
  obtain ⟨r',hr',hiff⟩:=equal_ints w (by omega) h6 hagg l1 l2 hN
  refine ⟨fun op x y=>run_eqGuard_agg w op t x y cs cs' h7,?_⟩
  rw [hr']
  have:r'=r:=by
   rw [Bool.eq_iff_iff,hiff,q3]
   constructor
   ·intro h c hc
    obtain ⟨k,a,b,e1,e2,e3,e4⟩:=cell c (by omega)
    have:=h c (by omega)
    rw [e3,e4] at this
    rw [e1,e2]
    simpa using this
   ·intro h c hc
    obtain ⟨k,a,b,e1,e2,e3,e4⟩:=cell c (by omega)
    have:=h c (by omega)
    rw [e1,e2] at this
    rw [e3,e4]
    simpa using this
  rw [this]
inductive TT where
 | nil
 | leaf (i:Nat) (T:TI)
 | node (k:Nat) (l r:TT)
def TT.get:TT → Nat → Option TI
 | .nil,_=>none
 | .leaf i T,t=>match Nat.beq i t with | true=>some T | false=>none
 | .node k l r,t=>match Nat.ble k t with | true=>r.get t | false=>l.get t
def TT.chk (P:Program):TT → Bool
 | .nil=>true
 | .leaf i T=>tyChk P i T
 | .node _ l r=>l.chk P && r.chk P
theorem TT.get_spec {P:Program}:∀ (tt:TT),tt.chk P=true → ∀ t T,tt.get t=some T → TyOK P t T
 | .nil,_,t,T,h=>by simp [TT.get] at h
 | .leaf i T',hc,t,T,h=>by
  simp only [TT.get] at h
  split at h
  ·rename_i hb
   simp only [Option.some.injEq] at h; subst h
   rw [← beq_t.1 hb]
   exact tyChk_spec hc
  ·simp at h
 | .node k l r,hc,t,T,h=>by
  simp only [TT.chk,Bool.and_eq_true] at hc
  simp only [TT.get] at h
  split at h
  ·exact TT.get_spec r hc.2 t T h
  ·exact TT.get_spec l hc.1 t T h
end Go.AM
