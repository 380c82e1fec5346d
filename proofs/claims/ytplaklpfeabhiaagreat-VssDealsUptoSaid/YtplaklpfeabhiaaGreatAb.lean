/-
  Texts of the claim: Am15 Am16 Am17 Am18 AmMap Am19 Am20 Am21.
-/
import Derived.Test.YtplaklpfeabhiaaGreatAa
import Derived.Laws.IdiomStrings
import Derived.Lib.AppendZerosOnto
import Derived.MapKept
namespace Go.AM
open Go
section
variable {P:Program} {E:Env} {σ:Sg} {pr:Pr} {w w0:World} {own0:Own} {hp:Heap} {ρ:Operand→AV} {γ:Operand→Value}
def RL (σ:Sg) (pr:Pr) (w:World) (esz n:Nat) (row:Nat→List Seg) (cs:List Value):Prop :=
 cs.length=n*esz∧(∀ j,j<n→∀ c,c<esz→∃ x,cs[j*esz+c]?=some x∧RS σ pr w (cellAt (row j) c) x)∧∀ j,j<n→esz≤lenS (row j)
theorem divmod {k n e:Nat} (h:k<n*e):k / e<n∧k % e<e∧k=k / e*e+k % e:=by
 have he:0<e:=by
  rcases Nat.eq_zero_or_pos e with h0 | h0
  ·subst h0;omega
  ·exact h0
 exact ⟨Nat.div_lt_of_lt_mul (by rw [Nat.mul_comm];exact h),Nat.mod_lt _ he,by have:=Nat.div_add_mod k e;rw [Nat.mul_comm] at this;omega⟩
theorem zcd {g off esz n:Nat} {row:Nat→List Seg} (h:∀ j,j<n→∀ c,c<esz→∃ x,w.cell? ⟨g,off+j*esz+c,none⟩=some x∧RS σ pr w (cellAt (row j) c) x) (hl:∀ j,j<n→esz≤lenS (row j)) :
  ∃ cs,RL σ pr w esz n row cs∧∀ k u,cs[k]?=some u→w.cell? ⟨g,off+k,none⟩=some u:=by
 obtain ⟨cs,l1,l2⟩:=zdN (w:=w) (b:=g) (off:=off) (m:=n*esz) (fun k hk=>by
  obtain ⟨d1,d2,d3⟩:=divmod hk
  obtain ⟨x,e1,_⟩:=h _ d1 _ d2
  refine ⟨x,?_⟩
  rw [Nat.add_assoc,← d3] at e1
  exact e1)
 refine ⟨cs,⟨l1,fun j hj c hc=>?_,hl⟩,l2⟩
 have hle:=zaz (s:=esz) hj
 have hlt:j*esz+c<cs.length:=by omega
 obtain ⟨x,e1,e2⟩:=h j hj c hc
 have:=l2 _ _ (List.getElem?_eq_getElem hlt)
 rw [← Nat.add_assoc,e1] at this
 simp only [Option.some.injEq] at this
 exact ⟨x,by rw [List.getElem?_eq_getElem hlt,this],e2⟩
theorem zkl (esz:Nat) (a b:Cont):(Cont.join esz a b).isMap=false:=by
 cases a <;> cases b <;> simp only [Cont.join] <;> first | rfl | (split <;> rfl)
theorem zeS (H:HI w0 own0 σ pr hp w) {s:SV} {C:Cont} {esz:Nat} (hC:contOf hp s=some C) (hok:C.ok esz=true) {v:Value} (hv:RS σ pr w s v) :
  ∃ (a:Option Addr) (cap:Nat) (cs:List Value),v=.slice a C.len cap∧RL σ pr w esz C.len C.row cs∧(C.len=0 ∨ ∃ g off,a=some ⟨g,off,none⟩∧∀ k u,cs[k]?=some u→w.cell? ⟨g,off+k,none⟩=some u):=by
 have empty:∀ (row:Nat→List Seg),RL σ pr w esz 0 row []:=fun row=>⟨by simp,fun j hj=>by omega,fun j hj=>by omega⟩
 cases s <;> simp [contOf] at hC
 case slice id sz i c es len =>
  cases hb0:hp[id]? with
  | none=>simp [hb0] at hC
  | some ob =>
  cases ob with
  | none=>simp [hb0] at hC
  | some b =>
  simp only [hb0] at hC
  cases hv with
  | slice0 =>
   cases b <;> first | (simp at hC;done) | (simp only [] at hC;split at hC <;> simp only [Option.some.injEq] at hC <;> subst hC <;> exact ⟨_,_,[],rfl,empty _,.inl rfl⟩)
  | slice h1 hf hl hroom =>
   rename_i g n cap
   obtain ⟨rfl,rfl,hB⟩:=zaR H hb0 h1
   obtain ⟨cells,T,fz,q1,q2,q3,q4⟩:=hB.cells (hB.notMapR hroom)
   have hlens:=H.lens id b hb0
   rcases hf with ⟨rfl,rfl,hf⟩ | ⟨hne,hi,hf⟩
   ·cases b with
    | map=>simp at hC
    | ints k sz n f =>
     simp only [Blk.sz] at *
     rw [beq_t.2 rfl] at hC
     simp only [Option.some.injEq] at hC;subst hC
     have hesz:sz=esz:=beq_t.1 hok
     subst hesz
     obtain ⟨cs,r1,r2⟩:=zcd (σ:=σ) (pr:=pr) (w:=w) (g:=g) (off:=i*sz+0) (esz:=sz) (n:=len) (row:=fun j=>[Seg.ints k sz (fun d=>f (j+i) (d+0))]) (fun j hj c hc=>by
      obtain ⟨x,e1,e2⟩:=q4 (i+j) (Nat.lt_of_lt_of_le (Nat.add_lt_add_left hj i) hf) c hc
      refine ⟨x,?_,?_⟩
      ·rw [zaB q1,show i*sz+0+j*sz+c=(i+j)*sz+c by rw [Nat.add_mul];omega];exact e1
      ·rw [Nat.add_comm i j] at e2;simpa [cellAt,Blk.segs] using e2) (fun j hj=>Nat.le_refl _)
     exact ⟨_,_,cs,rfl,r1,.inr ⟨_,_,rfl,r2⟩⟩
    | mix sz n row =>
     simp only [Blk.sz] at *
     rw [beq_t.2 rfl] at hC
     simp only [Option.some.injEq] at hC;subst hC
     have hesz:sz=esz:=beq_t.1 hok
     subst hesz
     have hcut:∀ j,j<len→lenS (cutS (row (j+i)) 0 sz)=sz∧∀ d,d<sz→cellAt (cutS (row (j+i)) 0 sz) d=cellAt (row (i+j)) (0+d):=fun j hj=>by
      rw [Nat.add_comm j i]
      exact zbg (by have:=hlens (i+j) (Nat.lt_of_lt_of_le (Nat.add_lt_add_left hj i) hf);simp only [Blk.segs] at this;omega)
     obtain ⟨cs,r1,r2⟩:=zcd (σ:=σ) (pr:=pr) (w:=w) (g:=g) (off:=i*sz+0) (esz:=sz) (n:=len) (row:=fun j=>cutS (row (j+i)) 0 sz) (fun j hj c hc=>by
      obtain ⟨x,e1,e2⟩:=q4 (i+j) (Nat.lt_of_lt_of_le (Nat.add_lt_add_left hj i) hf) c hc
      refine ⟨x,?_,?_⟩
      ·rw [zaB q1,show i*sz+0+j*sz+c=(i+j)*sz+c by rw [Nat.add_mul];omega];exact e1
      ·rw [(hcut j hj).2 c hc,Nat.zero_add];exact e2) (fun j hj=>by rw [(hcut j hj).1];exact Nat.le_refl _)
     exact ⟨_,_,cs,rfl,r1,.inr ⟨_,_,rfl,r2⟩⟩
   ·cases b with
    | map=>simp at hC
    | ints k sz n f =>
     simp only [Blk.sz] at *
     rw [beq_f.2 hne] at hC
     simp only [Option.some.injEq] at hC;subst hC
     have hesz:es=esz:=beq_t.1 hok
     subst hesz
     obtain ⟨cs,r1,r2⟩:=zcd (σ:=σ) (pr:=pr) (w:=w) (g:=g) (off:=i*sz+c) (esz:=es) (n:=len) (row:=fun j=>[Seg.ints k es (fun d=>f i (c+j*es+d))]) (fun j hj d hd=>by
      have hle:=zaz (s:=es) hj
      obtain ⟨x,e1,e2⟩:=q4 i hi (c+j*es+d) (show c+j*es+d<sz by omega)
      refine ⟨x,?_,?_⟩
      ·rw [zaB q1,show i*sz+c+j*es+d=i*sz+(c+j*es+d) by omega];exact e1
      ·simpa [cellAt,Blk.segs] using e2) (fun j hj=>Nat.le_refl _)
     exact ⟨_,_,cs,rfl,r1,.inr ⟨_,_,rfl,r2⟩⟩
    | mix sz n row =>
     simp only [Blk.sz] at *
     rw [beq_f.2 hne] at hC
     simp only [Option.some.injEq] at hC;subst hC
     have hesz:es=esz:=beq_t.1 hok
     subst hesz
     have hlen:=hlens i hi
     simp only [Blk.segs] at hlen
     have hcut:∀ j,j<len→lenS (cutS (row i) (c+j*es) es)=es∧∀ d,d<es→cellAt (cutS (row i) (c+j*es) es) d=cellAt (row i) (c+j*es+d):=fun j hj =>
      zbg (by have:=zaz (s:=es) hj;omega)
     obtain ⟨cs,r1,r2⟩:=zcd (σ:=σ) (pr:=pr) (w:=w) (g:=g) (off:=i*sz+c) (esz:=es) (n:=len) (row:=fun j=>cutS (row i) (c+j*es) es) (fun j hj d hd=>by
      have hle:=zaz (s:=es) hj
      obtain ⟨x,e1,e2⟩:=q4 i hi (c+j*es+d) (show c+j*es+d<sz by omega)
      refine ⟨x,?_,?_⟩
      ·rw [zaB q1,show i*sz+c+j*es+d=i*sz+(c+j*es+d) by omega];exact e1
      ·rw [(hcut j hj).2 d hd];exact e2) (fun j hj=>by rw [(hcut j hj).1];exact Nat.le_refl _)
     exact ⟨_,_,cs,rfl,r1,.inr ⟨_,_,rfl,r2⟩⟩
 case vints t k sz len f =>
  subst hC
  have hesz:sz=esz:=beq_t.1 hok
  subst hesz
  cases hv with
  | vints0=>exact ⟨_,_,[],rfl,empty _,.inl rfl⟩
  | vints h1 h2 hl =>
   rename_i b off cap
   obtain ⟨cs,r1,r2⟩:=zcd (σ:=σ) (pr:=pr) (w:=w) (g:=b) (off:=off) (esz:=sz) (n:=len) (row:=fun j=>[Seg.ints k sz (f j)]) (fun j hj c hc=>⟨_,h2 j hj c hc,.int⟩) (fun j hj=>Nat.le_refl _)
   exact ⟨_,_,cs,rfl,r1,.inr ⟨_,_,rfl,r2⟩⟩
 case vrows t sz len row =>
  subst hC
  have hesz:sz=esz:=beq_t.1 hok
  subst hesz
  cases hv with
  | vrows0=>exact ⟨_,_,[],rfl,empty _,.inl rfl⟩
  | vrows vs h1 h2 h3 hs hl =>
   rename_i b off cap
   obtain ⟨cs,r1,r2⟩:=zcd (σ:=σ) (pr:=pr) (w:=w) (g:=b) (off:=off) (esz:=sz) (n:=len) (row:=row) (fun j hj c hc=>⟨_,h2 j hj c hc,h3 j hj c hc⟩) hs
   exact ⟨_,_,cs,rfl,r1,.inr ⟨_,_,rfl,r2⟩⟩
 case nils =>
  subst hC
  have:=RS.nils_inv hv
  exact ⟨_,_,[],this,empty _,.inl rfl⟩
theorem zeN {esz:Nat} {a b:Cont} (ha:a.ok esz=true) (hb:b.ok esz=true) (h1:∀ j,j<a.len→esz≤lenS (a.row j)) (h2:∀ j,j<b.len→esz≤lenS (b.row j)) :
  (Cont.join esz a b).sz=esz∧(Cont.join esz a b).n=a.len+b.len∧(∀ r,r<a.len+b.len→esz≤lenS ((Cont.join esz a b).segs r)) ∧
  ∀ r,r<a.len+b.len→∀ d,d<esz→cellAt ((Cont.join esz a b).segs r) d=if r<a.len then cellAt (a.row r) d else cellAt (b.row (r - a.len)) d:=by
 have gen:∀ (A B:Nat→List Seg) (n m:Nat),(∀ j,j<n→esz≤lenS (A j))→(∀ j,j<m→esz≤lenS (B j)) →
   (∀ r,r<n+m→esz≤lenS (bif Nat.ble (r+1) n then A r else B (r - n)))∧∀ r,r<n+m→∀ d,cellAt (bif Nat.ble (r+1) n then A r else B (r - n)) d=if r<n then cellAt (A r) d else cellAt (B (r - n)) d:=by
  intro A B n m hA hB
  refine ⟨fun r hr=>?_,fun r hr d=>?_⟩
  ·by_cases e:r<n
   ·rw [ble_t.2 (show r+1≤n from e)];exact hA r e
   ·rw [ble_f.2 (show n<r+1 by omega)];exact hB _ (by omega)
  ·by_cases e:r<n
   ·rw [ble_t.2 (show r+1≤n from e),if_pos e];rfl
   ·rw [ble_f.2 (show n<r+1 by omega),if_neg e];rfl
 unfold Cont.join
 split
 ·rename_i k s1 n f k' s2 m g
  split
  ·rename_i hk
   have hk:=kEq_t.1 hk;subst hk
   refine ⟨rfl,rfl,fun r hr=>Nat.le_refl _,fun r hr d hd=>?_⟩
   show SV.int k (bif Nat.ble (r+1) n then f r d else g (r - n) d)=if r<n then SV.int k (f r d) else SV.int k (g (r - n) d)
   by_cases e:r<n
   ·rw [ble_t.2 (show r+1≤n from e),if_pos e];rfl
   ·rw [ble_f.2 (show n<r+1 by omega),if_neg e];rfl
  ·obtain ⟨g1,g2⟩:=gen (fun r=>[Seg.ints k esz (f r)]) (fun r=>[Seg.ints k' esz (g r)]) n m (fun _ _=>Nat.le_refl _) (fun _ _=>Nat.le_refl _)
   exact ⟨rfl,rfl,g1,fun r hr d hd=>g2 r hr d⟩
 ·rename_i k s2 m g
  refine ⟨rfl,by simp [Blk.n,Cont.len],fun r hr=>Nat.le_refl _,fun r hr d hd=>?_⟩
  simp [Cont.len,Cont.row,Blk.segs,cellAt]
 ·rename_i s2 m row
  refine ⟨rfl,by simp [Blk.n,Cont.len],fun r hr=>?_,fun r hr d hd=>?_⟩
  ·exact h2 r (by simpa [Cont.len] using hr)
  ·simp [Cont.len,Cont.row,Blk.segs]
 ·rename_i k s1 n f
  refine ⟨rfl,by simp [Blk.n,Cont.len],fun r hr=>Nat.le_refl _,fun r hr d hd=>?_⟩
  have hr':r<n:=by simpa [Cont.len] using hr
  simp [Cont.len,Cont.row,Blk.segs,cellAt,hr']
 ·rename_i s1 n row
  have hr':∀ r,r<(Cont.rows s1 n row).len+Cont.none.len→r<n:=fun r hr=>by simpa [Cont.len] using hr
  refine ⟨rfl,by simp [Blk.n,Cont.len],fun r hr=>h1 r (hr' r hr),fun r hr d hd=>?_⟩
  rw [if_pos (show r<(Cont.rows s1 n row).len from hr' r hr)];rfl
 ·obtain ⟨g1,g2⟩:=gen a.row b.row a.len b.len h1 h2
  exact ⟨rfl,rfl,g1,fun r hr d hd=>g2 r hr d⟩
theorem HI.drew (H:HI w0 own0 σ pr hp w):HI w0 own0 σ pr hp w.drew∧Le σ pr w σ pr w.drew:=by
 have hL:Le σ pr w σ pr w.drew:=⟨fun _ _ h=>h,fun _ _ h=>h,fun _ _ _=>rfl,fun b cells T fz h=>⟨cells,fz,h,rfl⟩,Nat.le_refl _⟩
 refine ⟨⟨H.fresh,fun id b hb=>?_,H.inj,H.lens,H.ev.step rfl rfl rfl (Nat.le_refl _) (fun _ _ _=>rfl),H.prlt,H.prnew⟩,hL⟩
 rcases H.blk id b hb with h | ⟨g,h1,h2⟩
 ·exact .inl h
 ·exact .inr ⟨g,h1,h2.mono hL h2.free rfl⟩
theorem HI.kill (H:HI w0 own0 σ pr hp w) (id:Nat):HI w0 own0 σ pr (hp.set id none) w:=by
 have old:∀ (j:Nat) (b:Blk),(hp.set id none)[j]?=some (some b)→hp[j]?=some (some b):=fun j b h=>by
  rw [List.getElem?_set] at h
  split at h
  ·split at h <;> simp at h
  ·exact h
 exact ⟨fun j hj=>H.fresh j (by simpa using hj),fun j b h=>H.blk j b (old j b h),fun j j' b b' g x x' h1 h2=>H.inj j j' b b' g x x' (old _ _ h1) (old _ _ h2),
  fun j b h=>H.lens j b (old j b h),H.ev,H.prlt,H.prnew⟩
theorem HI.empty (H:HI w0 own0 σ pr hp w) {sl:Nat} (hs:σ sl=none) {b:Blk} (hn:b.n=0):HI w0 own0 σ pr (hp.set sl (some b)) w:=by
 refine ⟨fun j hj=>H.fresh j (by simpa using hj),fun j c h=>?_,fun j j' c c' g x x' h1 h2 h3 h4=>?_,fun j c h=>?_,H.ev,H.prlt,H.prnew⟩
 ·rcases zaq h with ⟨rfl,rfl⟩ | ⟨_,h⟩
  ·exact .inl ⟨hs,hn⟩
  ·exact H.blk j c h
 ·rcases zaq h1 with ⟨e1,_⟩ | ⟨_,k1⟩
  ·rw [e1,hs] at h3;cases h3
  ·rcases zaq h2 with ⟨e2,_⟩ | ⟨_,k2⟩
   ·rw [e2,hs] at h4;cases h4
   ·exact H.inj j j' c c' g x x' k1 k2 h3 h4
 ·rcases zaq h with ⟨rfl,rfl⟩ | ⟨_,h⟩
  ·intro i hi;omega
  ·exact H.lens j c h
end
end Go.AM
namespace Go.AM
open Go
section
variable {P:Program} {E:Env} {σ:Sg} {pr:Pr} {w w0:World} {own0:Own} {hp:Heap} {ρ:Operand→AV} {γ:Operand→Value}
theorem zk9 {esz:Nat} {C:Cont} {a:Option Addr} {cap:Nat} {cs:List Value} (hr:RL σ pr w esz C.len C.row cs) (hm:C.len=0 ∨ ∃ g off,a=some ⟨g,off,none⟩∧∀ k u,cs[k]?=some u→w.cell? ⟨g,off+k,none⟩=some u)
  {tx e:TypeId} (hk:P.underlying tx=some (.slice e)):Src P esz tx (.slice a C.len cap) C.len cs w:=by
 have h1:∀ u ∈ cs,u.oneCell'=true:=fun u hu=>by
  obtain ⟨k,hk⟩:=List.getElem?_of_mem hu
  have hlt:k<C.len*esz:=by rw [← hr.1];exact (List.getElem?_eq_some_iff.1 hk).1
  obtain ⟨d1,d2,d3⟩:=divmod hlt
  obtain ⟨x,e1,e2⟩:=hr.2.1 _ d1 _ d2
  rw [← d3,hk] at e1
  simp only [Option.some.injEq] at e1;subst e1
  exact e2.one
 have nil:C.len=0→cs=[]:=fun h=>by
  have:=hr.1
  rw [h] at this
  simpa using this
 cases a with
 | none =>
  have h0:C.len=0:=by
   rcases hm with h | ⟨g,off,h,_⟩
   ·exact h
   ·cases h
  rw [h0,nil h0]
  exact Src.ofNil w hk cap
 | some ad =>
  rcases hm with h0 | ⟨g,off,h,h2⟩
  ·rw [h0,nil h0]
   exact Src.ofSlice w hk ad 0 cap [] (by simp) (fun j u hu=>by simp at hu) (fun u hu=>by simp at hu)
  ·simp only [Option.some.injEq] at h;subst h
   exact Src.ofSlice w hk _ C.len cap cs hr.1 (fun j u hu=>by rw [zgR];exact h2 j u hu) h1
theorem zbj {t:Nat} {T:TI} {e:Nat} (hT:TyOK P t T) (hd:T.d=.slice e):P.underlying t=some (.slice e):=by
 obtain ⟨D,hD,e'⟩:=hT.desc
 rw [hd] at e'
 have:=zbQ e';subst this
 exact hD
theorem zjR {esz:Nat} {A B:Cont} {ca cb:List Value} {rest:Array Value} (ha:RL σ pr w esz A.len A.row ca) (hb:RL σ pr w esz B.len B.row cb) (oa:A.ok esz=true) (ob:B.ok esz=true) :
  ∀ i,i<A.len+B.len→∀ c,c<esz→∃ v,((ca++cb).toArray++rest)[i*esz+c]?=some v∧RS σ pr w (cellAt ((Cont.join esz A B).segs i) c) v:=by
 obtain ⟨_,_,_,j4⟩:=zeN oa ob ha.2.2 hb.2.2
 intro i hi c hc
 rw [j4 i hi c hc]
 by_cases e:i<A.len
 ·rw [if_pos e]
  obtain ⟨x,e1,e2⟩:=ha.2.1 i e c hc
  refine ⟨x,?_,e2⟩
  have hlt:i*esz+c<ca.length:=(List.getElem?_eq_some_iff.1 e1).1
  rw [Array.getElem?_append_left (by simp;omega)]
  simp only [List.getElem?_toArray]
  rw [List.getElem?_append_left hlt]
  exact e1
 ·rw [if_neg e]
  obtain ⟨x,e1,e2⟩:=hb.2.1 (i - A.len) (by omega) c hc
  refine ⟨x,?_,e2⟩
  have hlt:(i - A.len)*esz+c<cb.length:=(List.getElem?_eq_some_iff.1 e1).1
  have hsub:i*esz+c=ca.length+((i - A.len)*esz+c):=by
   rw [ha.1]
   have:i*esz=A.len*esz+(i - A.len)*esz:=by rw [← Nat.add_mul];congr 1;omega
   omega
  rw [Array.getElem?_append_left (by simp;omega)]
  simp only [List.getElem?_toArray]
  rw [hsub,List.getElem?_append_right (by omega)]
  simpa using e1
structure SrcX (P:Program) (w:World) (e:TypeId) (i:TypeInfo) (z:Value) (tx:TypeId) (Y:Value) (n:Nat) (news:List Value):Prop where
 room:∀ (t ty b off sLen sCap:Nat),P.underlying t=some (.slice e)→sLen+n≤sCap→(∀ j,j<news.length→(w.cell? ⟨b,off+sLen*i.size+j,none⟩).isSome=true) →
  (∀ j,j<news.length→w.frozen? ⟨b,off+sLen*i.size+j,none⟩=false) →
  (Builtin.append_ #[t,tx] ty #[.slice (some ⟨b,off,none⟩) sLen sCap,Y]).run P w=.ok (.slice (some ⟨b,off,none⟩) (sLen+n) sCap) (w.setCells b (off+sLen*i.size) news)
 grow:∀ (t ty:Nat) (base:Option Addr) (sLen sCap:Nat) (olds:List Value),P.underlying t=some (.slice e)→(Builtin.firstCells i.size sLen (.slice base sLen sCap)).run P w.drew=.ok olds.toArray w.drew →
  sCap<sLen+n→(sLen+n)*i.bytes≤1099511627776→1≤i.bytes →
  (Builtin.append_ #[t,tx] ty #[.slice base sLen sCap,Y]).run P w=.ok (.slice (some ⟨w.heap.size,0,none⟩) (sLen+n) (grownCap w (sLen+n) sCap e))
   (w.drew.alloc (.cells ((olds++news).toArray++Builtin.zeroCells z.cells (grownCap w (sLen+n) sCap e - (sLen+n))) e))
 zero:n=0→∀ (t ty:Nat) (base:Option Addr),P.underlying t=some (.slice e)→(Builtin.append_ #[t,tx] ty #[.slice base 0 0,Y]).run P w=.ok (.slice base 0 0) w
theorem SrcX.ofSrc {e:TypeId} {i:TypeInfo} {z:Value} {tx:TypeId} {Y:Value} {n:Nat} {news:List Value} (hi:P.info? e=some i) (hz:i.zero=some z) (h:Src P i.size tx Y n news w):SrcX P w e i z tx Y n news:=by
 refine ⟨fun t ty b off sLen sCap ht hr hc hf=>run_append_room_src w t tx ty e i ht hi b off sLen sCap Y n news h hr hc hf,
  fun t ty base sLen sCap olds ht hold hg hf hb=>?_,fun hn t ty base ht=>?_⟩
 ·have hnb:sLen+n≤(sLen+n)*i.bytes:=Nat.le_mul_of_pos_right _ hb
  exact run_append_grow_src w t tx ty e i z ht hi hz base sLen sCap olds hold Y n news h hg (by omega) (growslice_fits hg (by omega))
 ·have h0:=h.cells
  have hlen:=h.len
  have hcs:news=[]:=by have:=h.newsLen;rw [hn] at this;simpa using this
  rw [hn] at *
  subst hcs
  rcases h.kind with ⟨e',hk⟩ | hk <;> cases base <;> simp [Builtin.append_,run_underlying ht,run_underlying hk,sizeOf,typeInfo,hi,hlen,h0,storeCells]
theorem zd8 (z:Array Value) (n:Nat) {k:Nat} (hk:k<n*z.size):(Builtin.zeroCells z n)[k]?=some (z[k % z.size]!):=by
 simp [Builtin.zeroCells,hk]
theorem SrcX.ofZeros {e:TypeId} {i:TypeInfo} {z:Value} {tx:TypeId} {kn kq:IntKind} {n:Nat} (hi:P.info? e=some i) (hz:i.zero=some z) (htn:P.underlying tx=some (.int kn)) (hs:1≤i.size) (hzs:z.cells.size=i.size) (hn63:n≤1099511627776)
  (hb:1≤i.bytes) (hone:∀ u ∈ z.cells.toList,u.oneCell'=true) (hnb:n*i.bytes≤1099511627776):SrcX P w e i z tx (.int kq n) n (Builtin.zeroCells z.cells n).toList:=by
 have hw:IntKind.i64.wrap (n:Int)=n:=by rw [IntKind.wrap_i64];omega
 have hneg:¬ ((n:Int)<0):=by omega
 have hw0:IntKind.i64.wrap 0=0:=by decide
 have h48i:¬ (281474976710656<(n:Int)*(i.bytes:Int)):=by
  rw [← Int.natCast_mul]
  omega
 refine ⟨fun t ty b off sLen sCap ht hr hc hf=>?_,fun t ty base sLen sCap olds ht hold hg hf hb=>?_,fun hn t ty base ht=>?_⟩
 ·have hone':∀ u ∈ (Builtin.zeroCells z.cells n).toList,u.oneCell'=true:=fun u hu=>by
   obtain ⟨k,hk⟩:=List.getElem?_of_mem hu
   have hlt:k<n*z.cells.size:=by
    have:=(List.getElem?_eq_some_iff.1 hk).1
    simpa [Builtin.zeroCells] using this
   have hk':(Builtin.zeroCells z.cells n)[k]?=some u:=by simpa using hk
   rw [zd8 z.cells n hlt] at hk'
   simp only [Option.some.injEq] at hk';subst hk'
   have hm:k % z.cells.size<z.cells.size:=Nat.mod_lt _ (by omega)
   rw [getElem!_pos z.cells _ hm]
   exact hone _ (by simp)
  have hst:=run_storeCells_cells (P:=P) b (off+sLen*i.size) (Builtin.zeroCells z.cells n).toList 0 w (by simpa using hc) (by simpa using hf) hone'
  simp only [Nat.add_zero] at hst
  by_cases h0:n*i.size=0
  ·have hn0:n=0:=by
    rcases Nat.mul_eq_zero.1 h0 with h | h
    ·exact h
    ·omega
   subst hn0
   have e0:(Builtin.zeroCells z.cells 0).toList=[]:=by simp [Builtin.zeroCells]
   rw [e0] at hst ⊢
   simp [Builtin.append_,run_underlying ht,run_underlying htn,sizeOf,typeInfo,zeroValue,hi,hz,asInt,asIntOf,hw0,hr,Addr.add_lit,storeCells,World.setCells]
   intro hx;omega
  ·simp [Builtin.append_,run_underlying ht,run_underlying htn,sizeOf,typeInfo,zeroValue,hi,hz,asInt,asIntOf,hw,hneg,h48i,h0,hr,Addr.add_lit,hst]
 ·have hnb2:sLen+n≤(sLen+n)*i.bytes:=Nat.le_mul_of_pos_right _ hb
  by_cases h0:n=0
  ·subst h0
   have e0:(Builtin.zeroCells z.cells 0).toList=[]:=by simp [Builtin.zeroCells]
   have hn:¬ (sLen+0≤sCap):=by omega
   have hn':¬ (sLen≤sCap):=by omega
   have h63':¬ (9223372036854775807<((sLen:Int))):=by omega
   have h48':¬ (281474976710656<Builtin.nextslicecap (sLen) sCap*i.bytes):=by have:=growslice_fits (bytes:=i.bytes) hg (show (sLen+0)*i.bytes≤140737488355328 by omega);simp at this;omega
   rw [e0,List.append_nil]
   simp [Builtin.append_,run_underlying ht,run_underlying htn,sizeOf,typeInfo,zeroValue,hi,hz,asInt,asIntOf,hw0,hn',h63',h48',Question.forced,hold,newRow,grownCap]
  ·have:=Lib.run_append_grow_zeros w t tx ty e i z kq kn ht htn hi hz base sLen sCap olds hold n (by omega) (by omega) hg (by omega) (by omega) (growslice_fits hg (by omega))
   rw [this]
   congr 3
   apply Array.ext'
   simp [List.append_assoc]
 ·subst hn
  cases base <;> simp [Builtin.append_,run_underlying ht,run_underlying htn,sizeOf,typeInfo,zeroValue,hi,hz,asInt,asIntOf,hw0,storeCells]
theorem zkS (ET:EnvTy P E) (H:HI w0 own0 σ pr hp w) {sl:Nat} (hsl:hp[sl]?=some none) (hs:σ sl=none) {t tx rt:TypeId} {e:Nat} {T F:TI} (hT:E.ty t=some T) (hTd:T.d=.slice e) (hF:E.ty e=some F)
  {A B:Cont} (oa:A.ok F.size=true) (ob:B.ok F.size=true) {a:Option Addr} {Y:Value} {capA:Nat} {ca cb:List Value} (ha:RL σ pr w F.size A.len A.row ca) (hb:RL σ pr w F.size B.len B.row cb)
  (ma:A.len=0 ∨ ∃ g off,a=some ⟨g,off,none⟩∧∀ k u,ca[k]?=some u→w.cell? ⟨g,off+k,none⟩=some u) (mb:∀ i z,P.info? e=some i→i.zero=some z→SrcX P w e i z tx Y B.len cb)
  (hfit:fits (A.len+B.len) F.bytes=true) (hby:1≤F.bytes) (hzl:lenS F.zero=F.size) (hg:capA<A.len+B.len) (hA:A.len≤capA) :
  ∃ val w' σ',(Builtin.append_ #[t,tx] rt #[.slice a A.len capA,Y]).run P w=.ok val w' ∧
   Out w0 own0 σ pr hp w sl (.sc (.slice sl F.size 0 0 F.size (A.len+B.len))) (hp.set sl (some (Cont.join F.size A B))) val σ' pr w':=by
 obtain ⟨i,z,hi,hsz,hbytes,hzero,hzr⟩:=(ET.ty _ _ hF).info
 have hut:=zbj (ET.ty _ _ hT) hTd
 have hsrcA:Src P i.size t (.slice a A.len capA) A.len ca w:=by rw [hsz];exact zk9 ha ma hut
 have hf:(A.len+B.len)*F.bytes≤1099511627776:=by
  have:(A.len+B.len)*F.bytes≤2 ^ 40:=by simpa [fits] using hfit
  have e:(2:Nat) ^ 40=1099511627776:=by decide
  omega
 have hrun:=(mb i z hi hzero).grow t rt a A.len capA ca hut hsrcA.cellsD hg (by rw [hbytes];exact hf) (by rw [hbytes];exact hby)
 obtain ⟨HD,LD⟩:=H.drew
 obtain ⟨j1,j2,j3,j4⟩:=zeN oa ob ha.2.2 hb.2.2
 have hcap:A.len+B.len≤grownCap w (A.len+B.len) capA e:=by
  unfold grownCap
  simp only [Question.cut]
  omega
 have zsz:z.cells.size=F.size:=by
  have:=(hzr σ pr w).1
  simp at this;omega
 have rsz:(Builtin.zeroCells z.cells (grownCap w (A.len+B.len) capA e - (A.len+B.len))).size=(grownCap w (A.len+B.len) capA e - (A.len+B.len))*F.size:=by
  simp [Builtin.zeroCells,zsz]
 have lsz:(ca++cb).length=(A.len+B.len)*F.size:=by rw [List.length_append,ha.1,hb.1,Nat.add_mul]
 have hmul:(A.len+B.len)*F.size+(grownCap w (A.len+B.len) capA e - (A.len+B.len))*F.size=grownCap w (A.len+B.len) capA e*F.size:=by rw [← Nat.add_mul];congr 1;omega
 have hall:=zjR (rest:=Builtin.zeroCells z.cells (grownCap w (A.len+B.len) capA e - (A.len+B.len))) ha hb oa ob
 have out:=zdV (T:=e) (cells:=(ca++cb).toArray++Builtin.zeroCells z.cells (grownCap w (A.len+B.len) capA e - (A.len+B.len))) (cap:=grownCap w (A.len+B.len) capA e) (len:=A.len+B.len) HD hsl hs (b:=Cont.join F.size A B) (zkl _ _ _) j2 hcap
  (by rw [j1,Array.size_append,rsz];simp only [List.size_toArray];rw [lsz];omega)
  (fun i hi c hc=>by
   rw [j2] at hi
   rw [j1] at hc ⊢
   obtain ⟨v,e1,e2⟩:=hall i hi c hc
   exact ⟨v,e1,e2.mono LD⟩)
  (fun i hi=>by rw [j2] at hi;rw [j1];exact j3 i hi)
 rw [j1] at out
 exact ⟨_,_,_,hrun,LD.trans out.le,out.hi,out.rv,out.keep,out.len⟩
theorem zpi (F:TI) (n:Nat):(zeroC F n).len=n∧(zeroC F n).ok F.size=true:=by
 unfold zeroC
 split <;> exact ⟨rfl,by simp [Cont.ok]⟩
theorem zhP (F:TI) (n:Nat) (hzl:lenS F.zero=F.size) (j:Nat):lenS ((zeroC F n).row j)=F.size∧∀ c,c<F.size→cellAt ((zeroC F n).row j) c=cellAt F.zero c:=by
 unfold zeroC
 split
 ·rename_i k m z hz
  rw [hz,zai] at hzl
  simp only [lenS,Nat.add_zero] at hzl
  subst hzl
  refine ⟨by simp [Cont.row,lenS],fun c hc=>?_⟩
  rw [hz];rfl
 ·exact ⟨hzl,fun c hc=>rfl⟩
theorem zlr (ET:EnvTy P E) (H:HI w0 own0 σ pr hp w) {tx e:TypeId} {U F:TI} (hU:E.ty tx=some U) (hF:E.ty e=some F) {y:SV} {Y:Value} (hy:RS σ pr w y Y) {cy:Cont} (h:srcOf hp U.d F y=some cy) (hok:cy.ok F.size=true)
  (hck:zeroCk U.d y=true) (hzl:lenS F.zero=F.size) (h1:1≤F.size) (hby:1≤F.bytes) (hfit:cy.len*F.bytes≤1099511627776) :
  ∃ cs,RL σ pr w F.size cy.len cy.row cs∧∀ i z,P.info? e=some i→i.zero=some z→SrcX P w e i z tx Y cy.len cs:=by
 obtain ⟨i0,z0,hi0,hsz,hbytes,hzero,hzr⟩:=(ET.ty _ _ hF).info
 unfold srcOf at h
 split at h
 ·rename_i ed hUd
  obtain ⟨ay,capy,csy,vy,ry,my⟩:=zeS H h hok hy
  refine ⟨csy,ry,fun i z hi hz=>?_⟩
  rw [hi0] at hi
  simp only [Option.some.injEq] at hi;subst hi
  have hsrc:Src P i0.size tx (.slice ay cy.len capy) cy.len csy w:=by rw [hsz];exact zk9 ry my (zbj (ET.ty _ _ hU) hUd)
  rw [vy]
  exact SrcX.ofSrc hi0 hz hsrc
 ·rename_i kn hUd
  split at h
  case h_2=>simp at h
  rename_i kq m
  simp only [Option.some.injEq] at h;subst h
  rw [hUd] at hck
  have hm:0≤m:=by simpa [zeroCk] using hck
  have hYv:Y=.int kq m:=by cases hy;rfl
  have zsz:z0.cells.size=F.size:=by
   have:=(hzr σ pr w).1
   simp at this;omega
  obtain ⟨l1,l2⟩:=zpi F m.toNat
  rw [l1] at hfit ⊢
  have htx:P.underlying tx=some (.int kn):=by
   obtain ⟨D,hD,eD⟩:=(ET.ty _ _ hU).desc
   rw [hUd] at eD
   have:=zkG eD;subst this;exact hD
  have hzc:∀ c,c<F.size→∃ x,z0.cells[c]?=some x∧RS σ pr w (cellAt F.zero c) x:=fun c hc=>by
   have hlt:c<z0.cells.size:=by omega
   exact ⟨z0.cells[c],Array.getElem?_eq_getElem hlt,(hzr σ pr w).2 c _ (by simp [hlt])⟩
  refine ⟨(Builtin.zeroCells z0.cells m.toNat).toList,⟨by simp [Builtin.zeroCells,zsz],fun j hj c hc=>?_,fun j hj=>by rw [(zhP F m.toNat hzl j).1];exact Nat.le_refl _⟩,fun i z hi hz=>?_⟩
  ·obtain ⟨x,x1,x2⟩:=hzc c hc
   refine ⟨x,?_,by rw [(zhP F m.toNat hzl j).2 c hc];exact x2⟩
   have hlt:=zaz (s:=F.size) hj
   have:=zd8 z0.cells m.toNat (k:=j*F.size+c) (by rw [zsz];omega)
   rw [zsz,Nat.mul_comm j,Nat.mul_add_mod,Nat.mod_eq_of_lt hc,Nat.mul_comm F.size j] at this
   rw [getElem!_pos z0.cells c (by omega)] at this
   rw [Array.getElem?_eq_getElem (by omega)] at x1
   simp only [Option.some.injEq] at x1
   rw [x1] at this
   simpa using this
  ·rw [hi0] at hi
   simp only [Option.some.injEq] at hi;subst hi
   rw [hzero] at hz
   simp only [Option.some.injEq] at hz;subst hz
   have em:(m:Int)=(m.toNat:Int):=by omega
   rw [hYv,em]
   have hle:m.toNat≤m.toNat*F.bytes:=Nat.le_mul_of_pos_right _ hby
   refine SrcX.ofZeros hi0 hzero htx (by rw [hsz];exact h1) (by rw [zsz,hsz]) (by omega) (by rw [hbytes];exact hby) (fun u hu=>?_) (by rw [hbytes];exact hfit)
   obtain ⟨k,hk⟩:=List.getElem?_of_mem hu
   exact ((hzr σ pr w).2 k u hk).one
 ·simp at h
set_option maxHeartbeats 1000000 in
theorem zrZ (ET:EnvTy P E) (hρ:∀ x,RV σ pr w (ρ x) (γ x)) (H:HI w0 own0 σ pr hp w) {sl:Nat} (hsl:hp[sl]?=some none) (hs:σ sl=none) {args:Array Operand} {ts:Array TypeId} {v:AV} {hp':Heap} (h:writeOp E ρ hp sl (.call ⟨.builtin .append,args,ts⟩)=some (v,hp')) {d t p e g} :
  ∃ val w' σ',(execOp γ ⟨d,.call ⟨.builtin .append,args,ts⟩,t,p,e,g⟩).run P w=.ok (.value val) w'∧Out w0 own0 σ pr hp w sl v hp' val σ' pr w':=by
 simp only [writeOp] at h
 split at h
 case h_2=>simp at h
 rename_i x y tx ty ha hts
 have hargs:args=#[x,y]:=by rw [← Array.toArray_toList (xs:=args),ha]
 have hts':ts=#[tx,ty]:=by rw [← Array.toArray_toList (xs:=ts),hts]
 subst hargs hts'
 have hx:=hρ x
 have hy:=hρ y
 split at h
 case h_2=>simp at h
 rename_i el _ _ _ _ U sx sy hT hU ex ey
 rw [ex] at hx;rw [ey] at hy
 split at h
 case h_2=>simp at h
 rename_i F hF
 split at h
 case h_2=>simp at h
 rename_i cx cy hcx hcy
 split at h
 case h_2=>simp at h
 rename_i hk
 simp only [Bool.and_eq_true,ble_t,beq_t] at hk
 obtain ⟨⟨⟨⟨⟨⟨k1,k0⟩,k2⟩,k3⟩,k4⟩,k5⟩,k6⟩:=hk
 have hx:RS σ pr w sx (γ x):=hx
 have hy:RS σ pr w sy (γ y):=hy
 obtain ⟨ax,capx,csx,vx,rx,mx⟩:=zeS H hcx k5 hx
 have hfb:cy.len*F.bytes≤1099511627776:=by
  have:(cx.len+cy.len)*F.bytes≤2 ^ 40:=by simpa [fits] using k1
  have e:(2:Nat) ^ 40=1099511627776:=by decide
  rw [Nat.add_mul] at this
  omega
 obtain ⟨csy,ry,my⟩:=zlr ET H hU hF hy hcy k6 k0 k4 k2 k3 hfb
 have hexec:∀ {val w'},(Builtin.append_ #[tx,ty] t #[.slice ax cx.len capx,γ y]).run P w=.ok val w' →
   (execOp γ ⟨d,.call ⟨.builtin .append,#[x,y],#[tx,ty]⟩,t,p,e,g⟩).run P w=.ok (.value val) w':=fun q=>by
  simp [execOp,resolve,invoke,builtin,vx,q]
 have hutx:=zbj (ET.ty _ _ hT) rfl
 obtain ⟨i,z,hi,hsz,hbytes,hzero,_⟩:=(ET.ty _ _ hF).info
 have hsrc:=my i z hi hzero
 obtain ⟨j1,j2,j3,j4⟩:=zeN k5 k6 rx.2.2 ry.2.2
 split at h
 ·-- onto nothing
  rename_i hx0
  simp only [Option.some.injEq,Prod.mk.injEq] at h
  obtain ⟨rfl,rfl⟩:=h
  have vn:=RS.nils_inv hx
  rw [vx] at vn
  simp only [Value.slice.injEq] at vn
  obtain ⟨rfl,hl0,rfl⟩:=vn
  by_cases hn:cy.len=0
  ·refine ⟨.slice none 0 0,w,σ,hexec ?_,Le.refl _ _ _,H.empty hs (by rw [j2];omega),?_,fun _ _ _=>rfl,by simp⟩
   ·rw [hl0];exact hsrc.zero hn tx t none hutx
   ·rw [hl0,hn];exact RV.of_sc .slice0
  ·obtain ⟨val,w',σ',q1,q2⟩:=zkS (rt:=t) (a:=none) (capA:=0) (Y:=γ y) ET H hsl hs hT rfl hF k5 k6 rx ry mx my k1 k3 k4 (by omega) (by omega)
   exact ⟨val,w',σ',hexec q1,q2⟩
 ·-- onto a slice of one's own
  rename_i id sz i0 c esz len hx0
  split at h
  case h_2=>simp at h
  rename_i hk2
  simp only [Bool.and_eq_true,beq_t] at hk2
  obtain ⟨⟨⟨m1,m2⟩,m3⟩,m4⟩:=hk2
  subst m1 m2 m3 m4
  simp only [Option.some.injEq,Prod.mk.injEq] at h
  obtain ⟨rfl,rfl⟩:=h
  have hbex:∃ b,hp[id]?=some (some b)∧cx.len=len:=by
   simp only [contOf] at hcx
   split at hcx
   ·rename_i hb;split at hcx <;> (simp only [Option.some.injEq] at hcx;subst hcx;exact ⟨_,hb,rfl⟩)
   ·rename_i hb;split at hcx <;> (simp only [Option.some.injEq] at hcx;subst hcx;exact ⟨_,hb,rfl⟩)
   ·simp at hcx
  obtain ⟨b,hb,hlen0⟩:=hbex
  have hne:id≠sl:=by rintro rfl;rw [hsl] at hb;cases hb
  have hsl':(hp.set id none)[sl]?=some none:=by rw [List.getElem?_set_ne hne];exact hsl
  by_cases hroom:cx.len+cy.len≤capx
  ·-- there is room
   rw [vx] at hx
   by_cases hcap0:capx=0
   ·-- none at all,and none wanted
    have e1:cx.len=0:=by omega
    have e2:cy.len=0:=by omega
    refine ⟨.slice ax 0 0,w,σ,hexec ?_,Le.refl _ _ _,(H.kill id).empty hs (by rw [j2];omega),?_,fun _ _ _=>rfl,by simp⟩
    ·rw [e1,hcap0];exact hsrc.zero e2 tx t ax hutx
    ·rw [e1,e2];exact RV.of_sc .slice0
   ·have hxs:=hx
    generalize hgl:cx.len=cl at hx
    rw [hlen0] at hgl
    subst hgl
    cases hx with
    | slice0=>exact absurd rfl hcap0
    | slice h1 hf hl hroomS =>
    rename_i g0 n
    obtain ⟨e1,e2,hB⟩:=zaR H hb h1
    obtain ⟨cells,T0,fz,q1,q2,q3,q4⟩:=hB.cells (hB.notMapR hroomS)
    obtain ⟨cells2,T2,fz2,q1',q5⟩:=hroomS
    rw [q1] at q1'
    simp only [Option.some.injEq,Obj.cells.injEq] at q1'
    obtain ⟨rfl,rfl,rfl⟩:=q1'
    simp only [Nat.zero_mul,Nat.add_zero,Nat.zero_add] at *
    have hcl:csy.length=cy.len*F.size:=ry.1
    have hfitl:len*F.size+csy.length≤cells.size:=by
     have:=Nat.mul_le_mul_right F.size hroom
     rw [hlen0,Nat.add_mul] at this
     omega
    have hrun:=hsrc.room tx t g0 0 len capx hutx (by omega)
     (fun j hj=>by
      rw [zaB q1,hsz]
      simp
      omega)
     (fun j hj=>by
      rw [hsz]
      simp [World.frozen?,q1]
      omega)
    rw [hsz,Nat.zero_add] at hrun
    have hslt:sl<hp.length:=(List.getElem?_eq_some_iff.1 hsl).1
    have hsrow:∀ j,j<len→∀ d,d<F.size→∃ x,cells[j*F.size+d]?=some x∧RS σ pr w (cellAt (cx.row j) d) x:=fun j hj d hd=>by
     obtain ⟨x,x1,x2⟩:=rx.2.1 j (by omega) d hd
     refine ⟨x,?_,x2⟩
     rcases mx with h0 | ⟨gg,off,ea,hcells⟩
     ·omega
     ·simp only [Option.some.injEq,Addr.mk.injEq] at ea
      obtain ⟨rfl,rfl,_⟩:=ea
      have:=hcells _ _ x1
      rw [zaB q1] at this
      simpa using this
    obtain ⟨hL,hH⟩:=zg9 H hb (by rw [← e1,← e2];exact h1) hB ((hp.set id none).set sl (some (Cont.join F.size cx cy))) (upd σ sl (g0,F.size,cx.len+cy.len)) sl (Cont.join F.size cx cy) (zkl _ _ _)
     (fun j y hj=>by
      rw [zaT];exact hj
      rintro rfl;rw [hs] at hj;cases hj)
     (by simp) hslt (by rw [zb0,j1,j2]) (fun j hj=>zaT hj)
     (fun j c' hj=>by
      rcases zaq hj with ⟨rfl,rfl⟩ | ⟨hn1,hj⟩
      ·exact .inl ⟨rfl,rfl⟩
      ·refine .inr ⟨hn1,?_,?_⟩
       ·rintro rfl
        rw [List.getElem?_set] at hj
        simp at hj
       ·rw [List.getElem?_set] at hj
        split at hj
        ·split at hj <;> simp at hj
        ·exact hj)
     q1 (len*F.size) csy hfitl (by rw [j1,j2];have:=Nat.mul_le_mul_right F.size hroom;omega)
     (fun r hr d' hd'=>by
      rw [j1] at hd' ⊢
      rw [j2] at hr
      rw [j4 r hr d' hd',hlen0,hcl]
      by_cases hrl:r<len
      ·rw [if_pos hrl,if_neg ?_]
       ·exact hsrow r hrl d' hd'
       ·have:=zaz (s:=F.size) hrl
        omega
      ·rw [if_neg hrl]
       have hsub:r*F.size=len*F.size+(r - len)*F.size:=by rw [← Nat.add_mul];congr 1;omega
       have hlt:=zaz (s:=F.size) (show r - len<cy.len by omega)
       rw [if_pos (by omega),show r*F.size+d' - len*F.size=(r - len)*F.size+d' by omega]
       exact ry.2.1 (r - len) (by omega) d' hd')
     (fun r hr=>by rw [j2] at hr;rw [j1];exact j3 r hr)
    refine ⟨_,_,_,hexec (by rw [hlen0];exact hrun),hL,hH,?_,fun j _ hj=>zaT hj,by simp⟩
    have hcells':=zbF g0 csy (len*F.size) w cells T0 fz q1 hfitl
    obtain ⟨cells',c1,c2,_⟩:=hcells'
    have:=RS.slice (σ:=upd σ sl (g0,F.size,cx.len+cy.len)) (pr:=pr) (w:=w.setCells g0 (len*F.size) csy) (id:=sl) (i:=0) (c:=0) (esz:=F.size) (len:=cx.len+cy.len) (cap:=capx) (zb0 _ _ _)
     (.inl ⟨rfl,rfl,by omega⟩) hroom ⟨cells',T0,fz,c1,by rw [c2];simpa using q5⟩
    rw [hlen0] at this ⊢
    exact RV.of_sc (by simpa using this)
  ·obtain ⟨val,w',σ',q1,q2⟩:=zkS (rt:=t) (a:=ax) (capA:=capx) (Y:=γ y) ET (H.kill id) hsl' hs hT rfl hF k5 k6 rx ry mx my k1 k3 k4 (by omega) (by
    have hxx:=hx
    rw [vx] at hxx
    generalize hgl:cx.len=cl at hxx
    rw [hlen0] at hgl;subst hgl
    cases hxx with
    | slice0=>exact Nat.le_refl _
    | slice _ _ hl _=>exact hl)
   refine ⟨val,w',σ',hexec q1,q2.le,q2.hi,q2.rv,fun j hj hne=>q2.keep j (by simpa using hj) hne,?_⟩
   have:=q2.len
   simp only [List.length_set] at this ⊢
   exact this
 ·simp at h
theorem zlY (sz esz i c:Nat) (g f:Nat→Nat→Int):copyF sz esz i c 0 g f=f:=by
 unfold copyF
 split
 ·funext r d
  have:(Nat.ble i r&&Nat.ble (r+1) (i+0))=false:=by
   rw [Bool.and_eq_false_iff]
   by_cases h:i≤r
   ·exact .inr (ble_f.2 (by omega))
   ·exact .inl (ble_f.2 (by omega))
  rw [this];rfl
 ·funext r d
  have:(Nat.beq r i&&(Nat.ble c d&&Nat.ble (d+1) (c+0*esz)))=false:=by
   rw [Bool.and_eq_false_iff,Bool.and_eq_false_iff]
   by_cases h:c≤d
   ·exact .inr (.inr (ble_f.2 (by omega)))
   ·exact .inr (.inl (ble_f.2 (by omega)))
  rw [this];rfl
theorem zrO {hp:Heap} {id:Nat} {b:Blk} (h:hp[id]?=some (some b)):hp.set id (some b)=hp:=by
 apply List.ext_getElem?
 intro j
 rw [List.getElem?_set]
 split
 ·rename_i e;subst e
  rw [if_pos (List.getElem?_eq_some_iff.1 h).1,h]
 ·rfl
theorem zxW (ET:EnvTy P E) (hρ:∀ x,RV σ pr w (ρ x) (γ x)) (H:HI w0 own0 σ pr hp w) {sl:Nat} {args:Array Operand} {ts:Array TypeId} {v:AV} {hp':Heap} (h:writeOp E ρ hp sl (.call ⟨.builtin .copy,args,ts⟩)=some (v,hp')) {d t p e g} :
  ∃ val w',(execOp γ ⟨d,.call ⟨.builtin .copy,args,ts⟩,t,p,e,g⟩).run P w=.ok (.value val) w'∧Out w0 own0 σ pr hp w sl v hp' val σ pr w':=by
 simp only [writeOp] at h
 split at h
 case h_2=>simp at h
 rename_i x y tx tr ha hts
 have hargs:args=#[x,y]:=by rw [← Array.toArray_toList (xs:=args),ha]
 subst hargs
 have hx:=hρ x
 have hy:=hρ y
 split at h
 case h_2=>simp at h
 rename_i el _ _ _ _ id sz i c esz len sy hT ex ey
 rw [ex] at hx;rw [ey] at hy
 split at h
 case h_2=>simp at h
 rename_i F k' sz' n' gf k sz0 n f hF hcy hblk
 split at h
 case h_2=>simp at h
 rename_i hk
 simp only [Bool.and_eq_true,ble_t,beq_t,kEq_t] at hk
 obtain ⟨rfl,k1,rfl,k3⟩:=hk
 simp only [Option.some.injEq,Prod.mk.injEq] at h
 obtain ⟨rfl,rfl⟩:=h
 have hx:RS σ pr w (.slice id sz i c sz' len) (γ x):=hx
 have hy:RS σ pr w sy (γ y):=hy
 obtain ⟨ay,capy,csy,vy,ry,my⟩:=zeS H hcy (esz:=sz') (by simp [Cont.ok]) hy
 simp only [Cont.len] at vy ry my
 have hut:=zbj (ET.ty _ _ hT) rfl
 have hz:(sizeOf el).run P w=.ok sz' w:=by rw [← k1];exact zax (ET.ty _ _ hF)
 have hts0:ts[0]?=some tx:=by rw [← Array.getElem?_toList,hts];rfl
 have hfirst:∀ m,m≤n'→(Builtin.firstCells sz' m (.slice ay n' capy)).run P w=.ok (csy.take (m*sz')).toArray w:=by
  intro m hm
  have hle:m*sz'≤csy.length:=by rw [ry.1];exact Nat.mul_le_mul_right _ hm
  rcases my with h0 | ⟨gy,oy,rfl,h2⟩
  ·obtain rfl:m=0:=by omega
   cases ay with
   | none=>simp [Builtin.firstCells]
   | some ad=>exact run_firstCells_some (P:=P) w sz' 0 ad n' capy (csy.take (0*sz')) (by simp) (fun j u hj=>by simp at hj)
  ·exact run_firstCells_some (P:=P) w sz' m _ n' capy (csy.take (m*sz')) (by simp;omega) (fun j u hj=>by
    rw [zgR]
    refine h2 j u ?_
    rw [List.getElem?_take] at hj
    split at hj
    ·exact hj
    ·simp at hj)
 generalize hgx:γ x=gx at hx
 have hlt:id<hp.length:=(List.getElem?_eq_some_iff.1 hblk).1
 cases hx with
 | slice0 =>
  rename_i a
  have hm:n'.min 0=0:=Nat.min_zero n'
  refine ⟨.int .i64 ((Nat.min n' 0:Nat):Int),w,?_,Le.refl _ _ _,?_,RV.of_sc .int,fun _ _ _=>rfl,by simp⟩
  ·have hf:=hfirst 0 (Nat.zero_le _)
   simp only [Nat.zero_mul,List.take_zero] at hf
   cases a <;> simp [execOp,resolve,invoke,builtin,vy,hgx,Builtin.copy_,hts0,run_underlying hut,hz,Builtin.lenOf,hm,hf,storeCells,goInt]
  ·rw [hm,zlY,zrO hblk];exact H
 | slice h1 hf hl hroom =>
  rename_i gg nn cap
  obtain ⟨e1,e2,hB⟩:=zaR H hblk h1
  obtain ⟨cells,Te,fz,q1,q2,q3,q4⟩:=hB.cells rfl
  simp only [Blk.sz,Blk.n] at e1 e2 q3 q4
  subst e1 e2
  have hmn:n'.min len≤n':=Nat.min_le_left _ _
  have hml:n'.min len≤len:=Nat.min_le_right _ _
  generalize hm:n'.min len=m at hmn hml
  have hlen:(csy.take (m*sz')).length=m*sz':=by
   rw [List.length_take,ry.1]
   exact Nat.min_eq_left (Nat.mul_le_mul_right _ hmn)
  have hone:∀ u ∈ csy.take (m*sz'),u.oneCell'=true:=fun u hu=>by
   obtain ⟨kk,hkk⟩:=List.getElem?_of_mem (List.mem_of_mem_take hu)
   have hkl:kk<n'*sz':=by rw [← ry.1];exact (List.getElem?_eq_some_iff.1 hkk).1
   obtain ⟨d1,d2,d3⟩:=divmod hkl
   obtain ⟨z,z1,z2⟩:=ry.2.1 _ d1 _ d2
   rw [← d3,hkk] at z1
   simp only [Option.some.injEq] at z1;subst z1
   exact z2.one
  have hml':=Nat.mul_le_mul_right sz' hml
  have hroom':i*sz+c+m*sz'≤cells.size:=by
   rcases hf with ⟨rfl,rfl,hf⟩ | ⟨hne,hi,hf⟩
   ·have:=Nat.mul_le_mul_right sz' hf
    rw [Nat.add_mul] at this
    omega
   ·have:=zaz (s:=sz) hi
    omega
  have hst:=run_storeCells_cells (P:=P) gg (i*sz+c) (csy.take (m*sz')) 0 w (fun j hj=>by
    rw [hlen] at hj
    rw [zaB q1]
    simp
    omega) (fun j hj=>by
    rw [hlen] at hj
    simp [World.frozen?,q1]
    omega) hone
  simp only [Nat.add_zero] at hst
  have hfi:=hfirst m hmn
  have row:∀ j,j<m→∀ d',d'<sz'→∃ z,(csy.take (m*sz'))[j*sz'+d']?=some z∧RS σ pr w (.int k (gf j d')) z:=by
   intro j hj d' hd'
   obtain ⟨z,z1,z2⟩:=ry.2.1 j (by omega) d' hd'
   have:=zaz (s:=sz') hj
   refine ⟨z,by rw [List.getElem?_take,if_pos (by omega)];exact z1,?_⟩
   exact z2
  have hold:∀ r,r<nn→∀ d',d'<sz→∃ v,cells[r*sz+d']?=some v∧RS σ pr w (.int k (f r d')) v:=by
   intro r hr d' hd'
   exact q4 r hr d' hd'
  have key:∀ r,r<nn→∀ d',d'<sz→∃ v,(if i*sz+c≤r*sz+d'∧r*sz+d'<i*sz+c+(csy.take (m*sz')).length then (csy.take (m*sz'))[r*sz+d' - (i*sz+c)]? else cells[r*sz+d']?)=some v∧RS σ pr w (.int k (copyF sz sz' i c m gf f r d')) v:=by
    intro r hr d' hd'
    rw [hlen]
    unfold copyF
    rcases hf with ⟨rfl,rfl,hf⟩ | ⟨hne,hi,hf⟩
    ·rw [beq_t.2 rfl]
     dsimp only
     by_cases hin:i≤r∧r<i+m
     ·have hA:(Nat.ble i r&&Nat.ble (r+1) (i+m))=true:=by rw [Bool.and_eq_true,ble_t,ble_t];omega
      rw [hA,cond_true]
      have h3:=Nat.mul_le_mul_right sz' hin.1
      have h4:=zaz (s:=sz') hin.2
      rw [Nat.add_mul] at h4
      have h5:(r - i)*sz'=r*sz' - i*sz':=Nat.sub_mul _ _ _
      obtain ⟨z,z1,z2⟩:=row (r - i) (by omega) d' hd'
      refine ⟨z,?_,z2⟩
      split
      ·rw [show r*sz'+d' - (i*sz'+0)=(r - i)*sz'+d' by omega];exact z1
      ·rename_i hno;exact absurd (by omega) hno
     ·have hA:(Nat.ble i r&&Nat.ble (r+1) (i+m))=false:=by
       rw [Bool.and_eq_false_iff,ble_f,ble_f];omega
      rw [hA,cond_false,if_neg]
      ·exact hold r hr d' hd'
      ·rintro ⟨z1,z2⟩
       apply hin
       constructor
       ·rcases Nat.lt_or_ge r i with h' | h'
        ·have:=zaz (s:=sz') h';omega
        ·exact h'
       ·rcases Nat.lt_or_ge r (i+m) with h' | h'
        ·exact h'
        ·have:=Nat.mul_le_mul_right sz' h'
         rw [Nat.add_mul] at this;omega
    ·rw [beq_f.2 hne]
     dsimp only
     by_cases hin:r=i∧c≤d'∧d'<c+m*sz'
     ·have hA:(Nat.beq r i&&(Nat.ble c d'&&Nat.ble (d'+1) (c+m*sz')))=true:=by
       rw [Bool.and_eq_true,Bool.and_eq_true,beq_t,ble_t,ble_t];omega
      rw [hA,cond_true,if_pos ((zdj hd' (by omega)).2 hin)]
      obtain ⟨rfl,z1,z2⟩:=hin
      obtain ⟨d1,d2,d3⟩:=divmod (k:=d' - c) (n:=m) (e:=sz') (by omega)
      rw [show r*sz+d' - (r*sz+c)=d' - c by omega,d3]
      have:=row _ d1 _ d2
      rw [← d3] at this ⊢
      exact this
     ·have hA:(Nat.beq r i&&(Nat.ble c d'&&Nat.ble (d'+1) (c+m*sz')))=false:=by
       rw [Bool.and_eq_false_iff,Bool.and_eq_false_iff,beq_f,ble_f,ble_f];omega
      rw [hA,cond_false,if_neg (fun x=>hin ((zdj hd' (by omega)).1 x))]
      exact hold r hr d' hd'
  obtain ⟨hL,hH⟩:=zg9 H hblk h1 hB (hp.set id (some (.ints k sz nn (copyF sz sz' i c m gf f)))) σ id (.ints k sz nn (copyF sz sz' i c m gf f)) rfl (fun _ _ h=>h) (by simp) hlt h1 (fun _ _=>rfl)
   (fun j c' hj=>by
    rcases zaq hj with ⟨rfl,rfl⟩ | ⟨hne,hj⟩
    ·exact .inl ⟨rfl,rfl⟩
    ·exact .inr ⟨hne,hne,hj⟩)
   q1 (i*sz+c) (csy.take (m*sz')) (by rw [hlen];exact hroom') q3
   (fun r hr d' hd'=>by
    exact key r hr d' hd')
   (fun r hr=>Nat.le_refl _)
  refine ⟨.int .i64 (m:Int),w.setCells gg (i*sz+c) (csy.take (m*sz')),?_,hL,hH,RV.of_sc .int,fun _ _ _=>rfl,by simp⟩
  simp [execOp,resolve,invoke,builtin,vy,hgx,Builtin.copy_,hts0,run_underlying hut,hz,Builtin.lenOf,hm,hfi,hst,goInt]
end
end Go.AM
namespace Go.AM
open Go
section
variable {P:Program} {E:Env} {σ:Sg} {pr:Pr} {w w0:World} {own0:Own} {hp:Heap} {ρ:Operand→AV} {γ:Operand→Value}
def noσ:Sg:=fun _=>none
def prCall (tg:Bool) (σ:Sg) (pr:Pr) (hp:Heap):Pr:=fun t b=>pr t b ∨ (t=tg∧∃ id blk x,hp[id]?=some (some blk)∧σ id=some (b,x))
theorem zaY (g:SV→SV):∀ l:List Seg,lenS (l.map (snapSeg g))=lenS l
 | []=>rfl
 | .ints k n f::r=>by rw [List.map_cons,snapSeg,zai,zai,zaY g r]
 | .one v::r=>by rw [List.map_cons,snapSeg,zap,zap,zaY g r]
theorem zbh {σ':Sg} {pr':Pr} {g:SV→SV} (hg:∀ s v,RS σ pr w s v→RS σ' pr' w (g s) v):∀ (l:List Seg) (c:Nat) (v:Value),c<lenS l→RS σ pr w (cellAt l c) v→RS σ' pr' w (cellAt (l.map (snapSeg g)) c) v
 | [],c,v,h,_=>by simp [lenS] at h
 | .ints k n f::r,c,v,h,hv=>by
  rw [zai] at h
  rw [List.map_cons,snapSeg]
  by_cases hc:c<n
  ·rw [zac hc] at hv ⊢
   rw [RS.int_inv hv];exact .int
  ·rw [zae (by omega) (by rw [zaY];exact h)]
   rw [zae (by omega) h] at hv
   exact zbh hg r _ v (by omega) hv
 | .one x::r,c,v,h,hv=>by
  rw [zap] at h
  rw [List.map_cons,snapSeg]
  cases c with
  | zero=>exact hg _ _ hv
  | succ c=>exact zbh hg r c v (by omega) hv
theorem zil (g:SV→SV):∀ (l:List (IntKind × Nat)) (f:Nat→Int) (o:Nat),(segK l f o).map (snapSeg g)=segK l f o
 | [],f,o=>rfl
 | (k,n)::r,f,o=>by rw [segK,List.map_cons,zil g r];rfl
theorem zoY (g:SV→SV) (el:MEl) (f:Nat→Int):(snapM g el).get f=(el.get f).map (snapSeg g):=by
 cases el with
 | ints kz G=>exact (zil g kz (G f) 0).symm
 | segs get=>rfl
theorem zhs {σ':Sg} {pr':Pr} {g:SV→SV} (hg:∀ s v,RS σ pr w s v→RS σ' pr' w (g s) v) {kd:KD} {ag:Bool} {esz:Nat} {el:MEl} {es:Array MapEntry} (h:MapV σ pr w kd ag esz el.get es):MapV σ' pr' w kd ag esz (snapM g el).get es:=fun i e f h2 h3=>by
 obtain ⟨r1,r2,r3,r4⟩:=h i e f h2 h3
 rw [zoY]
 exact ⟨r1,r2,by rw [zaY];exact r3,by rw [zaY];exact r4.1,fun c x hx=>zbh hg _ _ _ (by rw [← r4.1];exact (List.getElem?_eq_some_iff.1 hx).1) (r4.2 c x hx)⟩
theorem zbz (tg:Bool) (H:HI w0 own0 σ pr hp w):∀ (fuel:Nat) (s:SV) (v:Value),RS σ pr w s v→RS noσ (prCall tg σ pr hp) w (snapSV tg hp fuel s) v
 | 0,s,v,h=>.unk h.one
 | fuel+1,s,v,h=>by
  have ih:=zbz tg H fuel
  have hone:=h.one
  cases s with
  | ptr id sz i c ext =>
   obtain ⟨g,n,rfl,h1,h2,h3,_⟩:=RS.ptr_inv h
   simp only [snapSV]
   split
   ·rename_i k z m f hb
    obtain ⟨e1,e2,hB⟩:=zaR H hb h1
    obtain ⟨cells,T,fz,q1,q2,q3,q4⟩:=hB.cells rfl
    simp only [Blk.sz,Blk.n] at e1 e2
    subst e1 e2
    refine RS.mk_vptr (.inr ⟨rfl,id,_,_,hb,h1⟩) (fun d hd=>?_)
    rw [show lenS [Seg.ints k ext fun d=>f i (d+c)]=ext from rfl] at hd
    obtain ⟨x,x1,x2⟩:=q4 i h2 (c+d) (show c+d<sz by omega)
    refine ⟨x,by rw [zaB q1,Nat.add_assoc];exact x1,?_⟩
    rw [RS.int_inv x2,Nat.add_comm c d];exact .int
   ·rename_i z m row hb
    obtain ⟨e1,e2,hB⟩:=zaR H hb h1
    obtain ⟨cells,T,fz,q1,q2,q3,q4⟩:=hB.cells rfl
    simp only [Blk.sz,Blk.n] at e1 e2
    subst e1 e2
    have hl:=H.lens id _ hb i h2
    simp only [Blk.segs,Blk.sz] at hl
    obtain ⟨c1,c2⟩:=zbg (s:=row i) (off:=c) (m:=ext) (by omega)
    refine RS.mk_vptr (.inr ⟨rfl,id,_,_,hb,h1⟩) (fun d hd=>?_)
    rw [zaY,c1] at hd
    obtain ⟨x,x1,x2⟩:=q4 i h2 (c+d) (show c+d<sz by omega)
    refine ⟨x,by rw [zaB q1,Nat.add_assoc];exact x1,zbh ih _ _ _ (by rw [c1];exact hd) (by rw [c2 d hd];exact x2)⟩
   ·exact .unk hone
  | slice id sz i c esz len =>
   simp only [snapSV]
   split
   ·rename_i k z m f hb
    cases h with
    | slice0=>split <;> exact .vints0
    | slice h1 hf hl hroom =>
     rename_i g n cap
     obtain ⟨e1,e2,hB⟩:=zaR H hb h1
     obtain ⟨cells,T,fz,q1,q2,q3,q4⟩:=hB.cells rfl
     simp only [Blk.sz,Blk.n] at e1 e2
     subst e1 e2
     rcases hf with ⟨rfl,rfl,hf⟩ | ⟨hne,hi,hf⟩
     ·rw [beq_t.2 rfl]
      refine .vints (.inr ⟨rfl,id,_,_,hb,h1⟩) (fun j hj d hd=>?_) hl
      obtain ⟨x,x1,x2⟩:=q4 (i+j) (show i+j<n by omega) d hd
      rw [zaB q1,show i*esz+0+j*esz+d=(i+j)*esz+d by rw [Nat.add_mul];omega]
      have x1':cells[(i+j)*esz+d]?=some x:=x1
      rw [x1',RS.int_inv x2,Nat.add_comm i j];rfl
     ·rw [beq_f.2 hne]
      refine .vints (.inr ⟨rfl,id,_,_,hb,h1⟩) (fun j hj d hd=>?_) hl
      have hle:=zaz (s:=esz) hj
      obtain ⟨x,x1,x2⟩:=q4 i hi (c+j*esz+d) (show c+j*esz+d<sz by omega)
      rw [zaB q1,show i*sz+c+j*esz+d=i*sz+(c+j*esz+d) by omega]
      have x1':cells[i*sz+(c+j*esz+d)]?=some x:=x1
      rw [x1',RS.int_inv x2]
   ·rename_i z m row hb
    cases h with
    | slice0=>split <;> exact .vrows0
    | slice h1 hf hl hroom =>
     rename_i g n cap
     obtain ⟨e1,e2,hB⟩:=zaR H hb h1
     obtain ⟨cells,T,fz,q1,q2,q3,q4⟩:=hB.cells rfl
     simp only [Blk.sz,Blk.n] at e1 e2
     subst e1 e2
     have hlens:=H.lens id _ hb
     rcases hf with ⟨rfl,rfl,hf⟩ | ⟨hne,hi,hf⟩
     ·rw [beq_t.2 rfl]
      have hcut:∀ j,j<len→lenS (cutS (row (j+i)) 0 esz)=esz∧∀ d,d<esz→cellAt (cutS (row (j+i)) 0 esz) d=cellAt (row (i+j)) (0+d):=fun j hj=>by
       rw [Nat.add_comm j i]
       exact zbg (by have:=hlens (i+j) (show i+j<n by omega);simp only [Blk.segs,Blk.sz] at this;omega)
      have key:∀ j,j<len→∀ d,d<esz→∃ x,w.cell? ⟨g,i*esz+0+j*esz+d,none⟩=some x∧RS noσ (prCall tg σ pr hp) w (cellAt ((cutS (row (j+i)) 0 esz).map (snapSeg (snapSV tg hp fuel))) d) x:=fun j hj d hd=>by
       obtain ⟨x,x1,x2⟩:=q4 (i+j) (show i+j<n by omega) d hd
       refine ⟨x,?_,zbh ih _ _ _ (by rw [(hcut j hj).1];exact hd) (by rw [(hcut j hj).2 d hd,Nat.zero_add];exact x2)⟩
       rw [zaB q1,show i*esz+0+j*esz+d=(i+j)*esz+d by rw [Nat.add_mul];omega];exact x1
      refine .vrows (fun j d=>(w.cell? ⟨g,i*esz+0+j*esz+d,none⟩).getD undef) (.inr ⟨rfl,id,_,_,hb,h1⟩) (fun j hj d hd=>?_) (fun j hj d hd=>?_) (fun j hj=>by rw [zaY,(hcut j hj).1];exact Nat.le_refl _) hl
      ·obtain ⟨x,x1,_⟩:=key j hj d hd;rw [x1];rfl
      ·obtain ⟨x,x1,x2⟩:=key j hj d hd;rw [x1];exact x2
     ·rw [beq_f.2 hne]
      have hlen:=hlens i hi
      simp only [Blk.segs,Blk.sz] at hlen
      have hcut:∀ j,j<len→lenS (cutS (row i) (c+j*esz) esz)=esz∧∀ d,d<esz→cellAt (cutS (row i) (c+j*esz) esz) d=cellAt (row i) (c+j*esz+d):=fun j hj =>
       zbg (by have:=zaz (s:=esz) hj;omega)
      have key:∀ j,j<len→∀ d,d<esz→∃ x,w.cell? ⟨g,i*sz+c+j*esz+d,none⟩=some x∧RS noσ (prCall tg σ pr hp) w (cellAt ((cutS (row i) (c+j*esz) esz).map (snapSeg (snapSV tg hp fuel))) d) x:=fun j hj d hd=>by
       have hle:=zaz (s:=esz) hj
       obtain ⟨x,x1,x2⟩:=q4 i hi (c+j*esz+d) (show c+j*esz+d<sz by omega)
       refine ⟨x,?_,zbh ih _ _ _ (by rw [(hcut j hj).1];exact hd) (by rw [(hcut j hj).2 d hd];exact x2)⟩
       rw [zaB q1,show i*sz+c+j*esz+d=i*sz+(c+j*esz+d) by omega];exact x1
      refine .vrows (fun j d=>(w.cell? ⟨g,i*sz+c+j*esz+d,none⟩).getD undef) (.inr ⟨rfl,id,_,_,hb,h1⟩) (fun j hj d hd=>?_) (fun j hj d hd=>?_) (fun j hj=>by rw [zaY,(hcut j hj).1];exact Nat.le_refl _) hl
      ·obtain ⟨x,x1,_⟩:=key j hj d hd;rw [x1];rfl
      ·obtain ⟨x,x1,x2⟩:=key j hj d hd;rw [x1];exact x2
   ·exact .unk hone
  | vptr t segs =>
   obtain ⟨b,off,rfl,h1,h2⟩:=RS.vptr_inv h
   simp only [snapSV]
   refine RS.mk_vptr (.inl h1) (fun c hc=>?_)
   rw [zaY] at hc
   obtain ⟨x,x1,x2⟩:=h2 c hc
   exact ⟨x,x1,zbh ih _ _ _ hc x2⟩
  | vrows t sz len row =>
   simp only [snapSV]
   cases h with
   | vrows0=>exact .vrows0
   | vrows vs h1 h2 h3 hs hl =>
    exact .vrows vs (.inl h1) h2 (fun j hj c hc=>zbh ih _ _ _ (Nat.lt_of_lt_of_le hc (hs j hj)) (h3 j hj c hc)) (fun j hj=>by rw [zaY];exact hs j hj) hl
  | clo f caps =>
   simp only [snapSV]
   obtain ⟨vs,rfl,h1,h2⟩:=RS.clo_inv h
   refine .clo vs (by simpa using h1) (fun i hi=>?_)
   have hi':i<caps.length:=by simpa using hi
   have:=ih _ _ (h2 i hi')
   simp only [List.getD,List.getElem?_map,List.getElem?_eq_getElem hi',Option.map_some,Option.getD_some] at this ⊢
   exact this
  | bnd f segs =>
   simp only [snapSV]
   obtain ⟨cs,rfl,h1⟩:=RS.bnd_inv h
   refine RS.mk_bnd ⟨by rw [zaY];exact h1.1,fun c x hx=>?_⟩
   have hc:c<lenS segs:=by rw [← h1.1];exact (List.getElem?_eq_some_iff.1 hx).1
   exact zbh ih _ _ _ hc (h1.2 c x hx)
  | mapp id =>
   simp only [snapSV]
   split
   ·rename_i kd ag esz cnt has el hb
    cases h with
    | mapp h1 =>
     obtain ⟨e1,e2,hB⟩:=zaR H hb h1
     obtain ⟨es,cl,q1,q2,q3⟩:=hB.maps _ _ _ _ _ _ rfl
     exact RS.mk_vmap (.inr ⟨rfl,id,_,_,hb,h1⟩) q1 q2 (zhs ih q3)
   ·exact .unk hone
  | vmap t kd ag esz cnt has el =>
   simp only [snapSV]
   obtain ⟨b,es,cl,rfl,q0,q1,q2,q3⟩:=h.vmap_inv
   exact RS.mk_vmap (.inl q0) q1 q2 (zhs ih q3)
  | nilm=>cases h;exact .nilm
  | unk=>exact .unk hone
  | int k n=>rw [RS.int_inv h];exact .int
  | bit b=>cases h;exact .bit
  | bool b=>rw [RS.bool_inv h];exact .bool
  | str s=>rw [RS.str_inv h];exact .str
  | nilp=>rw [RS.nilp_inv h];exact .nilp
  | nils=>rw [RS.nils_inv h];exact .nils
  | raw v'=>cases h;exact .raw hone
  | vints t k sz len f =>
   cases h with
   | vints0=>exact .vints0
   | vints h1 h2 hl=>exact .vints (.inl h1) h2 hl
theorem zca (tg:Bool) (H:HI w0 own0 σ pr hp w) {a:AV} {v:Value} (h:RV σ pr w a v):RV noσ (prCall tg σ pr hp) w (snapA tg hp a) v:=by
 cases a with
 | any=>trivial
 | tup l=>trivial
 | sc s=>exact zbz tg H 9 s v h
 | agg s =>
  obtain ⟨cs,rfl,hg⟩:=h
  refine ⟨cs,rfl,by rw [zaY];exact hg.1,fun c v hv=>?_⟩
  exact zbh (zbz tg H 9) _ _ _ (by rw [← hg.1];exact (List.getElem?_eq_some_iff.1 hv).1) (hg.2 c v hv)
end
end Go.AM
namespace Go.AM
open Go Go.RowKit
def ArgsOK (σ:Sg) (pr:Pr) (w:World) (args:List AV) (vs:List Value):Prop :=
 vs.length=args.length∧∀ (i:Nat) (a:AV) (x:Value),args[i]?=some a→vs[i]?=some x→RV σ pr w a x
def Pure (P:Program) (f:FuncId) (args:List AV) (r:AV):Prop :=
 ∀ (pr:Pr) (w:World) (vs:List Value),ArgsOK noσ pr w args vs→(∀ t b,pr t b→b<w.heap.size) →
  (∃ val,(callFunc f vs.toArray).run P w=.ok (.value val) w∧RV noσ (fun _ _=>False) w r val) ∨
  ((callFunc f vs.toArray).run P w=.ok (.enter f vs.toArray) w∧Calls P f vs.toArray w (fun e w'=>∃ val,e=.returned val∧Below w.heap.size w w' ∧
    RV noσ (fun t b=>t=true∧(pr true b ∨ (w.heap.size≤b∧b<w'.heap.size))) w' r val))
def Eff (P:Program) (f:FuncId) (args:List AV) (hp:Heap) (r:AV) (hp':Heap):Prop :=
 ∀ (w0:World) (own0:Own) (σ:Sg) (pr:Pr) (w:World) (vs:List Value),HI w0 own0 σ pr hp w→ArgsOK σ pr w args vs →
  (callFunc f vs.toArray).run P w=.ok (.enter f vs.toArray) w∧Calls P f vs.toArray w (fun e w'=>∃ σ' pr' val,e=.returned val∧Out w0 own0 σ pr hp w hp.length r hp' val σ' pr' w')
def Sub (h0 hp:Heap):Prop:=h0.length=hp.length∧∀ (id:Nat) (b:Blk),h0[id]?=some (some b)→hp[id]?=some (some b)
theorem Sub.refl (hp:Heap):Sub hp hp:=⟨rfl,fun _ _ h=>h⟩
structure EnvOK (P:Program) (E:Env):Prop where
 nones:∀ f O,E.W f=some O→∀ args hp r hp',O args hp=some (r,hp')→∀ (id:Nat),hp[id]?=some none→hp'[id]?=some none
 ty:EnvTy P E
 T:∀ f args r,E.T f args=some r→Pure P f args r
 W:∀ f O,E.W f=some O→∀ args hp r hp',O args hp=some (r,hp')→Eff P f args hp r hp'
section
variable {P:Program} {E:Env} {σ:Sg} {pr:Pr} {w w0:World} {own0:Own} {hp:Heap} {ρ:Operand→AV} {γ:Operand→Value}
def After (P:Program) (w0:World) (own0:Own) (σ:Sg) (pr:Pr) (hp:Heap) (w:World) (sl:Nat) (v:AV) (hp':Heap):Result Next→Prop
 | .ok (.value val) w'=>∃ σ' pr',Out w0 own0 σ pr hp w sl v hp' val σ' pr' w'
 | .ok .skip w'=>∃ σ' pr',Out w0 own0 σ pr hp w sl v hp' undef σ' pr' w'
 | .ok (.enter f args) w'=>Calls P f args w' (fun e w''=>∃ val σ' pr',e=.returned val∧Out w0 own0 σ pr hp w sl v hp' val σ' pr' w'')
 | _=>False
theorem zhU (hρ:∀ x,RV σ pr w (ρ x) (γ x)) (xs:List Operand) {caps:List SV} {vs:List Value} (h1:vs.length=caps.length) (h2:∀ i,i<caps.length→RS σ pr w (caps.getD i .unk) (vs.getD i undef)) :
  ArgsOK σ pr w (xs.map ρ++caps.map .sc) (xs.map γ++vs):=by
 refine ⟨by simp [h1],fun i a x ha hx=>?_⟩
 by_cases hi:i<xs.length
 ·rw [List.getElem?_append_left (by simpa using hi)] at ha hx
  simp [hi] at ha hx
  subst ha hx
  exact hρ _
 ·rw [List.getElem?_append_right (by simp;omega)] at ha hx
  simp only [List.length_map] at ha hx
  have hlt:i - xs.length<caps.length:=by
   have:=(List.getElem?_eq_some_iff.1 ha).1
   simpa using this
  have:=h2 _ hlt
  simp only [List.getD,List.getElem?_eq_getElem hlt,List.getElem?_eq_getElem (show i - xs.length<vs.length by omega),Option.getD_some] at this
  simp only [List.getElem?_map,List.getElem?_eq_getElem hlt,Option.map_some,Option.some.injEq] at ha
  rw [List.getElem?_eq_getElem (show i - xs.length<vs.length by omega)] at hx
  simp only [Option.some.injEq] at hx
  subst ha hx
  exact this
theorem ArgsOK.snap (H:HI w0 own0 σ pr hp w) {args:List AV} {vs:List Value} (h:ArgsOK σ pr w args vs):ArgsOK noσ (prCall false σ pr hp) w (args.map (snapA false hp)) vs:=by
 refine ⟨by simp [h.1],fun i a x ha hx=>?_⟩
 simp only [List.getElem?_map,Option.map_eq_some_iff] at ha
 obtain ⟨a',ha',rfl⟩:=ha
 exact zca false H (h.2 i a' x ha' hx)
theorem HI.sub (H:HI w0 own0 σ pr hp w) {h0:Heap} (hs:Sub h0 hp):HI w0 own0 σ pr h0 w :=
 ⟨fun id h=>H.fresh id (by rw [← hs.1];exact h),fun id b h=>H.blk id b (hs.2 id b h),fun j j' b b' g x x' h1 h2=>H.inj j j' b b' g x x' (hs.2 _ _ h1) (hs.2 _ _ h2),
  fun j b h=>H.lens j b (hs.2 _ _ h),H.ev,H.prlt,H.prnew⟩
theorem zfp (H:HI w0 own0 σ pr hp w) {h0:Heap} (hsub:Sub h0 hp) {f:FuncId} {args:List AV} {vs:List Value} {r:AV} (hP:Pure P f (args.map (snapA false h0)) r) (ha:ArgsOK σ pr w args vs) (sl:Nat) :
  After P w0 own0 σ pr hp w sl r hp ((callFunc f vs.toArray).run P w):=by
 have H0:=H.sub hsub
 have hlt:∀ t b,prCall false σ pr h0 t b→b<w.heap.size:=fun t b h=>by
  rcases h with h | ⟨_,id,blk,x,h1,h2⟩
  ·exact H.prlt t b h
  ·rcases H0.blk id blk h1 with ⟨h3,_⟩ | ⟨g,h3,hB⟩
   ·rw [h3] at h2;cases h2
   ·rw [h3] at h2
    simp only [Option.some.injEq,Prod.mk.injEq] at h2
    rw [← h2.1];exact hB.lt
 rcases hP (prCall false σ pr h0) w vs (ha.snap H0) hlt with ⟨val,h1,h2⟩ | ⟨h1,h2⟩
 ·rw [h1]
  refine ⟨σ,pr,Le.refl _ _ _,H,?_,fun _ _ _=>rfl,Nat.le_refl _⟩
  exact RV.mono ⟨fun _ _ h=>by simp [noσ] at h,fun _ _ h=>h.elim,fun _ _ _=>rfl,fun b cells T fz h=>⟨cells,fz,h,rfl⟩,Nat.le_refl _⟩ h2
 ·rw [h1]
  refine h2.mono fun e w' hq=>?_
  obtain ⟨val,he,hb,hv⟩:=hq
  have hpr':∀ t b,pr t b→w'.heap[b]?=w.heap[b]?:=fun t b h=>hb.block b (H.prlt t b h)
  let pr':Pr:=fun t b=>pr t b ∨ (t=true∧w.heap.size≤b∧b<w'.heap.size)
  have hL:Le σ pr w σ pr' w':=⟨fun _ _ h=>h,fun _ _ h=>.inl h,hpr',fun b cells T fz h=>⟨cells,fz,by rw [hb.block b (zcU h)];exact h,rfl⟩,hb.size⟩
  refine ⟨val,σ,pr',he,hL,⟨H.fresh,fun id b hbk=>?_,H.inj,H.lens,H.ev.step hb.os hb.tape hb.output hb.size (fun b h1 _=>hb.block b (Nat.lt_of_lt_of_le h1 H.ev.size)),fun t b h=>?_,fun t b h=>?_⟩,?_,fun _ _ _=>rfl,Nat.le_refl _⟩
  ·rcases H.blk id b hbk with h | ⟨g,q1,q2⟩
   ·exact .inl h
   ·have hg:=q2.lt
    refine .inr ⟨g,q1,q2.mono hL (fun t h=>?_) (hb.block g hg)⟩
    rcases h with h | ⟨_,h,_⟩
    ·exact q2.free t h
    ·omega
  ·rcases h with h | ⟨_,_,h⟩
   ·exact Nat.lt_of_lt_of_le (H.prlt t b h) hb.size
   ·exact h
  ·rcases h with h | ⟨h1,h2,_⟩
   ·exact H.prnew t b h
   ·exact .inr ⟨h1,.inr (Nat.le_trans H.ev.size h2)⟩
  ·refine RV.mono ⟨fun _ _ h=>by simp [noσ] at h,fun t b h=>?_,fun _ _ _=>rfl,fun b cells T fz h=>⟨cells,fz,h,rfl⟩,Nat.le_refl _⟩ hv
   obtain ⟨rfl,h | h⟩:=h
   ·rcases h with h | ⟨h,_⟩
    ·exact .inl h
    ·cases h
   ·exact .inr ⟨rfl,h⟩
theorem zfK (H:HI w0 own0 σ pr hp w) {f:FuncId} {args:List AV} {vs:List Value} {r:AV} (hP:Pure P f (args.map (snapA false hp)) r) (ha:ArgsOK σ pr w args vs) (sl:Nat) :
  After P w0 own0 σ pr hp w sl r hp ((callFunc f vs.toArray).run P w):=zfp H (Sub.refl hp) hP ha sl
theorem zkv {f x:Operand} {args:Array Operand} {ts:Array TypeId} {fid:FuncId} {vs:List Value} (hf:γ f=.func (.func fid) #[] vs.toArray) {d t p e g} :
  (execOp γ ⟨d,.call ⟨.value f,args,ts⟩,t,p,e,g⟩).run P w=(callFunc fid (args.toList.map γ++vs).toArray).run P w:=by
 have:(args.map γ++vs.toArray)=(args.toList.map γ++vs).toArray:=by
  apply Array.ext';simp
 simp only [execOp,resolve,hf,Deferred.ofValue,Sem.run_bind,Sem.run_pure,Result.andThen_ok,invoke,Array.empty_append,this]
theorem zlK (EO:EnvOK P E) (hρ:∀ x,RV σ pr w (ρ x) (γ x)) (H:HI w0 own0 σ pr hp w) {h0:Heap} (hsub:Sub h0 hp) {f:Operand} {args:Array Operand} {ts:Array TypeId} {v:AV} (h:readOp E ρ h0 (.call ⟨.value f,args,ts⟩)=some v) (sl:Nat) {d t p e g} :
  After P w0 own0 σ pr hp w sl v hp ((execOp γ ⟨d,.call ⟨.value f,args,ts⟩,t,p,e,g⟩).run P w):=by
 have hf:=hρ f
 simp only [readOp] at h
 split at h
 case h_2=>simp at h
 rename_i fid caps hfv
 rw [hfv] at hf
 obtain ⟨vs,ef,l1,l2⟩:=RS.clo_inv hf
 split at h
 ·simp at h
 have hP:=EO.T _ _ _ h
 rw [zkv (x:=f) ef]
 have hargs:=zhU hρ args.toList l1 l2
 have:=zfp H hsub (f:=fid) (args:=args.toList.map ρ++caps.map .sc) (vs:=args.toList.map γ++vs) (r:=v) (by rw [List.map_append,List.map_map,List.map_map];exact hP) hargs sl
 exact this
theorem zoZ {f x:Operand} {args:Array Operand} {ts:Array TypeId} {fid:FuncId} {cs:Array Value} (hf:γ f=.func (.func fid) #[.agg cs] #[]) {d t p e g} :
  (execOp γ ⟨d,.call ⟨.value f,args,ts⟩,t,p,e,g⟩).run P w=(callFunc fid (.agg cs::args.toList.map γ).toArray).run P w:=by
 have:(#[Value.agg cs]++args.map γ++#[])=(.agg cs::args.toList.map γ).toArray:=by
  apply Array.ext';simp
 simp only [execOp,resolve,hf,Deferred.ofValue,Sem.run_bind,Sem.run_pure,Result.andThen_ok,invoke,this]
theorem zjJ (EO:EnvOK P E) (hρ:∀ x,RV σ pr w (ρ x) (γ x)) (H:HI w0 own0 σ pr hp w) {f:Operand} {args:Array Operand} {ts:Array TypeId} {v:AV} {hp':Heap} {sl:Nat} (hsl:sl≤hp.length ∨ True) (h:writeOp E ρ hp sl (.call ⟨.value f,args,ts⟩)=some (v,hp')) {d t p e g} :
  After P w0 own0 σ pr hp w hp.length v hp' ((execOp γ ⟨d,.call ⟨.value f,args,ts⟩,t,p,e,g⟩).run P w):=by
 have hf:=hρ f
 simp only [writeOp] at h
 split at h
 case h_3=>simp at h
 case h_2 =>
  rename_i fid s hfv
  rw [hfv] at hf
  obtain ⟨cs,ef,hg⟩:=RS.bnd_inv hf
  split at h
  case h_2=>simp at h
  rename_i r hr
  simp only [Option.some.injEq,Prod.mk.injEq] at h
  obtain ⟨rfl,rfl⟩:=h
  have hP:=EO.T _ _ _ hr
  rw [zoZ (x:=f) ef]
  refine zfK H (f:=fid) (args:=.agg s::args.toList.map ρ) (vs:=.agg cs::args.toList.map γ) (r:=r) (by rw [List.map_cons,List.map_map];exact hP) ⟨by simp,fun j a x e1 e2=>?_⟩ _
  cases j with
  | zero =>
   simp only [List.getElem?_cons_zero,Option.some.injEq] at e1 e2
   subst e1 e2
   exact RV.of_agg hg
  | succ j =>
   simp only [List.getElem?_cons_succ,List.getElem?_map,Option.map_eq_some_iff] at e1 e2
   obtain ⟨y,y1,rfl⟩:=e1
   obtain ⟨y',y1',rfl⟩:=e2
   rw [y1] at y1'
   simp only [Option.some.injEq] at y1'
   subst y1'
   exact hρ y
 rename_i fid caps hfv
 rw [hfv] at hf
 obtain ⟨vs,ef,l1,l2⟩:=RS.clo_inv hf
 rw [zkv (x:=f) ef]
 have hargs:=zhU hρ args.toList l1 l2
 split at h
 ·rename_i O hO
  obtain ⟨q1,q2⟩:=EO.W _ _ hO _ _ _ _ h w0 own0 σ pr w _ H hargs
  rw [q1]
  refine q2.mono fun e w' hq=>?_
  obtain ⟨σ',pr',val,he,ho⟩:=hq
  exact ⟨val,σ',pr',he,ho⟩
 ·split at h
  ·rename_i r hr
   simp only [Option.some.injEq,Prod.mk.injEq] at h
   obtain ⟨rfl,rfl⟩:=h
   have hP:=EO.T _ _ _ hr
   exact zfK H (f:=fid) (args:=args.toList.map ρ++caps.map .sc) (vs:=args.toList.map γ++vs) (r:=r) (by rw [List.map_append,List.map_map,List.map_map];exact hP) hargs _
  ·simp at h
end
end Go.AM
namespace Go.AM
open Go Go.RowKit
section
variable {P:Program} {E:Env} {σ:Sg} {pr:Pr} {w w0:World} {own0:Own} {hp:Heap} {ρ:Operand→AV} {γ:Operand→Value}
theorem ziS:∀ {a b:List (IntKind × Nat)},kdlEq a b=true→a=b
 | [],[],_=>rfl
 | [],_::_,h=>by simp [kdlEq] at h
 | _::_,[],h=>by simp [kdlEq] at h
 | (k,n)::r,(k',n')::r',h=>by
  simp only [kdlEq,Bool.and_eq_true,kEq_t,beq_t] at h
  obtain ⟨rfl,rfl,h⟩:=h
  rw [ziS h]
theorem znj {a b:KD} (h:kdEq a b=true):a=b:=by
 cases a <;> cases b <;> simp [kdEq] at h
 ·rw [kEq_t.1 h]
 ·rw [ziS h]
theorem ziW:∀ s:List Seg,lenZ s=lenS s
 | []=>rfl
 | .ints k n f::r=>by rw [zai,lenZ,ziW r]
 | .one v::r=>by rw [zap,lenZ,ziW r,Nat.add_comm]
theorem zeZ:∀ {s:List Seg} {l:List (IntKind × Nat)},kdOfZ s=some l→kdSegs l=lenS s
 | [],l,h=>by simp only [kdOfZ,Option.some.injEq] at h;subst h;rfl
 | .one v::r,l,h=>by simp [kdOfZ] at h
 | .ints k n f::r,l,h=>by
  simp only [kdOfZ] at h
  split at h
  ·rename_i l' hl
   simp only [Option.some.injEq] at h;subst h
   rw [zai,kdSegs,zeZ hl]
  ·simp at h
theorem zk8 {K:TI} {q:IntKind} (h:kdOf K=some (.one q)):K.d=.int q:=by
 unfold kdOf at h
 split at h
 ·rename_i k hk
  simp only [Option.some.injEq,KD.one.injEq] at h;rw [hk,h]
 ·split at h
  ·split at h <;> simp at h
  ·simp at h
theorem zdO {K:TI} {l:List (IntKind × Nat)} (h:kdOf K=some (.cells l)):K.d.agg=true∧K.eq=true∧kdSegs l=K.size:=by
 unfold kdOf at h
 split at h
 ·simp at h
 ·split at h
  ·rename_i hc
   simp only [Bool.and_eq_true,beq_t] at hc
   split at h
   ·rename_i l' hl
    simp only [Option.some.injEq,KD.cells.injEq] at h;subst h
    exact ⟨hc.1,hc.2.1,by rw [zeZ hl,← ziW,hc.2.2]⟩
   ·simp at h
  ·simp at h
theorem zfr {k:IntKind} {n:Nat} {r:List (IntKind × Nat)} {c:Nat} (h:c<n):kdKind ((k,n)::r) c=k:=by
 simp only [kdKind]
 rw [ble_t.2 (show c+1≤n from h)]
theorem zfo {k:IntKind} {n:Nat} {r:List (IntKind × Nat)} {c:Nat} (h:n≤c):kdKind ((k,n)::r) c=kdKind r (c - n):=by
 simp only [kdKind]
 rw [ble_f.2 (by omega)]
theorem zd2:∀ {s:List Seg} {l:List (IntKind × Nat)},segKd s l=true→lenS s=kdSegs l∧∀ c,c<kdSegs l→∃ n,cellAt s c=.int (kdKind l c) n
 | [],[],_=>⟨rfl,fun c hc=>by simp [kdSegs] at hc⟩
 | [],_::_,h=>by simp [segKd] at h
 | .one _::_,_,h=>by simp [segKd] at h
 | .ints _ _ _::_,[],h=>by simp [segKd] at h
 | .ints k n f::r,(k',n')::r',h=>by
  simp only [segKd,Bool.and_eq_true,kEq_t,beq_t] at h
  obtain ⟨rfl,rfl,h⟩:=h
  obtain ⟨h1,h2⟩:=zd2 h
  refine ⟨by rw [zai,h1,kdSegs],fun c hc=>?_⟩
  rw [kdSegs] at hc
  by_cases e:c<n
  ·rw [zac e,zfr e];exact ⟨_,rfl⟩
  ·rw [zae (by omega) (by omega),zfo (by omega)]
   exact h2 _ (by omega)
theorem zfJ {kd:KD} {a:AV} {f:Nat→Int} {v:Value} (h:keyOf kd a=some f) (hv:RV σ pr w a v):KeyIs kd f v:=by
 unfold keyOf at h
 split at h
 ·rename_i k n
  split at h
  case h_2=>simp at h
  split at h
  case h_2=>simp at h
  rename_i k' hk
  simp only [Option.some.injEq] at h;subst h
  rw [kEq_t.1 hk] at hv
  exact RS.int_inv hv
 ·rename_i s
  split at h
  case h_2=>simp at h
  rename_i l
  split at h
  case h_2=>simp at h
  rename_i hs
  obtain ⟨q1,q2⟩:=zd2 hs
  obtain ⟨cs,rfl,g1,g2⟩:=hv
  have hsz:cs.size=kdSegs l:=by rw [← q1];simpa using g1
  have key:∀ c,c<kdSegs l→cs[c]?=some (.int (kdKind l c) (svI (cellAt s c))):=fun c hc=>by
   obtain ⟨n,hn⟩:=q2 c hc
   have:=g2 c cs[c] (by simp [show c<cs.size by omega])
   rw [hn] at this ⊢
   rw [Array.getElem?_eq_getElem (by omega),RS.int_inv this];rfl
  split at h
  ·rename_i k n g
   simp only [Option.some.injEq] at h;subst h
   refine ⟨cs,rfl,hsz,fun c hc=>?_⟩
   have hl:lenS [Seg.ints k n g]=n:=rfl
   rw [key c hc,zac (by omega)];rfl
  ·simp only [Option.some.injEq] at h;subst h
   exact ⟨cs,rfl,hsz,key⟩
 ·simp at h
theorem zcg:∀ (l:List (IntKind × Nat)) (f:Nat→Int) (o:Nat),lenS (segK l f o)=kdSegs l∧∀ c,c<kdSegs l→cellAt (segK l f o) c=.int (kdKind l c) (f (o+c))
 | [],f,o=>⟨rfl,fun c hc=>by simp [kdSegs] at hc⟩
 | (k,n)::r,f,o=>by
  obtain ⟨h1,h2⟩:=zcg r f (o+n)
  refine ⟨by rw [segK,zai,h1,kdSegs],fun c hc=>?_⟩
  rw [kdSegs] at hc
  by_cases e:c<n
  ·rw [segK,zac e,zfr e,Nat.add_comm c o]
  ·rw [segK,zae (by omega) (by omega),zfo (by omega),h2 _ (by omega),show o+n+(c - n)=o+c by omega]
theorem zow {σ':Sg} {pr':Pr} {kd:KD} {ag:Bool} {esz:Nat} {el el':MEl} {es:Array MapEntry} (h:MapV σ pr w kd ag esz el.get es) (hl:∀ f,lenS (el'.get f)=lenS (el.get f)∧∀ c,c<lenS (el.get f)→∀ x,RS σ pr w (cellAt (el.get f) c) x→RS σ' pr' w (cellAt (el'.get f) c) x) :
  MapV σ' pr' w kd ag esz el'.get es:=fun i e f h1 h2=>by
 obtain ⟨r1,r2,r3,r4⟩:=h i e f h1 h2
 obtain ⟨l1,l2⟩:=hl f
 exact ⟨r1,r2,by rw [l1];exact r3,by rw [l1];exact r4.1,fun c v hv=>l2 c (by rw [← r4.1];exact (List.getElem?_eq_some_iff.1 hv).1) v (r4.2 c v hv)⟩
theorem zj9 {σ':Sg} {pr':Pr} {w':World} (l:List (IntKind × Nat)) (f:Nat→Int) {c:Nat} (hc:c<lenS (segK l f 0)) {x:Value} (h:RS σ pr w (cellAt (segK l f 0) c) x):RS σ' pr' w' (cellAt (segK l f 0) c) x:=by
 obtain ⟨h1,h2⟩:=zcg l f 0
 rw [h2 c (by omega)] at h ⊢
 rw [RS.int_inv h];exact .int
theorem zfs:∀ (l:List (IntKind × Nat)) (f g:Nat→Int) (o:Nat),∃ r,eqSegs (segK l f o) (segK l g o)=some r∧(r=true ↔ ∀ c,c<kdSegs l→f (o+c)=g (o+c))
 | [],f,g,o=>⟨true,rfl,by simp [kdSegs]⟩
 | (k,n)::r,f,g,o=>by
  obtain ⟨b,h1,h2⟩:=zfs r f g (o+n)
  refine ⟨eqN n (fun j=>f (j+o)) (fun j=>g (j+o))&&b,?_,?_⟩
  ·simp only [segK,eqSegs]
   rw [show (kEq k k&&Nat.beq n n)=true by simp [kEq_t.2 rfl,beq_t.2 rfl],h1]
  ·rw [Bool.and_eq_true,h2]
   unfold eqN
   rw [List.all_eq_true]
   constructor
   ·rintro ⟨q1,q2⟩ c hc
    rw [kdSegs] at hc
    by_cases e:c<n
    ·rw [Nat.add_comm];exact beq_iff_eq.1 (q1 c (by simpa using e))
    ·have:=q2 (c - n) (by omega)
     rwa [show o+n+(c - n)=o+c by omega] at this
   ·intro q
    refine ⟨fun c hc=>beq_iff_eq.2 (by show f (c+o)=g (c+o);rw [Nat.add_comm];exact q c (Nat.lt_of_lt_of_le (List.mem_range.1 hc) (Nat.le_add_right _ _))),fun c hc=>?_⟩
    have:=q (n+c) (by rw [kdSegs];omega)
    rwa [← Nat.add_assoc] at this
theorem KeyIs.seg {l:List (IntKind × Nat)} {f:Nat→Int} {v:Value} (h:KeyIs (.cells l) f v):∃ cs:Array Value,v=.agg cs∧cs.size=kdSegs l∧RG σ pr w (segK l f 0) cs.toList:=by
 obtain ⟨cs,rfl,h1,h2⟩:=h
 obtain ⟨q1,q2⟩:=zcg l f 0
 refine ⟨cs,rfl,h1,by rw [q1];simpa using h1,fun c x hx=>?_⟩
 have hx:cs[c]?=some x:=by simpa using hx
 have hc:c<kdSegs l:=by rw [← h1];exact (Array.getElem?_eq_some_iff.1 hx).1
 rw [h2 c hc] at hx
 simp only [Option.some.injEq] at hx
 rw [q2 c hc,← hx,Nat.zero_add];exact .int
theorem eqK_t {n:Nat} {f g:Nat→Int}:eqK n f g=true ↔ ∀ c,c<n→f c=g c:=by
 unfold eqK
 split
 ·constructor
  ·intro h c hc
   obtain rfl:c=0:=by omega
   exact beq_iff_eq.1 h
  ·exact fun h=>beq_iff_eq.2 (h 0 Nat.one_pos)
 ·rw [List.all_eq_true]
  exact ⟨fun h c hc=>beq_iff_eq.1 (h c (List.mem_range.2 hc)),fun h c hc=>beq_iff_eq.2 (h c (List.mem_range.1 hc))⟩
theorem zj0 {k:TypeId} {K:TI} {q:IntKind} (hK:TyOK P k K) (h:K.d=.int q):P.underlying k=some (.int q):=by
 obtain ⟨d,hd,e⟩:=hK.desc
 rw [h] at e
 cases d <;> simp [tdOf] at e
 rw [hd,e]
theorem zf8 {k:TypeId} {K:TI} {kd:KD} (hK:TyOK P k K) (hkk:TyKey P k K) (hkd:kdOf K=some kd) {f:Nat→Int} {x:Value} (hx:KeyIs kd f x) (em:Bool) (w:World):(Instr.checkKey em 10000 k x).run P w=.ok () w:=by
 cases kd with
 | one q =>
  have hu:=zj0 hK (zk8 hkd)
  have e:x=.int q (f 0):=hx
  rw [show (10000:Nat)=9999+1 from rfl,Instr.checkKey,e]
  simp [run_underlying hu]
 | cells l =>
  obtain ⟨h1,h2,h3⟩:=zdO hkd
  obtain ⟨cs,rfl,e1,e2⟩:=hx
  exact hkk.key h1 h2 em cs w (by rw [e1,h3]) (fun c hc=>⟨_,_,e2 c (by omega)⟩)
theorem zeO {q:IntKind} {a:Int}:∀ (es:List MapEntry) (i:Nat),(∀ e ∈ es,∃ b,e.key=.int q b) →
  (Instr.findNow (.int q) (.int q a) es i=some none∧∀ e ∈ es,e.key≠.int q a) ∨ ∃ j e,Instr.findNow (.int q) (.int q a) es i=some (some (i+j,e.val))∧es[j]?=some e∧e.key=.int q a
 | [],i,_=>.inl ⟨rfl,by simp⟩
 | e::es,i,h=>by
  obtain ⟨b,hb⟩:=h e (by simp)
  by_cases hab:a=b
  ·subst hab
   refine .inr ⟨0,e,?_,rfl,hb⟩
   simp [Instr.findNow,hb,Instr.sameNow]
  ·have hs:Instr.sameNow (.int q) (.int q a) e.key=some false:=by simp [Instr.sameNow,hb,hab]
   rcases zeO (q:=q) (a:=a) es (i+1) (fun e he=>h e (by simp [he])) with ⟨h1,h2⟩ | ⟨j,e',h1,h2,h3⟩
   ·refine .inl ⟨by simp [Instr.findNow,hs,h1],fun e' he'=>?_⟩
    rcases List.mem_cons.1 he' with rfl | he'
    ·rw [hb];intro h;injection h with _ h;exact hab h.symm
    ·exact h2 e' he'
   ·exact .inr ⟨j+1,e',by simp only [Instr.findNow,hs];rw [h1,show i+1+j=i+(j+1) by omega],by simpa using h2,h3⟩
theorem zdC {k:TypeId} {K:TI} {l:List (IntKind × Nat)} (hK:TyOK P k K) (hkd:kdOf K=some (.cells l)) (w:World) {f:Nat→Int} {x:Value} (hx:KeyIs (.cells l) f x):∀ (es:List MapEntry) (i:Nat),(∀ e ∈ es,∃ g,KeyIs (.cells l) g e.key) →
  ((Instr.findAsking k x es i).run P w=.ok none w∧∀ e ∈ es,¬ KeyIs (.cells l) f e.key) ∨ ∃ j e,(Instr.findAsking k x es i).run P w=.ok (some (i+j,e.val)) w∧es[j]?=some e∧KeyIs (.cells l) f e.key
 | [],i,_=>.inl ⟨rfl,by simp⟩
 | e::es,i,h=>by
  obtain ⟨h1,h2,h3⟩:=zdO hkd
  obtain ⟨g,hg⟩:=h e (by simp)
  obtain ⟨cs,ex,c1,c2⟩:=hx.seg (σ:=fun _=>none) (pr:=fun _ _=>False) (w:=w)
  obtain ⟨ds,ey,d1,d2⟩:=hg.seg (σ:=fun _=>none) (pr:=fun _ _=>False) (w:=w)
  obtain ⟨r,r1,r2⟩:=zfs l f g 0
  have heq:(Op.equal k x e.key).run P w=.ok r w:=by
   rw [ex,ey]
   exact (hK.eq h2 _ _ cs ds w r ⟨_,_,c2,d2⟩ (by rw [(zcg l f 0).1,h3]) r1).2
  cases r with
  | true =>
   refine .inr ⟨0,e,?_,rfl,hg.congr fun c hc=>?_⟩
   ·simp only [Instr.findAsking,Sem.run_bind,heq,Result.andThen_ok,if_true];rfl
   ·have:=r2.1 rfl c hc
    rw [Nat.zero_add] at this;exact this.symm
  | false =>
   rcases zdC hK hkd w hx es (i+1) (fun e he=>h e (by simp [he])) with ⟨q1,q2⟩ | ⟨j,e',q1,q2,q3⟩
   ·refine .inl ⟨by simp only [Instr.findAsking,Sem.run_bind,heq,Result.andThen_ok];exact q1,fun e' he'=>?_⟩
    rcases List.mem_cons.1 he' with rfl | he'
    ·intro hf
     have:=r2.2 fun c hc=>by rw [Nat.zero_add];exact hf.nums hg c hc
     cases this
    ·exact q2 e' he'
   ·refine .inr ⟨j+1,e',?_,by simpa using q2,q3⟩
    simp only [Instr.findAsking,Sem.run_bind,heq,Result.andThen_ok]
    rw [show i+(j+1)=i+1+j by omega];exact q1
theorem zhW {k:TypeId} {K:TI} {kd:KD} (hK:TyOK P k K) (hkd:kdOf K=some kd) (w:World) {f:Nat→Int} {x:Value} (hx:KeyIs kd f x) (es:List MapEntry) (h:∀ e ∈ es,∃ g,KeyIs kd g e.key) :
  ((Instr.findKey k x es).run P w=.ok none w∧∀ e ∈ es,¬ KeyIs kd f e.key) ∨ ∃ j e,(Instr.findKey k x es).run P w=.ok (some (j,e.val)) w∧es[j]?=some e∧KeyIs kd f e.key:=by
 cases kd with
 | one q =>
  have hu:=zj0 hK (zk8 hkd)
  have ex:x=.int q (f 0):=hx
  rcases zeO (q:=q) (a:=f 0) es 0 (fun e he=>let ⟨g,hg⟩:=h e he;⟨g 0,hg⟩) with ⟨h1,h2⟩ | ⟨j,e,h1,h2,h3⟩
  ·exact .inl ⟨by rw [ex];simp [Instr.findKey,run_underlying hu,h1],h2⟩
  ·exact .inr ⟨j,e,by rw [ex];simp [Instr.findKey,run_underlying hu,h1],h2,h3⟩
 | cells l =>
  obtain ⟨h1,h2,h3⟩:=zdO hkd
  obtain ⟨d,hd,ed⟩:=hK.desc
  obtain ⟨cs,ex,_⟩:=id hx
  cases es with
  | nil=>exact .inl ⟨by simp [Instr.findKey,run_underlying hd,Instr.findNow],by simp⟩
  | cons e r =>
   have hn:Instr.findNow d x (e::r) 0=none:=by
    have:Instr.sameNow d x e.key=none:=by
     rw [ex]
     rw [ed,zeC] at h1
     cases d <;> simp at h1 <;> rfl
    simp [Instr.findNow,this]
   have hrun:(Instr.findKey k x (e::r)).run P w=(Instr.findAsking k x (e::r) 0).run P w:=by
    simp [Instr.findKey,run_underlying hd,hn]
   rw [hrun]
   rcases zdC hK hkd w hx (e::r) 0 h with q | ⟨j,e',q1,q2,q3⟩
   ·exact .inl q
   ·exact .inr ⟨j,e',by rw [q1,Nat.zero_add],q2,q3⟩
theorem zdK (ET:EnvTy P E) {t:TypeId} {kd:KD} {F:TI} (h:mapTy E.ty t=some (kd,F)):∃ k e K,P.underlying t=some (.map k e)∧TyOK P k K∧TyKey P k K∧kdOf K=some kd∧TyOK P e F∧TyKey P e F:=by
 unfold mapTy at h
 split at h
 case h_2=>simp at h
 rename_i k e _ _ _ _ hT
 split at h
 case h_2=>simp at h
 rename_i K F' hK hF
 split at h
 case h_2=>simp at h
 rename_i kd' hkd
 simp only [Option.some.injEq,Prod.mk.injEq] at h
 obtain ⟨rfl,rfl⟩:=h
 obtain ⟨d,hd,ed⟩:=(ET.ty _ _ hT).desc
 have:d=.map k e:=by cases d <;> simp [tdOf] at ed;rw [ed.1,ed.2]
 subst this
 exact ⟨k,e,K,hd,ET.ty _ _ hK,ET.key _ _ hK,hkd,ET.ty _ _ hF,ET.key _ _ hF⟩
theorem zl7 {t k e:TypeId} {K F:TI} {kd:KD} (hu:P.underlying t=some (.map k e)) (hK:TyOK P k K) (hkk:TyKey P k K) (hkd:kdOf K=some kd) (hF:TyOK P e F) {mv:Value} {es:Array MapEntry}
  (hes:(mv=.map none∧es=#[]) ∨ ∃ r clock,mv=.map (some r)∧w.heap[r]?=some (.map es clock)) (hk:∀ (i:Nat) (e:MapEntry),es[i]?=some e→∃ f,KeyIs kd f e.key) {f:Nat→Int} {x:Value} (hx:KeyIs kd f x) (ok:Bool) :
  (∃ z,(zeroValue e).run P w=.ok z w∧(∀ σ pr w,RG σ pr w F.zero z.cells.toList)∧(Instr.lookup t mv x ok).run P w=.ok (if ok then .tuple #[z,.bool false] else z) w∧∀ (i:Nat) (en:MapEntry),es[i]?=some en→¬ KeyIs kd f en.key) ∨
  ∃ (j:Nat) (en:MapEntry),es[j]?=some en∧KeyIs kd f en.key∧(Instr.lookup t mv x ok).run P w=.ok (if ok then .tuple #[en.val,.bool true] else en.val) w:=by
 have hck:=zf8 hK hkk hkd hx es.isEmpty w
 have hk':∀ e ∈ es.toList,∃ g,KeyIs kd g e.key:=fun e he=>by
  obtain ⟨i,hi⟩:=List.getElem?_of_mem he
  exact hk i e (by simpa using hi)
 rcases zhW hK hkd w hx es.toList hk' with ⟨h1,h2⟩ | ⟨j,en,h1,h2,h3⟩
 ·obtain ⟨z,hz,hzr⟩:=zcf (w:=w) hF
  refine .inl ⟨z,hz,hzr,?_,fun i en hi=>h2 en (by have:=List.mem_of_getElem? (l:=es.toList) (i:=i) (a:=en) (by simpa using hi);exact this)⟩
  rcases hes with ⟨rfl,rfl⟩ | ⟨r,cl,rfl,hr⟩
  ·simp only [Instr.lookup,Sem.run_bind,run_underlying hu,Result.andThen_ok,Sem.run_pure,hck,h1,hz]
  ·simp only [Instr.lookup,Sem.run_bind,run_underlying hu,Result.andThen_ok,MapKept.run_getObj_map hr,Sem.run_pure,hck,h1,hz]
 ·refine .inr ⟨j,en,by simpa using h2,h3,?_⟩
  rcases hes with ⟨rfl,rfl⟩ | ⟨r,cl,rfl,hr⟩
  ·simp at h2
  ·simp only [Instr.lookup,Sem.run_bind,run_underlying hu,Result.andThen_ok,MapKept.run_getObj_map hr,Sem.run_pure,hck,h1]
theorem zcL:∀ {g z:List Seg},kindS g z=true→lenS g=lenS z∧∀ (c off:Nat) (G:List Seg),c<lenS z→(∀ d,d<lenS g→cellAt G (off+d)=cellAt g d)→cellAt (mergeS true G z off) c=cellAt g c
 | [],[],_=>⟨rfl,fun c off G hc=>by simp [lenS] at hc⟩
 | [],.ints ..::_,h=>by simp [kindS] at h
 | [],.one _::_,h=>by simp [kindS] at h
 | .ints ..::_,[],h=>by simp [kindS] at h
 | .one _::_,[],h=>by simp [kindS] at h
 | .ints ..::_,.one _::_,h=>by simp [kindS] at h
 | .one _::_,.ints ..::_,h=>by simp [kindS] at h
 | .ints k n f::r,.ints k' n' z::r',h=>by
  simp only [kindS,Bool.and_eq_true,kEq_t,beq_t] at h
  obtain ⟨rfl,rfl,h⟩:=h
  obtain ⟨h1,h2⟩:=zcL h
  refine ⟨by rw [zai,zai,h1],fun c off G hc hG=>?_⟩
  rw [zai] at hc hG
  have hml:lenS (mergeS true G r' (off+n))=lenS r':=lenS_merge _ _ _ _
  by_cases e:c<n
  ·rw [mergeS,zac e,zac e]
   have:=hG c (by omega)
   rw [zac e] at this
   simp only [cond_true,Nat.add_comm c off,this];rfl
  ·rw [mergeS,zae (by omega) (by omega),zae (by omega) (by omega)]
   refine h2 _ _ G (by omega) fun d hd=>?_
   have:=hG (n+d) (by omega)
   rw [zae (by omega) (by omega),← Nat.add_assoc,show n+d - n=d by omega] at this
   exact this
 | .one v::r,.one z::r',h=>by
  simp only [kindS] at h
  obtain ⟨h1,h2⟩:=zcL h
  refine ⟨by rw [zap,zap,h1],fun c off G hc hG=>?_⟩
  rw [zap] at hc hG
  cases c with
  | zero =>
   have:=hG 0 (by omega)
   rw [mergeS,zbm,zbm]
   rw [zbm,Nat.add_zero] at this
   exact this
  | succ c =>
   rw [mergeS,zag,zag]
   refine h2 _ _ G (by omega) fun d hd=>?_
   have:=hG (1+d) (by omega)
   rw [Nat.add_comm 1 d,zag,show off+(d+1)=off+1+d by omega] at this
   exact this
where lenS_merge (b:Bool) (g:List Seg):∀ (z:List Seg) (off:Nat),lenS (mergeS b g z off)=lenS z
 | [],off=>rfl
 | .ints k n z::r,off=>by rw [mergeS,zai,zai,lenS_merge b g r]
 | .one z::r,off=>by rw [mergeS,zap,zap,lenS_merge b g r]
theorem ze4 (b:Bool) (g z:List Seg) (off:Nat):lenS (mergeS b g z off)=lenS z:=zcL.lenS_merge b g z off
theorem zjs (g:List Seg):∀ (z:List Seg) (off c:Nat),c<lenS z→cellAt (mergeS false g z off) c=cellAt z c
 | [],off,c,hc=>by simp [lenS] at hc
 | .ints k n z::r,off,c,hc=>by
  have hml:=ze4 false g r (off+n)
  rw [zai] at hc
  by_cases e:c<n
  ·rw [mergeS,zac e,zac e];rfl
  ·rw [mergeS,zae (by omega) (by omega),zae (by omega) (by omega)]
   exact zjs g r _ _ (by omega)
 | .one z::r,off,c,hc=>by
  rw [zap] at hc
  cases c with
  | zero=>rfl
  | succ c=>rw [mergeS,zag,zag];exact zjs g r _ _ (by omega)
theorem znu {e:TypeId} {F:TI} (hF:TyOK P e F) (hkF:TyKey P e F) (hz0:lenS F.zero=F.size) (g:List Seg) {z:Value} (hz:(zeroValue e).run P w=.ok z w) (hzr:RG σ pr w F.zero z.cells.toList):lookV F false g≠.any→RW σ pr w (lookV F false g) z:=by
 intro hne
 obtain ⟨q1,q2⟩:=hkF.zero w z hz
 unfold lookV at hne ⊢
 cases ha:F.d.agg with
 | true =>
  obtain ⟨cs,rfl⟩:=q1 ha
  exact ⟨cs,rfl,by rw [ze4];exact hzr.1,fun c v hv=>by
   rw [zjs _ _ _ _ (by rw [← hzr.1];exact (List.getElem?_eq_some_iff.1 hv).1)]
   exact hzr.2 c v hv⟩
 | false =>
  have h1:=q2 ha
  rw [ha] at hne
  have hc:z.cells=#[z]:=by cases z <;> simp [Value.oneCell'] at h1 <;> rfl
  rw [hc] at hzr
  have h0:=hzr.2 0 z rfl
  simp only [] at hne ⊢
  split
  ·rename_i k n f heq
   rw [heq] at h0 hzr
   have hl:=hzr.1
   simp [lenS] at hl
   subst hl
   rw [zac Nat.one_pos] at h0
   exact h0
  ·rename_i u heq
   rw [heq] at h0
   exact h0
  ·rename_i h1 h2
   split at hne
   ·rename_i heq;exact absurd heq (h1 _ _ _)
   ·rename_i heq;exact absurd heq (h2 _)
   ·exact absurd rfl hne
theorem zl1 {e:TypeId} {F:TI} (hF:TyOK P e F) (hz0:lenS F.zero=F.size) {g:List Seg} {v:Value} (hk:kindS g F.zero=true) (h1:F.d.agg=true→∃ cs:Array Value,v=.agg cs) (h2:F.d.agg=false→v.oneCell'=true) (hr:RG σ pr w g v.cells.toList) :
  lookV F true g≠.any→RW σ pr w (lookV F true g) v:=by
 intro hne
 obtain ⟨k1,k2⟩:=zcL hk
 unfold lookV at hne ⊢
 cases ha:F.d.agg with
 | true =>
  obtain ⟨cs,rfl⟩:=h1 ha
  exact ⟨cs,rfl,by rw [ze4,← k1];exact hr.1,fun c v hv=>by
   rw [k2 c 0 g (by rw [← k1,← hr.1];exact (List.getElem?_eq_some_iff.1 hv).1) (fun d _=>by rw [Nat.zero_add])]
   exact hr.2 c v hv⟩
 | false =>
  have h1:=h2 ha
  rw [ha] at hne
  have hc:v.cells=#[v]:=by cases v <;> simp [Value.oneCell'] at h1 <;> rfl
  rw [hc] at hr
  have h0:=hr.2 0 v rfl
  simp only [] at hne ⊢
  split
  ·rename_i k n f heq
   rw [heq] at hk
   cases g with
   | nil=>simp [kindS] at hk
   | cons a r =>
    cases a with
    | one u=>simp [kindS] at hk
    | ints k' n' f' =>
     simp only [kindS,Bool.and_eq_true,kEq_t,beq_t] at hk
     obtain ⟨rfl,rfl,hk⟩:=hk
     have hl:=hr.1
     have:r=[]:=by cases r <;> first | rfl | (rename_i a b;cases a <;> simp [kindS] at hk)
     subst this
     simp [lenS] at hl
     subst hl
     rw [zac Nat.one_pos] at h0
     show RS σ pr w (.int k' (bif true then svI (cellAt [Seg.ints k' 1 f'] 0) else _)) v
     rw [zac Nat.one_pos]
     exact h0
  ·exact h0
  ·rename_i h1 h2
   split at hne
   ·rename_i heq;exact absurd heq (h1 _ _ _)
   ·rename_i heq;exact absurd heq (h2 _)
   ·exact absurd rfl hne
theorem ze2 {F:TI} (h:lookOK F=true) (b:Bool) (g:List Seg):lookV F b g≠.any:=by
 unfold lookOK at h
 unfold lookV
 cases ha:F.d.agg with
 | true=>simp
 | false =>
  rw [ha] at h
  simp only [Bool.false_or] at h
  split at h <;> rename_i heq
  ·rw [heq];simp
  ·rw [heq];simp
  ·cases h
theorem RW.bool {b:Bool}:RW σ pr w (.sc (.bool b)) (.bool b):=RS.bool
theorem zd5:∀ {s:List Seg} {l:List (IntKind × Nat)},kdOfZ s=some l→∀ (b:Bool) (g:Nat→Int) (off:Nat),lenS (mergeI b g s off)=lenS s∧∀ c,c<lenS s→cellAt (mergeI b g s off) c=bif b then .int (kdKind l c) (g (off+c)) else cellAt s c
 | [],l,h,b,g,off=>⟨rfl,fun c hc=>by simp [lenS] at hc⟩
 | .one v::r,l,h,b,g,off=>by simp [kdOfZ] at h
 | .ints k n z::r,l,h,b,g,off=>by
  simp only [kdOfZ] at h
  split at h
  case h_2=>simp at h
  rename_i l' hl
  simp only [Option.some.injEq] at h;subst h
  obtain ⟨q1,q2⟩:=zd5 hl b g (off+n)
  refine ⟨by rw [mergeI,zai,zai,q1],fun c hc=>?_⟩
  rw [zai] at hc
  by_cases e:c<n
  ·rw [mergeI,zac e,zac e,zfr e,Nat.add_comm off c]
   cases b <;> rfl
  ·rw [mergeI,zae (by omega) (by omega),zae (by omega) (by omega),zfo (by omega),q2 _ (by omega),show off+n+(c - n)=off+c by omega]
theorem zkK {F:TI} {l:List (IntKind × Nat)} (hl:kdOfZ F.zero=some l) (ok:lookOK F=true) {b:Bool} {g:Nat→Int} {v:Value} (h1:F.d.agg=true→∃ cs:Array Value,v=.agg cs) (h2:F.d.agg=false→v.oneCell'=true)
  (ht:b=true→RG σ pr w (segK l g 0) v.cells.toList) (hf:b=false→RG σ pr w F.zero v.cells.toList):RW σ pr w (lookI F b g) v:=by
 have hz:=zeZ hl
 have hall:v.cells.toList.length=lenS F.zero∧∀ (c:Nat) (x:Value),v.cells.toList[c]?=some x→RS σ pr w (cellAt (mergeI b g F.zero 0) c) x:=by
  obtain ⟨m1,m2⟩:=zd5 hl b g 0
  cases b with
  | true =>
   obtain ⟨r1,r2⟩:=ht rfl
   obtain ⟨s1,s2⟩:=zcg l g 0
   refine ⟨by rw [r1,s1,hz],fun c x hx=>?_⟩
   have hc:c<lenS F.zero:=by rw [← hz,← s1,← r1];exact (List.getElem?_eq_some_iff.1 hx).1
   have:=r2 c x hx
   rw [s2 c (by rw [hz];exact hc)] at this
   rw [m2 c hc];exact this
  | false =>
   obtain ⟨r1,r2⟩:=hf rfl
   refine ⟨r1,fun c x hx=>?_⟩
   have hc:c<lenS F.zero:=by rw [← r1];exact (List.getElem?_eq_some_iff.1 hx).1
   rw [m2 c hc];exact r2 c x hx
 unfold lookI
 unfold lookOK at ok
 cases ha:F.d.agg with
 | true =>
  obtain ⟨cs,rfl⟩:=h1 ha
  exact ⟨cs,rfl,by rw [(zd5 hl b g 0).1];exact hall.1,hall.2⟩
 | false =>
  have hc:v.cells=#[v]:=by have:=h2 ha;cases v <;> simp [Value.oneCell'] at this <;> rfl
  rw [hc] at hall
  have h0:=hall.2 0 v rfl
  have hlen:=hall.1
  rw [ha] at ok
  simp only [Bool.false_or] at ok
  split at ok
  ·rename_i k n z heq
   rw [heq] at h0 hlen ⊢
   simp [lenS] at hlen
   subst hlen
   have h0:RS σ pr w (cellAt [Seg.ints k 1 (fun j=>bif b then g (j+0) else z j)] 0) v:=h0
   rw [zac Nat.one_pos] at h0
   exact h0
  ·rename_i z heq
   rw [heq] at hl;simp [kdOfZ] at hl
  ·cases ok
theorem zrp (ET:EnvTy P E) (hρ:∀ x,RV σ pr w (ρ x) (γ x)) (H:HI w0 own0 σ pr hp w) {ty:TypeId} {m x:Operand} {ok:Bool} {v:AV} (h:readOp E ρ hp (.lookup ty m x ok)=some v) {d t p e g}:Yld P σ pr w γ ⟨d,.lookup ty m x ok,t,p,e,g⟩ v:=by
 have hm:=hρ m
 have hx:=hρ x
 simp only [readOp] at h
 split at h
 case h_2=>simp at h
 rename_i kd F hT
 split at h
 case h_2=>simp at h
 rename_i s f hs hf
 split at h
 case h_2=>simp at h
 rename_i has el hmap
 split at h
 case h_2=>simp at h
 rename_i v0 hlook
 simp only [Option.some.injEq] at h;subst h
 rw [hs] at hm
 obtain ⟨k,tel,K,hu,hK,hkk,hkd,hF,hkF⟩:=zdK ET hT
 have hkey:=zfJ hf hx
 -- what the map is
 obtain ⟨es,hes,hkeys,hthere,hnot⟩:∃ es:Array MapEntry,((γ m=.map none∧es=#[]) ∨ ∃ r clock,γ m=.map (some r)∧w.heap[r]?=some (.map es clock))∧(∀ (i:Nat) (e:MapEntry),es[i]?=some e→∃ f,KeyIs kd f e.key) ∧
   (∀ (i:Nat) (e:MapEntry) (f:Nat→Int),es[i]?=some e→KeyIs kd f e.key→has f=true∧(F.d.agg=true→∃ cs:Array Value,e.val=.agg cs)∧(F.d.agg=false→e.val.oneCell'=true)∧RG σ pr w (el.get f) e.val.cells.toList) ∧
   (∀ f,has f=true→∃ (i:Nat) (e:MapEntry),es[i]?=some e∧KeyIs kd f e.key):=by
  have hm:RS σ pr w s (γ m):=hm
  unfold mapOf at hmap
  split at hmap
  ·simp only [Option.some.injEq,Prod.mk.injEq] at hmap
   obtain ⟨rfl,rfl⟩:=hmap
   generalize γ m=mv at hm
   cases hm
   exact ⟨#[],.inl ⟨rfl,rfl⟩,fun i e h=>by simp at h,fun i e f h=>by simp at h,fun f h=>by simp at h⟩
  ·split at hmap
   case h_2=>simp at hmap
   rename_i kd' ag' esz' cnt has' get' hq
   simp only [Bool.and_eq_true,beq_t,beq_iff_eq] at hq
   obtain ⟨q1,q2,q3⟩:=hq
   have:=znj q1
   subst this
   simp only [Option.some.injEq,Prod.mk.injEq] at hmap
   obtain ⟨rfl,rfl⟩:=hmap
   obtain ⟨b,es,cl,e1,_,e2,e3,e4⟩:=hm.vmap_inv
   exact ⟨es,.inr ⟨b,cl,e1,e2⟩,e3.keys,fun i e f h1 h2=>let ⟨r1,r2,r3,r4⟩:=e4 i e f h1 h2;⟨e3.out i e f h1 h2,by rw [q2];exact r1,by rw [q2];exact r2,r4⟩,e3.inn⟩
  ·split at hmap
   case h_2=>simp at hmap
   rename_i id _ kd' ag' esz' cnt has' get' hb
   split at hmap
   case h_2=>simp at hmap
   rename_i hq
   simp only [Bool.and_eq_true,beq_t,beq_iff_eq] at hq
   obtain ⟨q1,q2,q3⟩:=hq
   have:=znj q1
   subst this
   simp only [Option.some.injEq,Prod.mk.injEq] at hmap
   obtain ⟨rfl,rfl⟩:=hmap
   generalize γ m=mv at hm
   cases hm with
   | mapp h1 =>
    obtain ⟨_,_,hB⟩:=zaR H hb h1
    obtain ⟨es,cl,e2,e3,e4⟩:=hB.maps _ _ _ _ _ _ rfl
    exact ⟨es,.inr ⟨_,cl,rfl,e2⟩,e3.keys,fun i e f h1 h2=>let ⟨r1,r2,r3,r4⟩:=e4 i e f h1 h2;⟨e3.out i e f h1 h2,by rw [q2];exact r1,by rw [q2];exact r2,r4⟩,e3.inn⟩
  ·simp at hmap
 have hrunOp:∀ r:Value,(Instr.lookup ty (γ m) (γ x) ok).run P w=.ok r w→(execOp γ ⟨d,.lookup ty m x ok,t,p,e,g⟩).run P w=.ok (.value r) w:=fun r hr=>by
  simp only [execOp,Sem.run_bind,hr,Result.andThen_ok];rfl
 have fin:∀ (a:AV) (y:Value) (b:Bool),RW σ pr w a y→RV σ pr w (lookR ok b a) (if ok then .tuple #[y,.bool b] else y):=fun a y b hv=>by
  cases ok with
  | false=>exact RV.of_rw hv
  | true =>
   refine ⟨[y,.bool b],rfl,rfl,fun i a' y' ha hy=>?_⟩
   cases i with
   | zero =>
    simp only [List.getElem?_cons_zero,Option.some.injEq] at ha hy
    subst ha hy;exact hv
   | succ i =>
    cases i with
    | zero =>
     simp only [List.getElem?_cons_succ,List.getElem?_cons_zero,Option.some.injEq] at ha hy
     subst ha hy;exact RW.bool
    | succ i=>simp at ha
 -- what is told of it
 obtain ⟨a,rfl,hz0,hthere',hzero'⟩:∃ a,v0=lookR ok (has f) a∧lenS F.zero=F.size ∧
   (∀ y:Value,has f=true→(F.d.agg=true→∃ cs:Array Value,y=.agg cs)→(F.d.agg=false→y.oneCell'=true)→RG σ pr w (el.get f) y.cells.toList→RW σ pr w a y) ∧
   (∀ y:Value,has f=false→(zeroValue tel).run P w=.ok y w→RG σ pr w F.zero y.cells.toList→RW σ pr w a y):=by
  unfold lookM at hlook
  split at hlook
  ·rename_i kz G
   split at hlook
   case h_2=>simp at hlook
   rename_i l hl
   split at hlook
   case h_2=>simp at hlook
   rename_i hc
   simp only [Bool.and_eq_true,beq_t] at hc
   obtain ⟨c1,c2,c3⟩:=hc
   have:=ziS c1
   subst this
   simp only [Option.some.injEq,Prod.mk.injEq,true_and] at hlook
   refine ⟨_,hlook.symm,c2,fun y hb h1 h2 hr=>zkK hl c3 h1 h2 (fun _=>hr) (fun h=>by rw [hb] at h;cases h),fun y hb hz hr=>?_⟩
   obtain ⟨z1,z2⟩:=hkF.zero w y hz
   exact zkK hl c3 z1 z2 (fun h=>by rw [hb] at h;cases h) (fun _=>hr)
  ·rename_i get
   split at hlook
   case h_2=>simp at hlook
   rename_i hc
   simp only [Bool.and_eq_true,beq_t] at hc
   obtain ⟨c1,c2⟩:=hc
   simp only [Option.some.injEq,Prod.mk.injEq] at hlook
   obtain ⟨c3,hlook⟩:=hlook
   refine ⟨_,hlook.symm,c1,fun y hb h1 h2 hr=>?_,fun y hb hz hr=>?_⟩
   ·rw [hb] at c3 ⊢
    exact zl1 hF c1 c3 h1 h2 hr (ze2 c2 _ _)
   ·rw [hb]
    exact znu hF hkF c1 (get f) hz hr (ze2 c2 _ _)
 rcases zl7 (w:=w) hu hK hkk hkd hF hes hkeys hkey ok with ⟨z,hz,hzr,hrun,hno⟩ | ⟨j,en,h1,h2,hrun⟩
 ·have hb:has f=false:=by
   cases hh:has f with
   | false=>rfl
   | true =>
    obtain ⟨i,e,q1,q2⟩:=hnot f hh
    exact absurd q2 (hno i e q1)
  have:=fin a z (has f) (hzero' z hb hz (hzr σ pr w))
  rw [hb] at this
  refine ⟨_,hrunOp _ hrun,?_⟩
  rw [hb];exact this
 ·obtain ⟨hb,r1,r2,r4⟩:=hthere j en f h1 h2
  have:=fin a en.val (has f) (hthere' en.val hb r1 r2 r4)
  rw [hb] at this
  refine ⟨_,hrunOp _ hrun,?_⟩
  rw [hb];exact this
theorem zpP (ET:EnvTy P E) (hρ:∀ x,RV σ pr w (ρ x) (γ x)) (H:HI w0 own0 σ pr hp w) {args:Array Operand} {ts:Array TypeId} {v:AV} (h:readOp E ρ hp (.call ⟨.builtin .len,args,ts⟩)=some v) {d t p e g}:Yld P σ pr w γ ⟨d,.call ⟨.builtin .len,args,ts⟩,t,p,e,g⟩ v:=by
 simp only [readOp] at h
 split at h
 case h_2=>simp at h
 rename_i x tt hargs hts
 have hargs:args=#[x]:=by cases args;simp_all
 have hts:ts=#[tt]:=by cases ts;simp_all
 subst hargs hts
 split at h
 case h_2=>simp at h
 rename_i kdF s hT hs
 obtain ⟨kd,F⟩:=kdF
 split at h
 case h_2=>simp at h
 rename_i n hn
 simp only [Option.some.injEq] at h;subst h
 have hx:=hρ x
 rw [hs] at hx
 have hx:RS σ pr w s (γ x):=hx
 obtain ⟨k,el,K,hu,_⟩:=zdK ET hT
 have key:(γ x=.map none∧n=0) ∨ ∃ r es clock,γ x=.map (some r)∧w.heap[r]?=some (.map es clock)∧es.size=n:=by
  generalize γ x=xv at hx
  unfold mapLen at hn
  split at hn
  ·simp only [Option.some.injEq] at hn;subst hn
   cases hx;exact .inl ⟨rfl,rfl⟩
  ·simp only [Option.some.injEq] at hn;subst hn
   obtain ⟨b,es,cl,e1,_,e2,e3,_⟩:=hx.vmap_inv
   exact .inr ⟨b,es,cl,e1,e2,e3.size⟩
  ·split at hn
   case h_2=>simp at hn
   rename_i hb
   simp only [Option.some.injEq] at hn;subst hn
   cases hx with
   | mapp h1 =>
    obtain ⟨_,_,hB⟩:=zaR H hb h1
    obtain ⟨es,cl,e2,e3,_⟩:=hB.maps _ _ _ _ _ _ rfl
    exact .inr ⟨_,es,cl,rfl,e2,e3.size⟩
  ·simp at hn
 refine ⟨.int .i64 n,?_,RV.of_sc .int⟩
 rcases key with ⟨ex,rfl⟩ | ⟨r,es,cl,ex,hr,hs⟩
 ·simp [execOp,resolve,invoke,builtin,ex,Builtin.len_,run_underlying hu,goInt]
 ·simp [execOp,resolve,invoke,builtin,ex,Builtin.len_,run_underlying hu,goInt,MapKept.run_getObj_map hr,hs]
theorem KeyIs.stays {kd:KD} {f:Nat→Int} {x:Value} (hx:KeyIs kd f x) (w:World):(Instr.keyThatStays x x).run P w=.ok x w:=by
 have h:Instr.sameBits 10000 x x=true:=by
  rw [show (10000:Nat)=9999+1 from rfl]
  cases kd with
  | one k =>
   rw [show x=.int k (f 0) from hx]
   simp [Instr.sameBits]
  | cells l =>
   obtain ⟨cs,rfl,h1,h2⟩:=hx
   simp only [Instr.sameBits,beq_self_eq_true,Bool.true_and,List.all_eq_true]
   intro y hy
   obtain ⟨i,hi,e⟩:=List.getElem_of_mem hy
   have hl:i<cs.toList.length:=by simpa using hi
   rw [← e,List.getElem_zip]
   have hc:=h2 i (by rw [← h1];simpa using hl)
   have:cs.toList[i]=.int (kdKind l i) (f i):=by
    have:cs[i]?=some cs.toList[i]:=by simp [show i<cs.size by simpa using hl]
    rw [this] at hc
    simpa using hc
   simp only [this,Instr.sameBits]
   simp
 simp [Instr.keyThatStays,h]
theorem zhG (H:HI w0 own0 σ pr hp w) {id:Nat} {b b':Blk} {g:Nat} (hb:hp[id]?=some (some b)) (hσ:σ id=some (g,b.sz,b.n)) (hB:BI σ pr w0 own0 w b g) {es:Array MapEntry} {cl:Nat} (hg:w.heap[g]?=some (.map es cl))
  (e1:b'.sz=b.sz) (e2:b'.n=b.n) (hl:∀ i,i<b'.n→b'.sz≤lenS (b'.segs i)) (hm:b'.isMap=true) (o:Obj)
  (hB':Le σ pr w σ pr { w with heap:=w.heap.setIfInBounds g o }→∀ kd ag esz cnt has el,b'=.map kd ag esz cnt has el→∃ es clock,o=.map es clock∧MapK kd cnt has es∧MapV σ pr { w with heap:=w.heap.setIfInBounds g o } kd ag esz el.get es) :
  Le σ pr w σ pr { w with heap:=w.heap.setIfInBounds g o }∧HI w0 own0 σ pr (hp.set id (some b')) { w with heap:=w.heap.setIfInBounds g o }:=by
 obtain ⟨s1,s2⟩:=MapKept.heap_set (o':=o) hg
 have hsz:({ w with heap:=w.heap.setIfInBounds g o }:World).heap.size=w.heap.size:=by simp
 have hL:Le σ pr w σ pr { w with heap:=w.heap.setIfInBounds g o }:=by
  refine ⟨fun _ _ h=>h,fun _ _ h=>h,fun t b1 hb1=>s2 b1 (by rintro rfl;exact hB.free t hb1),fun b1 cs T fz hb1=>?_,by rw [hsz];exact Nat.le_refl _⟩
  have:b1≠g:=by rintro rfl;rw [hg] at hb1;cases hb1
  exact ⟨cs,fz,by rw [show ({ w with heap:=w.heap.setIfInBounds g o }:World).heap[b1]?=w.heap[b1]? from s2 b1 this];exact hb1,rfl⟩
 refine ⟨hL,?_,?_,?_,?_,?_,?_,H.prnew⟩
 ·intro j hj
  rw [List.length_set] at hj
  exact H.fresh j hj
 ·intro j c hj
  rcases zaq hj with ⟨rfl,rfl⟩ | ⟨hne,hj⟩
  ·refine .inr ⟨g,by rw [e1,e2];exact hσ,hB.free,hB.own,fun h=>(by rw [hm] at h;cases h),fun kd ag esz cnt has get e=>?_⟩
   obtain ⟨es',cl',q1,q2,q3⟩:=hB' hL kd ag esz cnt has get e
   exact ⟨es',cl',by rw [← q1];exact s1,q2,q3⟩
  ·rcases H.blk j c hj with h | ⟨g',h1,h2⟩
   ·exact .inl h
   ·refine .inr ⟨g',h1,h2.mono hL h2.free (s2 g' ?_)⟩
    rintro rfl
    exact hne (H.inj j id c b g' _ _ hj hb h1 hσ)
 ·intro j j' c c' g' x x' h1 h2 h3 h4
  have at_:∀ (j:Nat) (c:Blk),(hp.set id (some b'))[j]?=some (some c)→∃ c0,hp[j]?=some (some c0):=fun j c h=>by
   rcases zaq h with ⟨rfl,_⟩ | ⟨_,h⟩
   ·exact ⟨_,hb⟩
   ·exact ⟨_,h⟩
  obtain ⟨c1,k1⟩:=at_ j c h1
  obtain ⟨c2,k2⟩:=at_ j' c' h2
  exact H.inj j j' c1 c2 g' x x' k1 k2 h3 h4
 ·intro j c hj
  rcases zaq hj with ⟨rfl,rfl⟩ | ⟨hne,hj⟩
  ·exact hl
  ·exact H.lens j c hj
 ·refine H.ev.step rfl rfl rfl (by rw [hsz];exact Nat.le_refl _) (fun b1 hb1 hb2=>s2 b1 ?_)
  rintro rfl
  rcases hB.own with h | h
  ·exact hb2 h
  ·have:=hB.lt;omega
 ·intro t b1 hb1
  rw [hsz];exact H.prlt t b1 hb1
theorem zmz {ag:Bool} {a:AV} {v:Value} (h:isAg ag a=true) (hv:RV σ pr w a v):(ag=true→∃ cs:Array Value,v=.agg cs)∧(ag=false→v.oneCell'=true):=by
 cases a with
 | any=>simp [isAg] at h
 | tup l=>simp [isAg] at h
 | agg s =>
  simp only [isAg] at h
  obtain ⟨cs,rfl,_⟩:=hv
  exact ⟨fun _=>⟨cs,rfl⟩,fun e=>(by rw [h] at e;cases e)⟩
 | sc s =>
  simp only [isAg,Bool.not_eq_true'] at h
  have hv:RS σ pr w s v:=hv
  exact ⟨fun e=>(by rw [h] at e;cases e),fun _=>hv.one⟩
theorem zoh {es:Array MapEntry} {j i:Nat} {e:MapEntry} {F:MapEntry→MapEntry} (h:(es.modify j F)[i]?=some e):(i=j∧∃ e0,es[i]?=some e0∧e=F e0) ∨ (i≠j∧es[i]?=some e):=by
 rw [Array.getElem?_modify] at h
 by_cases e:j=i
 ·subst e
  rw [if_pos rfl] at h
  simp only [Option.map_eq_some_iff] at h
  obtain ⟨e0,h1,h2⟩:=h
  exact .inl ⟨rfl,e0,h1,h2.symm⟩
 ·rw [if_neg e] at h
  exact .inr ⟨fun x=>e x.symm,h⟩
theorem zex {s t:List Seg} {cs:List Value} (h:lenS t=lenS s∧∀ c,c<lenS s→cellAt t c=cellAt s c) (hr:RG σ pr w s cs):RG σ pr w t cs :=
 ⟨by rw [hr.1,h.1],fun c v hv=>by rw [h.2 c (by rw [← hr.1];exact (List.getElem?_eq_some_iff.1 hv).1)];exact hr.2 c v hv⟩
theorem zjA {s:List Seg} {l:List (IntKind × Nat)} (h:segKd s l=true) (f:Nat→Int) (hf:∀ c,f c=numsOf s c):lenS (segK l f 0)=lenS s∧∀ c,c<lenS s→cellAt (segK l f 0) c=cellAt s c:=by
 obtain ⟨q1,q2⟩:=zd2 h
 obtain ⟨r1,r2⟩:=zcg l f 0
 refine ⟨by rw [r1,q1],fun c hc=>?_⟩
 rw [q1] at hc
 rw [r2 c hc,Nat.zero_add,hf]
 obtain ⟨n,hn⟩:=q2 c hc
 rw [hn]
 congr 1
 unfold numsOf
 split
 ·rename_i k m g
  have:lenS [Seg.ints k m g]=m:=rfl
  rw [zac (by omega)] at hn
  injection hn
 ·show svI (cellAt s c)=n
  rw [hn];rfl
theorem zl9 {n:Nat} {f:Nat→Int} {g:List Seg} {el el':MEl} (h:putEl n f g el=some el'):(∀ k,eqK n k f=true→lenS (el'.get k)=lenS g∧∀ c,c<lenS g→cellAt (el'.get k) c=cellAt g c) ∧
  (∀ k,eqK n k f=false→lenS (el'.get k)=lenS (el.get k)∧∀ c,c<lenS (el.get k)→cellAt (el'.get k) c=cellAt (el.get k) c):=by
 cases el with
 | ints kz G =>
  simp only [putEl] at h
  split at h
  case h_2=>simp at h
  rename_i hs
  simp only [Option.some.injEq] at h;subst h
  refine ⟨fun k hk=>?_,fun k hk=>?_⟩
  ·simp only [MEl.get,hk,cond_true]
   exact zjA hs _ fun c=>by simp
  ·simp only [MEl.get,hk,cond_false]
   simp
 | segs get =>
  simp only [putEl,Option.some.injEq] at h;subst h
  refine ⟨fun k hk=>?_,fun k hk=>?_⟩
  ·simp only [MEl.get,hk,cond_true]
   simp
  ·simp only [MEl.get,hk,cond_false]
   simp
theorem zgD (ET:EnvTy P E) (H:HI w0 own0 σ pr hp w) {ty:TypeId} {kd:KD} {F:TI} (hT:mapTy E.ty ty=some (kd,F)) {id esz cnt:Nat} {ag:Bool} {has:(Nat→Int)→Bool} {el el':MEl} (hb:hp[id]?=some (some (.map kd ag esz cnt has el)))
  {mv xv yv:Value} (hm:RS σ pr w (.mapp id) mv) {f:Nat→Int} (hx:KeyIs kd f xv) {g:List Seg} (hg:RG σ pr w g yv.cells.toList) (hgl:lenS g=esz) (hel1:∀ h,eqK kd.n h f=true→lenS (el'.get h)=lenS g∧∀ c,c<lenS g→cellAt (el'.get h) c=cellAt g c) (hel2:∀ h,eqK kd.n h f=false→lenS (el'.get h)=lenS (el.get h)∧∀ c,c<lenS (el.get h)→cellAt (el'.get h) c=cellAt (el.get h) c) (ha:(ag=true→∃ cs:Array Value,yv=.agg cs)∧(ag=false→yv.oneCell'=true)) :
  ∃ w',(Instr.mapUpdate ty mv xv yv).run P w=.ok () w'∧Le σ pr w σ pr w'∧HI w0 own0 σ pr (hp.set id (some (.map kd ag esz (bif has f then cnt else cnt+1) (fun h=>eqK kd.n h f || has h) el'))) w':=by
 obtain ⟨k,el,K,hu,hK,hkk,hkd,hF,hkF⟩:=zdK ET hT
 cases hm with
 | mapp h1 =>
 rename_i gg
 obtain ⟨_,_,hB⟩:=zaR H hb h1
 obtain ⟨es,cl,e2,e3,e4⟩:=hB.maps _ _ _ _ _ _ rfl
 have hck:=zf8 hK hkk hkd hx false w
 have hk':∀ e ∈ es.toList,∃ g,KeyIs kd g e.key:=fun e he=>by
  obtain ⟨i,hi⟩:=List.getElem?_of_mem he
  exact e3.keys i e (by simpa using hi)
 have same:∀ h:Nat→Int,eqK kd.n h f=true ↔ KeyIs kd h xv:=fun h=>by
  rw [eqK_t]
  exact ⟨fun q=>hx.congr fun c hc=>(q c hc).symm,fun q=>q.nums hx⟩
 rcases zhW hK hkd w hx es.toList hk' with ⟨h2,h3⟩ | ⟨j,en,h2,h3,h4⟩
 ·have hno:∀ (i:Nat) (e:MapEntry),es[i]?=some e→¬ KeyIs kd f e.key:=fun i e hi=>h3 e (by have:=List.mem_of_getElem? (l:=es.toList) (i:=i) (a:=e) (by simpa using hi);exact this)
  have hf:has f=false:=by
   cases hh:has f with
   | false=>rfl
   | true=>obtain ⟨i,e,q1,q2⟩:=e3.inn f hh;exact absurd q2 (hno i e q1)
  refine ⟨_,by simp only [Instr.mapUpdate,Sem.run_bind,run_underlying hu,Result.andThen_ok,MapKept.run_getObj_map e2,hck,h2,MapKept.run_setObj_map _ e2];rfl,?_⟩
  refine zhG (b':=.map kd ag esz (bif has f then cnt else cnt+1) (fun h=>eqK kd.n h f || has h) el') H hb h1 hB e2 rfl rfl (fun i hi=>Nat.zero_le _) rfl _ fun hL kd' ag' esz' cnt' has' el'' e=>?_
  injection e with i1 i2 i3 i4 i5 i6
  subst i1 i2 i3 i4 i5 i6
  have psh:∀ (i:Nat) (e:MapEntry),(es.push { key:=xv,val:=yv,born:=cl })[i]?=some e→(es[i]?=some e) ∨ (i=es.size∧e={ key:=xv,val:=yv,born:=cl }):=fun i e h=>by
   rw [Array.getElem?_push] at h
   by_cases q:i=es.size
   ·rw [if_pos q] at h
    simp only [Option.some.injEq] at h
    exact .inr ⟨q,h.symm⟩
   ·rw [if_neg q] at h;exact .inl h
  have old:∀ (i:Nat) (e:MapEntry),es[i]?=some e→(es.push { key:=xv,val:=yv,born:=cl })[i]?=some e:=fun i e h=>by
   have:=(Array.getElem?_eq_some_iff.1 h).1
   rw [Array.getElem?_push,if_neg (by omega)];exact h
  refine ⟨_,_,rfl,⟨by simp [hf,e3.size],fun i e hi=>?_,fun h hh=>?_,fun i e h hi hk=>?_,fun i j e e' hi hj hk=>?_⟩,fun i e h hi hk=>?_⟩
  ·rcases psh i e hi with hi | ⟨_,rfl⟩
   ·exact e3.keys i e hi
   ·exact ⟨f,hx⟩
  ·simp only [Bool.or_eq_true] at hh
   rcases hh with hh | hh
   ·exact ⟨es.size,{ key:=xv,val:=yv,born:=cl },by simp,(same h).1 hh⟩
   ·obtain ⟨i,e,q1,q2⟩:=e3.inn h hh
    exact ⟨i,e,old i e q1,q2⟩
  ·simp only [Bool.or_eq_true]
   rcases psh i e hi with hi | ⟨_,rfl⟩
   ·exact .inr (e3.out i e h hi hk)
   ·exact .inl ((same h).2 hk)
  ·rcases psh i e hi with hi' | ⟨q1,q2⟩ <;> rcases psh j e' hj with hj' | ⟨q3,q4⟩
   ·exact e3.uniq i j e e' hi' hj' hk
   ·rw [q4] at hk
    exact absurd (by rw [hk];exact hx) (hno i e hi')
   ·rw [q2] at hk
    exact absurd (by rw [← hk];exact hx) (hno j e' hj')
   ·rw [q1,q3]
  ·rcases psh i e hi with hi' | ⟨_,rfl⟩
   ·have hne:eqK kd.n h f=false:=by
     cases hh:eqK kd.n h f with
     | false=>rfl
     | true=>exact absurd (((same h).1 hh).same hk ▸ hx) (hno i e hi')
    obtain ⟨r1,r2,r3,r4⟩:=e4 i e h hi' hk
    exact ⟨r1,r2,by rw [(hel2 h hne).1];exact r3,(zex (hel2 h hne) r4).mono hL⟩
   ·have hq:=hel1 h ((same h).2 hk)
    exact ⟨ha.1,ha.2,by rw [hq.1];exact hgl,(zex hq hg).mono hL⟩
 ·have h3:es[j]?=some en:=by simpa using h3
  have hkey:en.key=xv:=h4.same hx
  have hf:has f=true:=e3.out j en f h3 h4
  have hst:=hx.stays (P:=P) w
  refine ⟨_,by simp only [Instr.mapUpdate,Sem.run_bind,run_underlying hu,Result.andThen_ok,MapKept.run_getObj_map e2,hck,h2,h3,Option.map_some,Option.getD_some,hkey,hst,MapKept.run_setObj_map _ e2];rfl,?_⟩
  refine zhG (b':=.map kd ag esz (bif has f then cnt else cnt+1) (fun h=>eqK kd.n h f || has h) el') H hb h1 hB e2 rfl rfl (fun i hi=>Nat.zero_le _) rfl _ fun hL kd' ag' esz' cnt' has' el'' e=>?_
  injection e with i1 i2 i3 i4 i5 i6
  subst i1 i2 i3 i4 i5 i6
  have each:∀ (i:Nat) (e:MapEntry),(es.modify j fun e=>{ e with key:=xv,val:=yv })[i]?=some e→∃ e0,es[i]?=some e0∧e.key=e0.key∧((i=j∧e.val=yv) ∨ (i≠j∧e=e0)):=fun i e h=>by
   rcases zoh h with ⟨rfl,e0,q1,rfl⟩ | ⟨q1,q2⟩
   ·rw [h3] at q1
    simp only [Option.some.injEq] at q1;subst q1
    exact ⟨en,h3,hkey.symm,.inl ⟨rfl,rfl⟩⟩
   ·exact ⟨e,q2,rfl,.inr ⟨q1,rfl⟩⟩
  have back:∀ (i:Nat) (e0:MapEntry),es[i]?=some e0→∃ e,(es.modify j fun e=>{ e with key:=xv,val:=yv })[i]?=some e∧e.key=e0.key:=fun i e0 h=>by
   have hlt:=(Array.getElem?_eq_some_iff.1 h).1
   have hex:∃ e,(es.modify j fun e=>{ e with key:=xv,val:=yv })[i]?=some e:=⟨_,Array.getElem?_eq_getElem (by simpa using hlt)⟩
   obtain ⟨e,he⟩:=hex
   obtain ⟨e1,q1,q2,_⟩:=each i e he
   rw [h] at q1
   simp only [Option.some.injEq] at q1;subst q1
   exact ⟨e,he,q2⟩
  refine ⟨_,_,rfl,⟨by simp [hf,e3.size],fun i e hi=>?_,fun h hh=>?_,fun i e h hi hk=>?_,fun i i' e e' hi hj hk=>?_⟩,fun i e h hi hk=>?_⟩
  ·obtain ⟨e0,q1,q2,_⟩:=each i e hi
   rw [q2];exact e3.keys i e0 q1
  ·simp only [Bool.or_eq_true] at hh
   have hh:has h=true:=by
    rcases hh with hh | hh
    ·exact e3.out j en h h3 (by rw [hkey];exact (same h).1 hh)
    ·exact hh
   obtain ⟨i,e0,q1,q2⟩:=e3.inn h hh
   obtain ⟨e,r1,r2⟩:=back i e0 q1
   exact ⟨i,e,r1,by rw [r2];exact q2⟩
  ·simp only [Bool.or_eq_true]
   obtain ⟨e0,q1,q2,_⟩:=each i e hi
   exact .inr (e3.out i e0 h q1 (by rw [← q2];exact hk))
  ·obtain ⟨e0,q1,q2,_⟩:=each i e hi
   obtain ⟨e0',q1',q2',_⟩:=each i' e' hj
   exact e3.uniq i i' e0 e0' q1 q1' (by rw [← q2,← q2'];exact hk)
  ·obtain ⟨e0,q1,q2,q3⟩:=each i e hi
   rcases q3 with ⟨rfl,hv⟩ | ⟨hne,rfl⟩
   ·have:eqK kd.n h f=true:=(same h).2 (by
     rw [h3] at q1
     simp only [Option.some.injEq] at q1
     rw [q2,← q1,hkey] at hk;exact hk)
    have hq:=hel1 h this
    rw [hv]
    exact ⟨ha.1,ha.2,by rw [hq.1];exact hgl,(zex hq hg).mono hL⟩
   ·have:eqK kd.n h f=false:=by
     cases hh:eqK kd.n h f with
     | false=>rfl
     | true =>
      have:=((same h).1 hh).same hk
      exact absurd (e3.uniq i j e en q1 h3 (by rw [hkey,this])) hne
    have hq:=hel2 h this
    obtain ⟨r1,r2,r3,r4⟩:=e4 i e h q1 hk
    exact ⟨r1,r2,by rw [hq.1];exact r3,(zex hq r4).mono hL⟩
theorem zeQ (ET:EnvTy P E) (hρ:∀ x,RV σ pr w (ρ x) (γ x)) (H:HI w0 own0 σ pr hp w) {sl:Nat} {o:Op} {ty:TypeId} {m x y:Operand} (ho:o=.mapUpdate ty m x y ∨ o=.insert ty m x y) {v:AV} {hp':Heap} (h:writeOp E ρ hp sl o=some (v,hp')) {d t p e g} :
  ∃ w',(execOp γ ⟨d,o,t,p,e,g⟩).run P w=.ok .skip w'∧Out w0 own0 σ pr hp w sl v hp' undef σ pr w':=by
 have hw:writeOp E ρ hp sl (.mapUpdate ty m x y)=some (v,hp'):=by
  rcases ho with rfl | rfl
  ·exact h
  ·exact h
 simp only [writeOp] at hw
 split at hw
 case h_2=>simp at hw
 rename_i hp2 hu
 simp only [Option.some.injEq,Prod.mk.injEq] at hw
 obtain ⟨rfl,rfl⟩:=hw
 unfold updM at hu
 split at hu
 case h_2=>simp at hu
 rename_i kd F id hT hm
 split at hu
 case h_2=>simp at hu
 rename_i f s kd' ag esz cnt has el hf hs hb
 split at hu
 case h_2=>simp at hu
 rename_i hq
 simp only [Bool.and_eq_true,beq_t,beq_iff_eq] at hq
 obtain ⟨q1,⟨q2,q3⟩,q4,q5⟩:=hq
 have:=znj q1
 subst this
 split at hu
 case h_2=>simp at hu
 rename_i el' hel
 simp only [Option.some.injEq] at hu
 subst hu
 have hmv:=hρ m
 rw [hm] at hmv
 obtain ⟨l1,l2⟩:=zl9 hel
 obtain ⟨w',r1,r2,r3⟩:=zgD ET H hT hb hmv (zfJ hf (hρ x)) (zbM hs (hρ y)) q4 l1 l2 (zmz q5 (hρ y))
 refine ⟨w',?_,r2,r3,RV.none,fun _ _ _=>rfl,by simp⟩
 rcases ho with rfl | rfl <;> (simp only [execOp,Sem.run_bind,r1,Result.andThen_ok];rfl)
theorem zoA (ET:EnvTy P E) (H:HI w0 own0 σ pr hp w) {sl:Nat} (hsl:hp[sl]?=some none) (hs:σ sl=none) {ty:TypeId} {r:Option Operand} {v:AV} {b:Blk} (h:makeOp E.ty ρ sl (.makeMap ty r)=some (v,b)) {d t p e g} :
  ∃ val w' σ',(execOp γ ⟨d,.makeMap ty r,t,p,e,g⟩).run P w=.ok (.value val) w'∧Out w0 own0 σ pr hp w sl v (hp.set sl (some b)) val σ' pr w':=by
 cases r with
 | some x=>simp [makeOp] at h
 | none =>
 simp only [makeOp] at h
 split at h
 case h_2=>simp at h
 rename_i kd F hT
 simp only [Option.some.injEq,Prod.mk.injEq] at h
 obtain ⟨rfl,rfl⟩:=h
 obtain ⟨hL,hH⟩:=zhO H hsl hs (.map kd F.d.agg F.size 0 (fun _=>false) (newEl F)) (.map #[] 0) (fun i hi=>Nat.zero_le _) fun hL =>
  ⟨fun t h=>Nat.lt_irrefl _ (H.prlt t _ h),.inr H.ev.size,fun h=>(by cases h),fun kd' ag esz cnt has get e=>by
   injection e with i1 i2 i3 i4 i5 i6
   subst i1 i2 i3 i4 i5 i6
   exact ⟨#[],0,zdE w _,⟨rfl,fun i e h=>by simp at h,fun f h=>by simp at h,fun i e f h=>by simp at h,fun i j e e' h=>by simp at h⟩,fun i e f h=>by simp at h⟩⟩
 refine ⟨.map (some w.heap.size),w.alloc (.map #[] 0),_,rfl,hL,hH,RV.of_sc (.mapp (zb0 _ _ _)),fun id _ hne=>zaT hne,by rw [List.length_set];exact Nat.le_refl _⟩
end
end Go.AM
namespace Go.AM
open Go Go.RowKit
section
variable {P:Program} {E:Env} {σ:Sg} {pr:Pr} {w w0:World} {own0:Own} {hp:Heap} {ρ:Operand→AV} {γ:Operand→Value}
theorem ziN (w:World) (g n m:Nat) {cells:Array Value} {T:TypeId} {fz:Nat × Nat} (h:w.heap[g]?=some (.cells cells T fz)) :
  ∃ fz',(w.freeze ⟨g,n,none⟩ 1).heap[g]?=some (.cells cells T fz')∧(fz'.1=fz'.2 ∨ min fz.1 n≤fz'.1∧(fz.1=fz.2→fz'.1=n)):=by
 obtain ⟨lo,hi⟩:=fz
 refine ⟨if lo==hi then (n,n+1) else (min lo n,max hi (n+1)),?_,.inr ?_⟩
 ·simp [World.freeze,Array.getElem?_modify,h]
 ·by_cases e:lo=hi
  ·simp [e];try omega
  ·simp [e];try exact Nat.le_refl _
theorem zvi {w:World} {g n:Nat} {cells:Array Value} {T:TypeId} {fz:Nat × Nat} (h:w.heap[g]?=some (.cells cells T fz)):w.cell? ⟨g,n,none⟩=cells[n]?:=by
 simp [World.cell?,h]
theorem ziZ (s:ByteArray) (cap:Nat) {j:Nat} (hj:j<s.data.toList.length):(bytesRow s cap)[j]?=some (.int .u8 ((s.data.toList.getD j 0).toNat:Int)):=by
 have hj':j<s.data.size:=by simpa using hj
 unfold bytesRow
 rw [Array.getElem?_append_left (by simpa using hj')]
 simp only [Array.getElem?_map,Array.getElem?_eq_getElem hj',Option.map_some,List.getD,List.getElem?_eq_getElem hj,Option.getD_some,Array.getElem_toList]
theorem zul (H:HI w0 own0 σ pr hp w) {s dd el:TypeId} {x:Operand} {str:ByteArray} (hu:P.underlying dd=some (.slice el)) (huF:P.underlying el=some (.int .u8)) (ex:γ x=.string str) (hs:P.underlying s=some .string) (sl:Nat) {d t p e g} :
  After P w0 own0 σ pr hp w sl (.sc (.vints true .u8 1 str.data.toList.length (fun j _=>((str.data.toList.getD j 0).toNat:Int)))) hp ((execOp γ ⟨d,.convert s dd x,t,p,e,g⟩).run P w):=by
 have hrun:=run_bytes_of_string w s dd el str hs hu huF
 generalize hcap:grownCap w str.size 0 el=cap at hrun
 have hrun':(execOp γ ⟨d,.convert s dd x,t,p,e,g⟩).run P w=.ok (.value (.slice (some ⟨w.heap.size,0,none⟩) str.size cap))
   (w.drew.alloc (.cells (bytesRow str cap) el ((bytesRow str cap).size,(bytesRow str cap).size+1))):=by
  simp only [execOp,ex,Sem.run_bind,hrun,Result.andThen_ok];rfl
 rw [hrun']
 have hdh:w.drew.heap=w.heap:=rfl
 have hold:∀ i,i<w.heap.size→(w.drew.alloc (.cells (bytesRow str cap) el ((bytesRow str cap).size,(bytesRow str cap).size+1))).heap[i]?=w.heap[i]?:=fun i hi=>zdu w.drew _ (by rw [hdh];exact hi)
 have hnew:=zdE w.drew (.cells (bytesRow str cap) el ((bytesRow str cap).size,(bytesRow str cap).size+1))
 have hsz:=zdv w.drew (.cells (bytesRow str cap) el ((bytesRow str cap).size,(bytesRow str cap).size+1))
 rw [hdh] at hnew hsz
 let pr':Pr:=fun t b=>pr t b ∨ (t=true∧b=w.heap.size)
 have hL:Le σ pr w σ pr' (w.drew.alloc (.cells (bytesRow str cap) el ((bytesRow str cap).size,(bytesRow str cap).size+1))) :=
  ⟨fun _ _ h=>h,fun _ _ h=>.inl h,fun t b h=>hold b (H.prlt t b h),fun b cells T fz h=>⟨cells,fz,by rw [hold b (zcU h)];exact h,rfl⟩,by rw [hsz];omega⟩
 refine ⟨σ,pr',hL,⟨H.fresh,fun id b hbk=>?_,H.inj,H.lens,H.ev.step rfl rfl rfl (by rw [hsz];omega) (fun b h1 _=>hold b (Nat.lt_of_lt_of_le h1 H.ev.size)),fun t b h=>?_,fun t b h=>?_⟩,?_,fun _ _ _=>rfl,Nat.le_refl _⟩
 ·rcases H.blk id b hbk with h | ⟨g,q1,q2⟩
  ·exact .inl h
  ·have hg:=q2.lt
   refine .inr ⟨g,q1,q2.mono hL (fun t h=>?_) (hold g hg)⟩
   rcases h with h | ⟨_,h⟩
   ·exact q2.free t h
   ·omega
 ·rw [hsz]
  rcases h with h | ⟨_,h⟩
  ·exact Nat.lt_succ_of_lt (H.prlt t b h)
  ·omega
 ·rcases h with h | ⟨h1,h2⟩
  ·exact H.prnew t b h
  ·exact .inr ⟨h1,.inr (by rw [h2];exact H.ev.size)⟩
 ·have hlen:str.size=str.data.toList.length:=rfl
  refine RV.of_sc ?_
  rw [hlen]
  by_cases h0:str.data.toList.length=0
  ·rw [h0];exact .vints0
  refine .vints (.inr ⟨rfl,rfl⟩) (fun j hj c hc=>?_) ?_
  ·have:c=0:=by omega
   subst this
   have hb:=ziZ str cap hj
   rw [zvi hnew,show 0+j*1+0=j by omega,hb]
  ·rw [← hcap,← hlen]
   exact grownCap_ge _ _ _ _
theorem zyd (EO:EnvOK P E) (hρ:∀ x,RV σ pr w (ρ x) (γ x)) (H:HI w0 own0 σ pr hp w) {s dd:TypeId} {x:Operand} {v:AV} (hs:CV P s dd) (h:readOp E ρ hp (.convert s dd x)=some v) (sl:Nat) {d t p e g} :
  After P w0 own0 σ pr hp w sl v hp ((execOp γ ⟨d,.convert s dd x,t,p,e,g⟩).run P w):=by
 have hx:=hρ x
 simp only [readOp] at h
 split at h
 ·rename_i id sz i c esz len el _ _ _ _ hxv hT
  rw [hxv] at hx
  split at h
  case h_2=>simp at h
  rename_i F1 F2 F3 F4 hF
  split at h
  case h_2=>simp at h
  rename_i b hk hb
  simp only [Bool.and_eq_true,beq_t,ble_t] at hk
  obtain ⟨rfl,k2⟩:=hk
  simp only [Option.some.injEq] at h;subst h
  have hx:RS σ pr w (.slice id sz i c esz len) (γ x):=hx
  have hu:=zbj (EO.ty.ty _ _ hT) rfl
  have huF:P.underlying el=some (.int .u8):=by
   obtain ⟨D,hD,eD⟩:=(EO.ty.ty _ _ hF).desc
   have:=zkG eD;subst this;exact hD
  generalize hgx:γ x=gx at hx
  have hx0:=hx
  cases hx with
  | slice0=>omega
  | slice h1 hf hl hroom =>
   rename_i g0 n cap
   obtain ⟨rfl,rfl,hB⟩:=zaR H hb h1
   obtain ⟨cells,T,fz,q1,q2,q3,q4⟩:=hB.cells (hB.notMapR hroom)
   have hrun:(execOp γ ⟨d,.convert s s x,t,p,e,g⟩).run P w=.ok (.value (.slice (some ⟨g0,i*b.sz+c,none⟩) len cap)) (w.freeze ⟨g0,cells.size,none⟩ 1):=by
    simp [execOp,hgx,convert,run_underlying hu,run_underlying huF,markStringish,World.shape?,q1]
   rw [hrun]
   obtain ⟨fz',f1,f2⟩:=ziN w g0 cells.size 0 q1
   have hoth:∀ k,k≠g0→(w.freeze ⟨g0,cells.size,none⟩ 1).heap[k]?=w.heap[k]?:=fun k hk=>by
    simp only [World.freeze]
    rw [if_neg (by decide)]
    simp only [Array.getElem?_modify]
    rw [if_neg (fun e=>hk e.symm)]
   have hsize:(w.freeze ⟨g0,cells.size,none⟩ 1).heap.size=w.heap.size:=by simp [World.freeze]
   have hrest:(w.freeze ⟨g0,cells.size,none⟩ 1).os=w.os∧(w.freeze ⟨g0,cells.size,none⟩ 1).tape=w.tape∧(w.freeze ⟨g0,cells.size,none⟩ 1).output=w.output:=by simp [World.freeze]
   have hfz:fz'.1=fz'.2 ∨ cells.size≤fz'.1:=by
    rcases f2 with h | ⟨h,h'⟩
    ·exact .inl h
    ·rcases q2 with q | q
     ·exact .inr (by rw [h' q];exact Nat.le_refl _)
     ·exact .inr (by omega)
   have hL:Le σ pr w σ pr (w.freeze ⟨g0,cells.size,none⟩ 1):=by
    refine ⟨fun _ _ h=>h,fun _ _ h=>h,fun t b1 hb1=>hoth b1 (by rintro rfl;exact hB.free t hb1),fun b1 cs T' fz1 hb1=>?_,by rw [hsize];exact Nat.le_refl _⟩
    by_cases e:b1=g0
    ·subst e
     rw [q1] at hb1
     simp only [Option.some.injEq,Obj.cells.injEq] at hb1
     obtain ⟨rfl,rfl,rfl⟩:=hb1
     exact ⟨cells,fz',f1,rfl⟩
    ·exact ⟨cs,fz1,by rw [hoth b1 e];exact hb1,rfl⟩
   refine ⟨σ,pr,hL,⟨H.fresh,fun j c' hj=>?_,H.inj,H.lens,H.ev.step hrest.1 hrest.2.1 hrest.2.2 (by rw [hsize];exact Nat.le_refl _) (fun b1 hb1 hb2=>hoth b1 ?_),fun t b1 hb1=>by rw [hsize];exact H.prlt t b1 hb1,H.prnew⟩,RV.of_sc (hx0.mono hL),fun _ _ _=>rfl,Nat.le_refl _⟩
   ·rcases H.blk j c' hj with h | ⟨g',e1,e2⟩
    ·exact .inl h
    ·refine .inr ⟨g',e1,?_⟩
     by_cases e:g'=g0
     ·subst e
      have hnm:=e2.notMap q1
      obtain ⟨cells',T',fz1,w1,w2,w3,w4⟩:=e2.cells hnm
      rw [q1] at w1
      simp only [Option.some.injEq,Obj.cells.injEq] at w1
      obtain ⟨rfl,rfl,rfl⟩:=w1
      refine ⟨e2.free,e2.own,fun _=>⟨cells,T,fz',f1,hfz,w3,fun i1 hi1 c1 hc1=>?_⟩,fun kd ag esz cnt has get e=>by rw [e] at hnm;cases hnm⟩
      obtain ⟨y,y1,y2⟩:=w4 i1 hi1 c1 hc1
      exact ⟨y,y1,y2.mono hL⟩
     ·exact e2.mono hL e2.free (hoth g' e)
   ·rintro rfl
    rcases hB.own with h | h
    ·exact hb2 h
    ·omega
 ·rename_i k0 n k _ _ _ _ hxv hT
  rw [hxv] at hx
  have ex:=RS.int_inv hx
  simp only [Option.some.injEq] at h;subst h
  obtain ⟨⟨Ds,hDs⟩,_⟩:=hs
  have hrun:(execOp γ ⟨d,.convert s dd x,t,p,e,g⟩).run P w=.ok (.value (.int k (k.wrap n))) w:=by
   simp only [execOp,ex,Sem.run_bind,zei (EO.ty.ty _ _ hT) rfl (run_underlying hDs w),Result.andThen_ok];rfl
  rw [hrun]
  exact ⟨σ,pr,Le.refl _ _ _,H,RV.of_sc .int,fun _ _ _=>rfl,Nat.le_refl _⟩
 ·rename_i str el _ _ _ _ hxv hT
  rw [hxv] at hx
  have ex:γ x=.string str:=by
   have hx:RS σ pr w (.str str) (γ x):=hx
   generalize γ x=y at hx
   cases hx;rfl
  split at h
  case h_2=>simp at h
  rename_i F1 F2 F3 F4 hk hF
  simp only [Option.some.injEq] at h;subst h
  have hstr:P.underlying s=some .string:=hs.2 (fun e=>by rw [e] at hk;simp at hk) ⟨_,zbj (EO.ty.ty _ _ hT) rfl⟩
  exact zul H (zbj (EO.ty.ty _ _ hT) rfl) (by
   obtain ⟨D,hD,eD⟩:=(EO.ty.ty _ _ hF).desc
   have:=zkG eD;subst this;exact hD) ex hstr sl
 ·simp at h
theorem Yld.after (H:HI w0 own0 σ pr hp w) {o:Oper} {v:AV} (h:Yld P σ pr w γ o v) (sl:Nat):After P w0 own0 σ pr hp w sl v hp ((execOp γ o).run P w):=by
 obtain ⟨val,h1,h2⟩:=h
 rw [h1]
 exact ⟨σ,pr,Le.refl _ _ _,H,h2,fun _ _ _=>rfl,Nat.le_refl _⟩
theorem zrk {h0:Heap} (hsub:Sub h0 hp) {op:Op} (hn:∀ c,op≠.call c) {v:AV} (h:readOp E ρ h0 op=some v):readOp E ρ hp op=some v:=by
 cases op <;> try (simp [readOp] at h;done)
 case load ty x =>
  simp only [readOp] at h ⊢
  split at h
  ·rename_i T id sz i c ext hT hp0
   split at h
   case h_2=>simp at h
   rename_i b hk hb
   rw [hk,hsub.2 id b hb]
   exact h
  ·rename_i T tg s hT hp0
   exact h
  ·simp at h
 case convert s d x =>
  simp only [readOp] at h ⊢
  split at h
  ·rename_i id sz i c esz len el _ _ _ _ hxv hT
   split at h
   case h_2=>simp at h
   rename_i F1 F2 F3 F4 hF
   split at h
   case h_2=>simp at h
   rename_i b hk hb
   rw [hk,hsub.2 id b hb]
   exact h
  ·rename_i hxv hT
   exact h
  ·rename_i hxv hT
   exact h
  ·simp at h
 case call c=>exact absurd rfl (hn c)
 case lookup t m x ok =>
  simp only [readOp] at h ⊢
  split at h
  case h_2=>simp at h
  rename_i kd F hT
  split at h
  case h_2=>simp at h
  rename_i s f hs hf
  split at h
  case h_2=>simp at h
  rename_i has el hmap
  have:mapOf hp kd F.d.agg F.size s=some (has,el):=by
   unfold mapOf at hmap ⊢
   split at hmap
   ·exact hmap
   ·exact hmap
   ·split at hmap
    case h_2=>simp at hmap
    rename_i hb
    rw [hsub.2 _ _ hb];exact hmap
   ·simp at hmap
  rw [this];exact h
theorem zto {h0:Heap} (hsub:Sub h0 hp) {args:Array Operand} {ts:Array TypeId} {v:AV} (h:readOp E ρ h0 (.call ⟨.builtin .len,args,ts⟩)=some v):readOp E ρ hp (.call ⟨.builtin .len,args,ts⟩)=some v:=by
 simp only [readOp] at h ⊢
 split at h
 case h_2=>simp at h
 rename_i x tt hargs hts
 split at h
 case h_2=>simp at h
 rename_i kdF s hT hs
 split at h
 case h_2=>simp at h
 rename_i n hn
 have:mapLen hp s=some n:=by
  unfold mapLen at hn ⊢
  split at hn
  ·exact hn
  ·exact hn
  ·split at hn
   case h_2=>simp at hn
   rename_i hb
   rw [hsub.2 _ _ hb];exact hn
  ·simp at hn
 rw [this];exact h
theorem zgb (EO:EnvOK P E) (hρ:∀ x,RV σ pr w (ρ x) (γ x)) (H:HI w0 own0 σ pr hp w) {o:Oper} (hcv:∀ s d x,o.op=.convert s d x→CV P s d) {h0:Heap} (hsub:Sub h0 hp) {v:AV}
  (h:readOp E ρ h0 o.op=some v):After P w0 own0 σ pr hp w hp.length v hp ((execOp γ o).run P w):=by
 obtain ⟨d,op,t,p,e,g⟩:=o
 dsimp only at hcv h
 by_cases hn:∀ c,op≠.call c
 ·have hv:=zrk hsub hn h
  cases op <;> try (simp [readOp] at hv;done)
  case load ty x=>exact (zsJ EO.ty hρ H hv).after H _
  case convert s dd x=>exact zyd EO hρ H (hcv _ _ _ rfl) hv _
  case lookup ty m x ok=>exact (zrp EO.ty hρ H hv).after H _
  case call c=>exact absurd rfl (hn c)
 ·have:∃ c,op=.call c:=Classical.byContradiction fun h=>hn fun c e=>h ⟨c,e⟩
  obtain ⟨c,rfl⟩:=this
  obtain ⟨cal,args,ts⟩:=c
  cases cal with
  | value f=>exact zlK EO hρ H hsub h _
  | builtin b =>
   cases b <;> try (simp [readOp] at h;done)
   exact (zpP EO.ty hρ H (zto hsub h)).after H _
  | invoke r m=>simp [readOp] at h
theorem zlt (EO:EnvOK P E) (PO:ProgOK P) (hρ:∀ x,RV σ pr w (ρ x) (γ x)) (H:HI w0 own0 σ pr hp w) {o:Oper} {sl:Nat} (hslot:slotted o.op=true→hp[sl]?=some none∧σ sl=none)
  (hcv:∀ s d x,o.op=.convert s d x→CV P s d) {v:AV} {hp':Heap} (h:stepOp E ρ hp sl o.op=some (v,hp')) :
  ∃ sl',(slotted o.op=true→sl'=sl)∧(slotted o.op=false→hp.length≤sl')∧After P w0 own0 σ pr hp w sl' v hp' ((execOp γ o).run P w):=by
 obtain ⟨d,op,t,p,e,g⟩:=o
 unfold stepOp at h
 dsimp only at hslot hcv h ⊢
 cases hc:cls E.isW op with
 | pur =>
  simp only [hc] at h
  have hns:slotted op=false:=by
   cases op <;> try rfl
   all_goals first
    | (simp [cls] at hc;done)
    | (rename_i c;obtain ⟨cal,args,ts⟩:=c;cases cal <;> first | rfl | (rename_i b;cases b <;> first | rfl | (simp [cls] at hc)))
  split at h
  case h_2=>simp at h
  rename_i v' hv
  simp only [Option.some.injEq,Prod.mk.injEq] at h
  obtain ⟨rfl,rfl⟩:=h
  exact ⟨hp.length,by simp [hns],fun _=>Nat.le_refl _,(zlQ EO.ty PO hρ (o:=⟨d,op,t,p,e,g⟩) hcv hv).after H _⟩
 | mk =>
  simp only [hc] at h
  split at h
  case h_2=>simp at h
  rename_i v' b hv
  simp only [Option.some.injEq,Prod.mk.injEq] at h
  obtain ⟨rfl,rfl⟩:=h
  have fin:∀ {o:Oper},(∃ val w' σ',(execOp γ o).run P w=.ok (.value val) w'∧Out w0 own0 σ pr hp w sl v' (hp.set sl (some b)) val σ' pr w')→After P w0 own0 σ pr hp w sl v' (hp.set sl (some b)) ((execOp γ o).run P w):=by
   rintro o ⟨val,w',σ',h1,h2⟩
   rw [h1];exact ⟨σ',pr,h2⟩
  cases op <;> try (simp [makeOp] at hv;done)
  case alloc ty =>
   obtain ⟨s1,s2⟩:=hslot rfl
   exact ⟨sl,fun _=>rfl,fun h=>by simp [slotted] at h,fin (ztA EO.ty H s1 s2 hv)⟩
  case box ty x =>
   obtain ⟨s1,s2⟩:=hslot rfl
   exact ⟨sl,fun _=>rfl,fun h=>by simp [slotted] at h,fin (m_box EO.ty hρ H s1 s2 hv)⟩
  case buildSlice ty len ps =>
   obtain ⟨s1,s2⟩:=hslot rfl
   exact ⟨sl,fun _=>rfl,fun h=>by simp [slotted] at h,fin (zh2 EO.ty hρ H s1 s2 hv)⟩
  case makeMap ty r =>
   obtain ⟨s1,s2⟩:=hslot rfl
   exact ⟨sl,fun _=>rfl,fun h=>by simp [slotted] at h,fin (zoA EO.ty H s1 s2 hv)⟩
  case makeSlice ty x y =>
   obtain ⟨s1,s2⟩:=hslot rfl
   exact ⟨sl,fun _=>rfl,fun h=>by simp [slotted] at h,fin (ziP EO.ty hρ H s1 s2 hv)⟩
 | rd =>
  simp only [hc] at h
  split at h
  case h_2=>simp at h
  rename_i v' hv
  simp only [Option.some.injEq,Prod.mk.injEq] at h
  obtain ⟨rfl,rfl⟩:=h
  refine ⟨hp.length,fun h=>?_,fun _=>Nat.le_refl _,zgb EO hρ H (o:=⟨d,op,t,p,e,g⟩) hcv (Sub.refl hp) hv⟩
  cases op <;> try (simp [slotted] at h;done)
  all_goals first
   | (simp [cls] at hc;done)
   | (rename_i c;obtain ⟨cal,args,ts⟩:=c;cases cal <;> first | (simp [slotted] at h;done) | (rename_i b;cases b <;> first | (simp [slotted] at h;done) | (simp [cls] at hc)))
 | wrt =>
  simp only [hc] at h
  cases op <;> try (simp [writeOp] at h;done)
  case store ty x y =>
   obtain ⟨w',h1,h2⟩:=zvP EO.ty hρ H (d:=d) (t:=t) (p:=p) (e:=e) (g:=g) h
   refine ⟨hp.length,fun h=>by simp [slotted] at h,fun _=>Nat.le_refl _,?_⟩
   rw [h1]
   exact ⟨σ,pr,h2.le,h2.hi,h2.rv,fun _ _ _=>rfl,h2.len⟩
  case mapUpdate ty m x y =>
   obtain ⟨w',h1,h2⟩:=zeQ EO.ty hρ H (.inl rfl) (d:=d) (t:=t) (p:=p) (e:=e) (g:=g) h
   refine ⟨hp.length,fun h=>by simp [slotted] at h,fun _=>Nat.le_refl _,?_⟩
   rw [h1]
   exact ⟨σ,pr,h2.le,h2.hi,h2.rv,fun _ _ _=>rfl,h2.len⟩
  case insert ty m x y =>
   obtain ⟨w',h1,h2⟩:=zeQ EO.ty hρ H (.inr rfl) (d:=d) (t:=t) (p:=p) (e:=e) (g:=g) h
   refine ⟨hp.length,fun h=>by simp [slotted] at h,fun _=>Nat.le_refl _,?_⟩
   rw [h1]
   exact ⟨σ,pr,h2.le,h2.hi,h2.rv,fun _ _ _=>rfl,h2.len⟩
  case call c =>
   obtain ⟨cal,args,ts⟩:=c
   cases cal with
   | value f=>exact ⟨hp.length,fun h=>by simp [slotted] at h,fun _=>Nat.le_refl _,zjJ EO hρ H (.inr trivial) h⟩
   | builtin b =>
    cases b <;> try (simp [writeOp] at h;done)
    case copy =>
     obtain ⟨val,w',h1,h2⟩:=zxW EO.ty hρ H (sl:=hp.length) (d:=d) (t:=t) (p:=p) (e:=e) (g:=g) h
     refine ⟨hp.length,fun h=>by simp [slotted] at h,fun _=>Nat.le_refl _,?_⟩
     rw [h1]
     exact ⟨σ,pr,h2⟩
    obtain ⟨s1,s2⟩:=hslot rfl
    obtain ⟨val,w',σ',h1,h2⟩:=zrZ EO.ty hρ H s1 s2 (d:=d) (t:=t) (p:=p) (e:=e) (g:=g) h
    refine ⟨sl,fun _=>rfl,fun h=>by simp [slotted] at h,?_⟩
    rw [h1]
    exact ⟨σ',pr,h2⟩
   | invoke r m=>simp [writeOp] at h
end
end Go.AM
namespace Go.AM
open Go Go.RowKit
def clsFree:Cls→Cls→Bool
 | .pur,_=>true
 | _,.pur=>true
 | .rd,.rd=>true
 | .rd,.mk=>true
 | .mk,.mk=>true
 | .mk,.rd=>true
 | _,_=>false
def ldSt:Op→Op→Bool
 | .load ..,.store ..=>true
 | _,_=>false
def apart2 (isW:Operand→Bool) (ops:Array Oper) (x y:Oper):Bool:=x.apart ops y&&(clsFree (cls isW x.op) (cls isW y.op) || ldSt x.op y.op)
def addrOf:Op→Option Tmp
 | .load _ (.tmp t)=>some t
 | .store _ (.tmp t) _=>some t
 | _=>none
def keeps (t:Tmp):List Oper→Bool
 | []=>true
 | o::r=>(match o.dst with | some d=>!Nat.beq d t | none=>true)&&keeps t r
def reOK:List Oper→Bool
 | []=>true
 | o::r=>(match addrOf o.op with | some t=>keeps t (o::r) | none=>true)&&reOK r
def waitsB (ops:Array Oper) (i:Nat):Nat→Nat→Bool
 | 0,_=>false
 | n+1,j=>match ops[j]? with
  | some oj=>oj.after.any fun e=>Region.binds .any e&&(e.on==i || waitsB ops i n e.on)
  | none=>false
def free2 (isW:Operand→Bool) (ops:Array Oper) (listed:Array Bool) (i:Nat):Bool :=
 match ops[i]? with
 | none=>false
 | some oi=>(List.range ops.size).all fun j=>j==i || listed.getD j true || match ops[j]? with
   | some oj=>oj.after.any (fun e=>Region.binds .any e&&e.on==i) || (apart2 isW ops oi oj || waitsB ops i 4 j)
   | none=>true
def lexFrom2 (isW:Operand→Bool) (ops:Array Oper):Nat→Nat→Array Bool→Bool
 | 0,_,listed=>(Region.ready .any ops listed).isEmpty
 | fuel+1,k,listed=>(Region.ready .any ops listed).contains k&&free2 isW ops listed k&&lexFrom2 isW ops fuel (k+1) (listed.setIfInBounds k true)
def regionOK (isW:Operand→Bool) (ops:Array Oper):Bool:=reOK ops.toList&&(Region.noSelect ops&&lexFrom2 isW ops ops.size 0 (Array.replicate ops.size false))
section
variable {P:Program} {E:Env}
inductive AStep (E:Env) (Bl Wr:Nat→Nat→Prop) (ops:List Oper) (base i:Nat) (o:Oper):St→St→Prop where
 | no {tm:List AV} {hp:Heap} (h:wanted ops tm o=some false):AStep E Bl Wr ops base i o ⟨tm,hp⟩ ⟨put o.dst (.tup []) tm,hp⟩
 | fn {tm:List AV} {hp hp':Heap} {v:AV} (h:wanted ops tm o=some true) (hc:cls E.isW o.op≠.rd) (hs:stepOp E (ev tm) hp (base+before ops i) o.op=some (v,hp'))
   (hst:∀ T x y,o.op=.store T x y→∃ id b,hp'=hp.set id (some b)∧Wr i id):AStep E Bl Wr ops base i o ⟨tm,hp⟩ ⟨put o.dst v tm,hp'⟩
 | rd {tm:List AV} {hp h0:Heap} {v:AV} (h:wanted ops tm o=some true) (hc:cls E.isW o.op=.rd) (hsub:Sub h0 hp) (hs:readOp E (ev tm) h0 o.op=some v)
   (hb:∀ id b,h0[id]?=some (some b)→¬ Bl i id):AStep E Bl Wr ops base i o ⟨tm,hp⟩ ⟨put o.dst v tm,hp⟩
theorem zhH {ρ:Operand→AV} {hp hp':Heap} {sl:Nat} {T:TypeId} {x y:Operand} {v:AV} (h:stepOp E ρ hp sl (.store T x y)=some (v,hp')):∃ id b,hp'=hp.set id (some b)∧ptrId (ρ x)=some id:=by
 have hc:cls E.isW (.store T x y)=.wrt:=rfl
 unfold stepOp at h
 rw [hc] at h
 simp only [writeOp] at h
 split at h
 case h_2=>simp at h
 rename_i id0 sz i c ext g _ hx _
 split at h
 case h_2=>simp at h
 split at h
 case h_2=>simp at h
 simp only [Option.some.injEq,Prod.mk.injEq] at h
 obtain ⟨_,rfl⟩:=h
 exact ⟨_,_,rfl,by rw [hx];rfl⟩
theorem AStep.of_plain {ops:List Oper} {base i:Nat} {o:Oper} {s s':St} (h:amStep E ops false base i o s=some s'):AStep E (fun _ _=>False) (fun _ _=>True) ops base i o s s':=by
 obtain ⟨tm,hp⟩:=s
 unfold amStep at h
 dsimp only at h
 split at h
 ·rename_i hw
  unfold amOp at h
  dsimp only at h
  split at h
  ·rename_i hc
   split at h
   ·rename_i v hv
    simp only [Option.some.injEq] at h;subst h
    exact .rd hw hc (Sub.refl _) hv (fun _ _ _=>id)
   ·simp at h
  ·rename_i hc
   split at h
   ·rename_i v hp' hs
    simp only [Option.some.injEq] at h;subst h
    refine .fn hw hc hs fun T x y e=>?_
    rw [e] at hs
    obtain ⟨id,b,e1,_⟩:=zhH hs
    exact ⟨id,b,e1,trivial⟩
   ·simp at h
 ·rename_i hw
  simp only [Option.some.injEq] at h;subst h
  exact .no hw
 ·simp at h
theorem zeH {tm:List AV} {dst:Option Tmp} {v:AV} {t:Nat} (h:∀ d,dst=some d→t≠d):getA (put dst v tm) t=getA tm t:=by
 cases dst with
 | none=>rfl
 | some d =>
  have:=h d rfl
  simp [getA,put,List.getElem?_set_ne (fun e=>this e.symm)]
theorem zxZ {tm:List AV} {dst:Option Tmp} {v:AV} {x:Operand} (h:∀ d,dst=some d→x≠.tmp d):ev (put dst v tm) x=ev tm x:=by
 cases x with
 | tmp t=>exact zeH fun d hd e=>h d hd (by rw [e])
 | _=>rfl
theorem zrF {tm:List AV} {x y:Option Tmp} (v u:AV) (h:∀ d,x=some d→y≠some d):put y u (put x v tm)=put x v (put y u tm):=by
 cases x with
 | none=>rfl
 | some d =>
  cases y with
  | none=>rfl
  | some e =>
   have hne:d≠e:=fun he=>h d rfl (he ▸ rfl)
   simp only [put]
   rw [List.set_comm _ _ hne]
theorem zc5 {ρ ρ':Operand→AV}:∀ (ps:List (Nat × Operand)) (h:∀ x ∈ ps.map (·.2),ρ x=ρ' x) (f:Nat→Option (Nat × Nat)) (s:List Seg),buildParts f ρ ps s=buildParts f ρ' ps s
 | [],_,f,s=>rfl
 | (i,x)::ps,h,f,s=>by
  unfold buildParts
  rw [h x (by simp)]
  split <;> try rfl
  split <;> try rfl
  split <;> try rfl
  exact zc5 ps (fun y hy=>h y (by simp at hy ⊢;exact .inr hy)) f _
theorem zej {ρ ρ':Operand→AV} {esz:Nat}:∀ (ps:List (Nat × Operand)) (h:∀ x ∈ ps.map (·.2),ρ x=ρ' x) (l:List (List Seg)),sliceParts esz ρ ps l=sliceParts esz ρ' ps l
 | [],_,l=>rfl
 | (i,x)::ps,h,l=>by
  unfold sliceParts
  rw [h x (by simp)]
  split <;> try rfl
  split <;> try rfl
  exact zej ps (fun y hy=>h y (by simp at hy ⊢;exact .inr hy)) _
theorem zf4 {ρ ρ':Operand→AV} (x:Option Operand) (h:∀ y ∈ x.toArray,ρ y=ρ' y):optI ρ x=optI ρ' x:=by
 cases x with
 | none=>rfl
 | some y=>simp only [optI];rw [h y (by simp)]
theorem zfY {ρ ρ':Operand→AV}:∀ (xs:List Operand),(∀ x ∈ xs,ρ x=ρ' x)→capsOf ρ xs=capsOf ρ' xs
 | [],_=>rfl
 | x::xs,h=>by
  simp only [capsOf]
  rw [zfY xs (fun y hy=>h y (by simp [hy])),h x (by simp)]
theorem zhZ {ty:Nat→Option TI} {ρ ρ':Operand→AV} {op:Op} (h:∀ x ∈ op.operands,ρ x=ρ' x):pureOp ty ρ op=pureOp ty ρ' op:=by
 cases op <;> simp only [Op.operands] at h <;> simp only [pureOp]
 case move x=>rw [h x (by simp)]
 case assign x=>rw [h x (by simp)]
 case pick c a b=>rw [h c (by simp),h a (by simp),h b (by simp)]
 case binOp op t x y u=>rw [h x (by simp),h y (by simp)]
 case unOp op t x=>rw [h x (by simp)]
 case convert s d x=>rw [h x (by simp)]
 case extract x i=>rw [h x (by simp)]
 case fieldAddr t x i=>rw [h x (by simp)]
 case field t x i=>rw [h x (by simp)]
 case indexAddr t x y=>rw [h x (by simp),h y (by simp)]
 case nilCheck x=>rw [h x (by simp)]
 case sliceToArrayPointer t x=>rw [h x (by simp)]
 case index t x y=>rw [h x (by simp),h y (by simp)]
 case build t ps =>
  split
  ·split
   ·rw [zc5 ps.toList (fun x hx=>h x (by simpa using hx))]
   ·rfl
  ·rw [zc5 ps.toList (fun x hx=>h x (by simpa using hx))]
  ·rfl
 case slice t x lo hi mx =>
  rw [h x (by simp),zf4 lo (fun y hy=>h y (by simp at hy ⊢;simp [hy])),zf4 hi (fun y hy=>h y (by simp at hy ⊢;simp [hy]))]
 case makeFunc fn first caps =>
  rw [zfY caps.toList (fun x hx=>h x (by simp at hx ⊢;simp [hx]))]
  cases fn with
  | func f =>
   cases hf:first.toList with
   | nil=>rfl
   | cons x r =>
    cases r with
    | nil =>
     have hx:ρ x=ρ' x:=h x (by
      have:x ∈ first.toList:=by rw [hf];simp
      simp only [Array.mem_append]
      exact .inl (by simpa using this))
     dsimp only
     rw [hx]
    | cons y r=>rfl
  | _=>rfl
 case call c =>
  obtain ⟨cal,args,ts⟩:=c
  cases cal with
  | builtin b =>
   cases b <;> try rfl
   all_goals dsimp only
   ·split
    ·rename_i x t ha hts
     rw [h x (by simp only [Call.operands];simp;rw [← Array.mem_toList_iff,ha];simp)]
    ·rfl
   ·split
    ·rename_i x y ha
     rw [h x (by simp only [Call.operands];simp;rw [← Array.mem_toList_iff,ha];simp),h y (by simp only [Call.operands];simp;rw [← Array.mem_toList_iff,ha];simp)]
    ·rfl
   ·split
    ·rename_i x y ha
     rw [h x (by simp only [Call.operands];simp;rw [← Array.mem_toList_iff,ha];simp),h y (by simp only [Call.operands];simp;rw [← Array.mem_toList_iff,ha];simp)]
    ·rename_i x y z ha
     rw [h x (by simp only [Call.operands];simp;rw [← Array.mem_toList_iff,ha];simp),h y (by simp only [Call.operands];simp;rw [← Array.mem_toList_iff,ha];simp),h z (by simp only [Call.operands];simp;rw [← Array.mem_toList_iff,ha];simp)]
    ·rfl
  | _=>rfl
theorem zih {ty:Nat→Option TI} {ρ ρ':Operand→AV} {sl:Nat} {op:Op} (h:∀ x ∈ op.operands,ρ x=ρ' x):makeOp ty ρ sl op=makeOp ty ρ' sl op:=by
 cases op <;> simp only [Op.operands] at h <;> simp only [makeOp]
 case box t x=>rw [h x (by simp)]
 case buildSlice t n ps =>
  split
  ·split
   ·rw [zej ps.toList (fun x hx=>h x (by simpa using hx))]
   ·rfl
  ·rfl
 case makeSlice t x y=>rw [h x (by simp),h y (by simp)]
 case makeMap t r=>cases r <;> rfl
theorem zf6 {ρ ρ':Operand→AV} {α:Type} (f:AV→α) {args:Array Operand} (h:∀ x ∈ args,ρ x=ρ' x):(args.toList.map fun x=>f (ρ x))=args.toList.map fun x=>f (ρ' x) :=
 List.map_congr_left fun x hx=>by rw [h x (by simpa using hx)]
theorem zaS {ρ ρ':Operand→AV} {hp:Heap} {op:Op} (h:∀ x ∈ op.operands,ρ x=ρ' x):readOp E ρ hp op=readOp E ρ' hp op:=by
 cases op <;> simp only [Op.operands] at h <;> simp only [readOp]
 case load t x=>rw [h x (by simp)]
 case convert s d x=>rw [h x (by simp)]
 case lookup t m x ok=>rw [h m (by simp),h x (by simp)]
 case call c =>
  obtain ⟨cal,args,ts⟩:=c
  cases cal with
  | value f =>
   simp only [Call.operands] at h
   dsimp only
   rw [h f (by simp),zf6 (snapA false hp) (fun x hx=>h x (by simp [hx]))]
  | builtin b =>
   cases b <;> try rfl
   dsimp only
   split
   ·rename_i ha hts
    rw [h _ (by simp only [Call.operands];simp;rw [← Array.mem_toList_iff,ha];exact List.mem_cons_self)]
   ·rfl
  | _=>rfl
theorem zgC {ρ ρ':Operand→AV} {hp:Heap} {sl:Nat} {op:Op} (h:∀ x ∈ op.operands,ρ x=ρ' x):writeOp E ρ hp sl op=writeOp E ρ' hp sl op:=by
 cases op <;> simp only [Op.operands] at h <;> simp only [writeOp]
 case store t x y=>rw [h x (by simp),h y (by simp)]
 case mapUpdate t m x v=>rw [h m (by simp),h x (by simp),h v (by simp)]
 case insert t m x v=>rw [h m (by simp),h x (by simp),h v (by simp)]
 case call c =>
  obtain ⟨cal,args,ts⟩:=c
  cases cal with
  | value f =>
   simp only [Call.operands] at h
   dsimp only
   have hm:args.toList.map ρ=args.toList.map ρ':=List.map_congr_left fun x hx=>h x (by simp at hx ⊢;exact .inr hx)
   rw [h f (by simp),zf6 (snapA false hp) (fun x hx=>h x (by simp [hx])),hm]
  | builtin b =>
   cases b <;> try rfl
   all_goals dsimp only
   all_goals split
   all_goals first
    | rfl
    | (rename_i ha hts
       rw [h _ (by simp only [Call.operands];simp;rw [← Array.mem_toList_iff,ha];exact List.mem_cons_self),h _ (by simp only [Call.operands];simp;rw [← Array.mem_toList_iff,ha];exact List.mem_cons_of_mem _ List.mem_cons_self)])
  | _=>rfl
theorem zaL {ρ ρ':Operand→AV} {hp:Heap} {sl:Nat} {op:Op} (h:∀ x ∈ op.operands,ρ x=ρ' x):stepOp E ρ hp sl op=stepOp E ρ' hp sl op:=by
 unfold stepOp
 rw [zhZ h,zih h,zaS h,zgC h]
theorem zk7 {ops:Array Oper} {o:Oper} {tm:List AV} {dst:Option Tmp} {v:AV} (h:∀ d,dst=some d→d ∉ o.looksAt ops):∀ x ∈ o.op.operands,ev (put dst v tm) x=ev tm x :=
 fun x hx=>zxZ fun d hd e=>h d hd (by
  subst e
  exact List.mem_append_left _ (List.mem_filterMap.2 ⟨.tmp d,by simpa using hx,rfl⟩))
theorem zek {ops:Array Oper} {o:Oper} {tm:List AV} {dst:Option Tmp} {v:AV} (h:∀ d,dst=some d→d ∉ o.looksAt ops):wanted ops.toList (put dst v tm) o=wanted ops.toList tm o:=by
 unfold wanted
 cases hg:o.guard with
 | none=>rfl
 | some gw =>
  obtain ⟨g,want⟩:=gw
  dsimp only
  cases ho:ops.toList[g]? with
  | none=>rfl
  | some o' =>
   dsimp only
   cases hd:o'.dst with
   | none=>rfl
   | some t =>
    dsimp only
    rw [zeH]
    intro d hdd e
    subst e
    refine h t hdd (List.mem_append_right _ ?_)
    rw [hg]
    have:ops[g]?=some o':=by simpa using ho
    simp [this,hd]
end
end Go.AM
namespace Go.AM
open Go Go.RowKit
section
variable {P:Program} {E:Env} {ops:Array Oper} {base:Nat}
theorem zfX {ρ:Operand→AV} {hp:Heap} {sl:Nat} {op:Op} (hc:cls E.isW op=.pur):stepOp E ρ hp sl op=(match pureOp E.ty ρ op with | some v=>some (v,hp) | none=>none):=by
 unfold stepOp;rw [hc];rfl
theorem zh7 {ρ:Operand→AV} {hp:Heap} {sl:Nat} {op:Op} (hc:cls E.isW op=.mk):stepOp E ρ hp sl op=(match makeOp E.ty ρ sl op with | some (v,b)=>some (v,hp.set sl (some b)) | none=>none):=by
 unfold stepOp;rw [hc];rfl
theorem zdJ {ρ:Operand→AV} {hp hp':Heap} {sl:Nat} {op:Op} {v:AV} (hc:cls E.isW op=.pur) (h:stepOp E ρ hp sl op=some (v,hp')):hp'=hp∧∀ h2 sl2,stepOp E ρ h2 sl2 op=some (v,h2):=by
 rw [zfX hc] at h
 split at h
 ·rename_i u hu
  simp only [Option.some.injEq,Prod.mk.injEq] at h
  obtain ⟨rfl,rfl⟩:=h
  exact ⟨rfl,fun h2 sl2=>by rw [zfX hc,hu]⟩
 ·simp at h
theorem zh4 {ρ:Operand→AV} {hp hp':Heap} {sl:Nat} {op:Op} {v:AV} (hc:cls E.isW op=.mk) (h:stepOp E ρ hp sl op=some (v,hp')):∃ b,hp'=hp.set sl (some b)∧∀ h2,stepOp E ρ h2 sl op=some (v,h2.set sl (some b)):=by
 rw [zh7 hc] at h
 split at h
 ·rename_i u b hu
  simp only [Option.some.injEq,Prod.mk.injEq] at h
  obtain ⟨rfl,rfl⟩:=h
  exact ⟨b,rfl,fun h2=>by rw [zh7 hc,hu]⟩
 ·simp at h
theorem zcc {isW:Operand→Bool} {op:Op} (h:cls isW op=.mk):slotted op=true:=by
 cases op <;> try rfl
 all_goals try (simp [cls] at h;done)
 case convert s d x=>simp only [cls] at h;split at h <;> cases h
 case call c =>
  obtain ⟨cal,args,ts⟩:=c
  cases cal with
  | value f=>simp only [cls] at h;split at h <;> cases h
  | builtin b=>cases b <;> first | rfl | (simp [cls] at h;done) | (simp only [cls] at h;split at h <;> first | (cases h;done) | (split at h <;> cases h))
  | invoke r m=>simp [cls] at h
theorem zvW {h0 hp:Heap} (hs:Sub h0 hp) {sl:Nat} (hn:hp[sl]?=some none) (b:Option Blk):Sub h0 (hp.set sl b):=by
 refine ⟨by rw [List.length_set];exact hs.1,fun id b' h=>?_⟩
 have:=hs.2 id b' h
 have hne:sl≠id:=by rintro rfl;rw [hn] at this;cases this
 rw [List.getElem?_set_ne hne];exact this
theorem zdk (l:List Oper):∀ (i j:Nat) (o:Oper),i<j→l[i]?=some o→slotted o.op=true→before l i<before l j:=by
 induction l with
 | nil=>intro i j o h ho _;simp at ho
 | cons x l ih =>
  intro i j o h ho hs
  cases j with
  | zero=>omega
  | succ j =>
   cases i with
   | zero =>
    simp at ho;subst ho
    simp only [before,hs]
    omega
   | succ i =>
    have:=ih i j o (by omega) (by simpa using ho) hs
    simp only [before]
    split <;> omega
theorem zdo {l:List Oper} {i j:Nat} {o u:Oper} (h:i≠j) (ho:l[i]?=some o) (hu:l[j]?=some u) (hs:slotted o.op=true) (ht:slotted u.op=true):before l i≠before l j:=by
 rcases Nat.lt_or_gt_of_ne h with h | h
 ·have:=zdk l i j o h ho hs;omega
 ·have:=zdk l j i u h hu ht;omega
theorem ziI {ρ:Operand→AV} {hp hp':Heap} {sl:Nat} {o:Op} {t:TypeId} {m x y:Operand} (ho:o=.mapUpdate t m x y ∨ o=.insert t m x y) {v:AV} (h:writeOp E ρ hp sl o=some (v,hp')) {id:Nat} (hn:hp[id]?=some none):hp'[id]?=some none:=by
 have hw:writeOp E ρ hp sl (.mapUpdate t m x y)=some (v,hp'):=by rcases ho with rfl | rfl <;> exact h
 simp only [writeOp] at hw
 split at hw
 case h_2=>simp at hw
 rename_i hu
 simp only [Option.some.injEq,Prod.mk.injEq] at hw
 obtain ⟨_,rfl⟩:=hw
 unfold updM at hu
 split at hu
 case h_2=>simp at hu
 split at hu
 case h_2=>simp at hu
 rename_i hb
 split at hu
 case h_2=>simp at hu
 split at hu
 case h_2=>simp at hu
 simp only [Option.some.injEq] at hu
 subst hu
 rw [List.getElem?_set_ne (by rintro rfl;rw [hb] at hn;cases hn)];exact hn
theorem zea (EO:EnvOK P E) {ρ:Operand→AV} {hp hp':Heap} {sl:Nat} {op:Op} {v:AV} (h:stepOp E ρ hp sl op=some (v,hp')) {id:Nat} (hid:slotted op=true→id≠sl) (hn:hp[id]?=some none):hp'[id]?=some none:=by
 cases hc:cls E.isW op with
 | pur=>obtain ⟨rfl,_⟩:=zdJ hc h;exact hn
 | mk =>
  obtain ⟨b,rfl,_⟩:=zh4 hc h
  rw [List.getElem?_set_ne (fun e=>hid (zcc hc) e.symm)];exact hn
 | rd =>
  unfold stepOp at h
  rw [hc] at h
  dsimp only at h
  split at h
  ·simp only [Option.some.injEq,Prod.mk.injEq] at h
   obtain ⟨_,rfl⟩:=h;exact hn
  ·simp at h
 | wrt =>
  unfold stepOp at h
  rw [hc] at h
  dsimp only at h
  cases op <;> try (simp [writeOp] at h;done)
  case store t x y =>
   simp only [writeOp] at h
   split at h
   case h_2=>simp at h
   rename_i T id0 sz i c ext g _ _ _
   split at h
   case h_2=>simp at h
   rename_i b _ hb
   split at h
   case h_2=>simp at h
   simp only [Option.some.injEq,Prod.mk.injEq] at h
   obtain ⟨_,rfl⟩:=h
   rw [List.getElem?_set_ne (by rintro rfl;rw [hb] at hn;cases hn)];exact hn
  case mapUpdate t m x y=>exact ziI (.inl rfl) h hn
  case insert t m x y=>exact ziI (.inr rfl) h hn
  case call c =>
   obtain ⟨cal,args,ts⟩:=c
   cases cal with
   | value f =>
    simp only [writeOp] at h
    split at h
    case h_3=>simp at h
    case h_2 =>
     split at h
     ·simp only [Option.some.injEq,Prod.mk.injEq] at h
      obtain ⟨_,rfl⟩:=h;exact hn
     ·simp at h
    split at h
    ·rename_i O hO
     exact EO.nones _ _ hO _ _ _ _ h id hn
    ·split at h
     ·simp only [Option.some.injEq,Prod.mk.injEq] at h
      obtain ⟨_,rfl⟩:=h;exact hn
     ·simp at h
   | builtin b =>
    cases b <;> try (simp [writeOp] at h;done)
    case copy =>
     simp only [writeOp] at h
     split at h
     case h_2=>simp at h
     split at h
     case h_2=>simp at h
     split at h
     case h_2=>simp at h
     rename_i hblk
     split at h
     case h_2=>simp at h
     simp only [Option.some.injEq,Prod.mk.injEq] at h
     obtain ⟨_,rfl⟩:=h
     rw [List.getElem?_set_ne (by rintro rfl;rw [hblk] at hn;cases hn)];exact hn
    have hne:=hid rfl
    simp only [writeOp] at h
    split at h
    case h_2=>simp at h
    split at h
    case h_2=>simp at h
    split at h
    case h_2=>simp at h
    split at h
    case h_2=>simp at h
    split at h
    case h_2=>simp at h
    split at h
    ·simp only [Option.some.injEq,Prod.mk.injEq] at h
     obtain ⟨_,rfl⟩:=h
     rw [List.getElem?_set_ne (fun e=>hne e.symm)];exact hn
    ·rename_i id1 _ _ _ _ _ _
     split at h
     case h_2=>simp at h
     simp only [Option.some.injEq,Prod.mk.injEq] at h
     obtain ⟨_,rfl⟩:=h
     rw [List.getElem?_set_ne (fun e=>hne e.symm),List.getElem?_set]
     split
     ·rename_i e;subst e
      rw [if_pos (List.getElem?_eq_some_iff.1 hn).1]
     ·exact hn
    ·simp at h
   | invoke r m=>simp [writeOp] at h
theorem AStep.nones (EO:EnvOK P E) {Bl Wr:Nat→Nat→Prop} {i:Nat} {o:Oper} {s s':St} (h:AStep E Bl Wr ops.toList base i o s s') {id:Nat} (hid:slotted o.op=true→id≠base+before ops.toList i) (hn:s.hp[id]?=some none):s'.hp[id]?=some none:=by
 cases h with
 | no _=>exact hn
 | fn _ _ hs _=>exact zea EO hs hid hn
 | rd _ _ _ _ _=>exact hn
theorem zi3 {isW:Operand→Bool} {x y:Oper} (h:apart2 isW ops x y=true):x.apart ops y=true∧(clsFree (cls isW x.op) (cls isW y.op)=true ∨ ldSt x.op y.op=true):=by
 simpa [apart2,Bool.and_eq_true] using h
theorem zpM {h0 hp:Heap} {id:Nat} {x:Option Blk} (hs:Sub h0 hp) (hn:∀ b,h0[id]?≠some (some b)):Sub h0 (hp.set id x):=by
 refine ⟨by rw [List.length_set];exact hs.1,fun k b h=>?_⟩
 have hne:id≠k:=by rintro rfl;exact hn b h
 rw [List.getElem?_set_ne hne];exact hs.2 k b h
theorem znB {h0 hp:Heap} {id:Nat} {x:Option Blk} (hs:Sub h0 (hp.set id x)) (hn:∀ b,h0[id]?≠some (some b)):Sub h0 hp:=by
 refine ⟨by rw [hs.1,List.length_set],fun k b h=>?_⟩
 have hne:id≠k:=by rintro rfl;exact hn b h
 have:=hs.2 k b h
 rwa [List.getElem?_set_ne hne] at this
theorem AStep.comm {Bl Wr:Nat→Nat→Prop} {i j:Nat} {oi oj:Oper} (hij:i≠j) (hoi:ops.toList[i]?=some oi) (hoj:ops.toList[j]?=some oj) (hap:apart2 E.isW ops oi oj=true)
  (hl1:slotted oi.op=true→Bl j (base+before ops.toList i)) (hl2:ldSt oi.op oj.op=true→∀ id,Wr j id→Bl i id) {s si sij:St}
  (h1:AStep E Bl Wr ops.toList base i oi s si) (h2:AStep E Bl Wr ops.toList base j oj si sij) (hn:slotted oj.op=true→s.hp[base+before ops.toList j]?=some none) :
  ∃ sj,AStep E Bl Wr ops.toList base j oj s sj∧AStep E Bl Wr ops.toList base i oi sj sij:=by
 obtain ⟨ha,hcf⟩:=zi3 hap
 obtain ⟨a1,a2,a3⟩:=Oper.apart_spec ha
 -- oi does not touch what oj looks at;the other way round;not one place
 have evj:∀ (v:AV) (tm:List AV),∀ x ∈ oj.op.operands,ev (put oi.dst v tm) x=ev tm x:=fun v tm=>zk7 a1
 have evi:∀ (v:AV) (tm:List AV),∀ x ∈ oi.op.operands,ev (put oj.dst v tm) x=ev tm x:=fun v tm=>zk7 a3
 have wj:∀ (v:AV) (tm:List AV),wanted ops.toList (put oi.dst v tm) oj=wanted ops.toList tm oj:=fun v tm=>zek a1
 have wi:∀ (v:AV) (tm:List AV),wanted ops.toList (put oj.dst v tm) oi=wanted ops.toList tm oi:=fun v tm=>zek a3
 have pc:∀ (v u:AV) (tm:List AV),put oj.dst u (put oi.dst v tm)=put oi.dst v (put oj.dst u tm):=fun v u tm=>zrF v u a2
 have nst:∀ (o:Oper) (k:Nat) (hp hp':Heap),cls E.isW o.op≠.wrt→∀ T x y,o.op=.store T x y→∃ id b,hp'=hp.set id (some b)∧Wr k id:=fun o k hp hp' h T x y e=>absurd (by rw [e];rfl) h
 have hld:ldSt oi.op oj.op=true→cls E.isW oi.op=.rd:=fun h=>by
  cases ho:oi.op <;> rw [ho] at h <;> first | rfl | (simp [ldSt] at h)
 cases h1 with
 | no hw =>
  rename_i tm hp
  cases h2 with
  | no hw2=>rw [pc];exact ⟨_,.no (by rw [← wj];exact hw2),.no (by rw [wi];exact hw)⟩
  | fn hw2 hc2 hs2 hst2 =>
   rw [pc]
   rw [zaL (evj _ tm)] at hs2
   exact ⟨_,.fn (by rw [← wj];exact hw2) hc2 hs2 hst2,.no (by rw [wi];exact hw)⟩
  | rd hw2 hc2 hsub hs2 hb2 =>
   rw [pc]
   rw [zaS (evj _ tm)] at hs2
   exact ⟨_,.rd (by rw [← wj];exact hw2) hc2 hsub hs2 hb2,.no (by rw [wi];exact hw)⟩
 | fn hw hc hs hst =>
  rename_i tm hp hp' v
  have hcf:clsFree (cls E.isW oi.op) (cls E.isW oj.op)=true:=by
   rcases hcf with h | h
   ·exact h
   ·exact absurd (hld h) hc
  cases h2 with
  | no hw2 =>
   rw [pc]
   refine ⟨_,.no (by rw [← wj];exact hw2),.fn (by rw [wi];exact hw) hc ?_ hst⟩
   rw [zaL (evi _ tm)];exact hs
  | fn hw2 hc2 hs2 hst2 =>
   rename_i hp2 u
   rw [pc]
   rw [zaL (evj _ tm)] at hs2
   have hw2':wanted ops.toList tm oj=some true:=by rw [← wj];exact hw2
   cases hci:cls E.isW oi.op with
   | pur =>
    obtain ⟨rfl,q⟩:=zdJ hci hs
    refine ⟨_,.fn hw2' hc2 hs2 hst2,.fn (by rw [wi];exact hw) hc ?_ (nst _ _ _ _ (by rw [hci];decide))⟩
    rw [zaL (evi _ tm)];exact q _ _
   | rd=>exact absurd hci hc
   | mk =>
    obtain ⟨b,rfl,q⟩:=zh4 hci hs
    cases hcj:cls E.isW oj.op with
    | pur =>
     obtain ⟨rfl,q2⟩:=zdJ hcj hs2
     refine ⟨_,.fn hw2' hc2 (q2 hp _) (nst _ _ _ _ (by rw [hcj];decide)),.fn (by rw [wi];exact hw) hc ?_ (nst _ _ _ _ (by rw [hci];decide))⟩
     rw [zaL (evi _ tm)];exact q _
    | mk =>
     obtain ⟨b2,rfl,q2⟩:=zh4 hcj hs2
     refine ⟨_,.fn hw2' hc2 (q2 hp) (nst _ _ _ _ (by rw [hcj];decide)),.fn (by rw [wi];exact hw) hc ?_ (nst _ _ _ _ (by rw [hci];decide))⟩
     rw [zaL (evi _ tm),List.set_comm _ _ (by have:=zdo hij hoi hoj (zcc hci) (zcc hcj);omega)]
     exact q _
    | rd=>exact absurd hcj hc2
    | wrt=>rw [hci,hcj] at hcf;cases hcf
   | wrt =>
    cases hcj:cls E.isW oj.op with
    | pur =>
     obtain ⟨rfl,q2⟩:=zdJ hcj hs2
     refine ⟨_,.fn hw2' hc2 (q2 hp _) (nst _ _ _ _ (by rw [hcj];decide)),.fn (by rw [wi];exact hw) hc ?_ hst⟩
     rw [zaL (evi _ tm)];exact hs
    | mk=>rw [hci,hcj] at hcf;cases hcf
    | rd=>exact absurd hcj hc2
    | wrt=>rw [hci,hcj] at hcf;cases hcf
  | rd hw2 hc2 hsub hs2 hb2 =>
   rename_i h0 u
   rw [pc]
   rw [zaS (evj _ tm)] at hs2
   have hw2':wanted ops.toList tm oj=some true:=by rw [← wj];exact hw2
   cases hci:cls E.isW oi.op with
   | pur =>
    obtain ⟨rfl,q⟩:=zdJ hci hs
    refine ⟨_,.rd hw2' hc2 hsub hs2 hb2,.fn (by rw [wi];exact hw) hc ?_ (nst _ _ _ _ (by rw [hci];decide))⟩
    rw [zaL (evi _ tm)];exact q _ _
   | rd=>exact absurd hci hc
   | mk =>
    obtain ⟨b,rfl,q⟩:=zh4 hci hs
    refine ⟨_,.rd hw2' hc2 (znB hsub fun b' h=>hb2 _ b' h (hl1 (zcc hci))) hs2 hb2,.fn (by rw [wi];exact hw) hc ?_ (nst _ _ _ _ (by rw [hci];decide))⟩
    rw [zaL (evi _ tm)];exact q _
   | wrt=>rw [hci,hc2] at hcf;cases hcf
 | rd hw hc hsub hs hb =>
  rename_i tm hp h0 v
  cases h2 with
  | no hw2 =>
   rw [pc]
   refine ⟨_,.no (by rw [← wj];exact hw2),.rd (by rw [wi];exact hw) hc hsub ?_ hb⟩
   rw [zaS (evi _ tm)];exact hs
  | fn hw2 hc2 hs2 hst2 =>
   rename_i hp2 u
   rw [pc]
   rw [zaL (evj _ tm)] at hs2
   have hw2':wanted ops.toList tm oj=some true:=by rw [← wj];exact hw2
   cases hcj:cls E.isW oj.op with
   | pur =>
    obtain ⟨rfl,q2⟩:=zdJ hcj hs2
    refine ⟨_,.fn hw2' hc2 hs2 hst2,.rd (by rw [wi];exact hw) hc hsub ?_ hb⟩
    rw [zaS (evi _ tm)];exact hs
   | mk =>
    obtain ⟨b2,rfl,q2⟩:=zh4 hcj hs2
    refine ⟨_,.fn hw2' hc2 hs2 hst2,.rd (by rw [wi];exact hw) hc (zvW hsub (hn (zcc hcj)) _) ?_ hb⟩
    rw [zaS (evi _ tm)];exact hs
   | rd=>exact absurd hcj hc2
   | wrt =>
    have hls:ldSt oi.op oj.op=true:=by
     rcases hcf with h | h
     ·rw [hc,hcj] at h;cases h
     ·exact h
    obtain ⟨T,x,y,hoj'⟩:∃ T x y,oj.op=.store T x y:=by
     cases ho:oi.op <;> cases ho':oj.op <;> rw [ho,ho'] at hls <;> first | exact ⟨_,_,_,rfl⟩ | (simp [ldSt] at hls)
    obtain ⟨id,b,rfl,hwr⟩:=hst2 T x y hoj'
    refine ⟨_,.fn hw2' hc2 hs2 hst2,.rd (by rw [wi];exact hw) hc (zpM hsub fun b' h=>hb _ b' h (hl2 hls _ hwr)) ?_ hb⟩
    rw [zaS (evi _ tm)];exact hs
  | rd hw2 hc2 hsub2 hs2 hb2 =>
   rw [pc]
   rw [zaS (evj _ tm)] at hs2
   refine ⟨_,.rd (by rw [← wj];exact hw2) hc2 hsub2 hs2 hb2,.rd (by rw [wi];exact hw) hc hsub ?_ hb⟩
   rw [zaS (evi _ tm)];exact hs
def Bl (ops:Array Oper) (base:Nat) (F:List AV) (i id:Nat):Prop :=
 ∃ k ok oi,ops.toList[k]?=some ok∧ops.toList[i]?=some oi ∧
  ((slotted ok.op=true∧noEdge oi k=true∧id=base+before ops.toList k) ∨
   ∃ T x y T' x',ok.op=.store T x y∧oi.op=.load T' x'∧noEdge ok i=true∧ptrId (ev F x)=some id)
def Wr (ops:Array Oper) (F:List AV) (j id:Nat):Prop:=∃ oj T x y,ops.toList[j]?=some oj∧oj.op=.store T x y∧ptrId (ev F x)=some id
theorem zlj {o:Oper} {k:Nat}:noEdge o k=true ↔ ∀ e ∈ o.after,Region.binds .any e=true→e.on≠k:=by
 simp only [noEdge,Bool.not_eq_true',List.any_eq_false,Bool.and_eq_true,not_and,beq_t]
 constructor
 ·intro h e he hb;exact h e (by simpa using he) hb
 ·intro h e he hb;exact h e (by simpa using he) hb
def AmAny (E:Env) (Bl Wr:Nat→Nat→Prop) (ops:Array Oper) (base:Nat) (Fin:St→Prop):Nat→Array Bool→St→Prop
 | 0,listed,s=>Region.ready .any ops listed=[]∧Fin s
 | fuel+1,listed,s=>(Region.ready .any ops listed=[]→Fin s) ∧
   ∀ i ∈ Region.ready .any ops listed,∀ o,ops.toList[i]?=some o→∃ s',AStep E Bl Wr ops.toList base i o s s'∧AmAny E Bl Wr ops base Fin fuel (listed.setIfInBounds i true) s'
def Slots (ops:Array Oper) (base:Nat) (listed:Array Bool) (s:St):Prop :=
 ∀ i o,ops.toList[i]?=some o→slotted o.op=true→listed.getD i true=false→s.hp[base+before ops.toList i]?=some none
theorem Slots.step (EO:EnvOK P E) {Bl Wr:Nat→Nat→Prop} {listed:Array Bool} {s s':St} (h:Slots ops base listed s) {i:Nat} {o:Oper} (ho:ops.toList[i]?=some o) (hs:AStep E Bl Wr ops.toList base i o s s'):Slots ops base (listed.setIfInBounds i true) s':=by
 intro j u hj hsl hun
 by_cases e:i=j
 ·subst e
  have:(listed.setIfInBounds i true).getD i true=true:=by
   rcases Nat.lt_or_ge i listed.size with h' | h'
   ·simp [h']
   ·simp [h']
  rw [this] at hun;cases hun
 ·rw [getD_set_ne true e] at hun
  exact hs.nones EO (fun hso=>by have:=zdo e ho hj hso hsl;omega) (h j u hj hsl hun)
def Closed (ops:Array Oper) (listed:Array Bool):Prop:=∀ m om,ops[m]?=some om→listed.getD m false=true→∀ e ∈ om.after,Region.binds .any e=true→listed.getD e.on false=true
theorem Closed.waits {ops:Array Oper} {listed:Array Bool} (h:Closed ops listed) {i:Nat}:∀ (n m:Nat),listed.getD m false=true→waitsB ops i n m=true→listed.getD i false=true
 | 0,m,hm,hw=>by simp [waitsB] at hw
 | n+1,m,hm,hw=>by
  unfold waitsB at hw
  split at hw
  case h_2=>simp at hw
  rename_i om ho
  obtain ⟨e,he,hb⟩:=Array.any_eq_true'.1 hw
  simp only [Bool.and_eq_true,Bool.or_eq_true,beq_iff_eq] at hb
  have hl:=h m om ho hm e he hb.1
  rcases hb.2 with h1 | h1
  ·rw [← h1];exact hl
  ·exact h.waits n _ hl h1
theorem zhC {listed:Array Bool} {i:Nat} (h:listed.getD i true=false):listed.getD i false=false:=by
 rcases Nat.lt_or_ge i listed.size with h' | h'
 ·simp [h'] at h ⊢;exact h
 ·simp [h'] at h
theorem Closed.ready {ops:Array Oper} {listed:Array Bool} (h:Closed ops listed) {i j:Nat} (hi:listed.getD i true=false) (hj:j ∈ Region.ready .any ops listed):waitsB ops i 4 j=false:=by
 cases hw:waitsB ops i 4 j with
 | false=>rfl
 | true =>
  obtain ⟨_,oj,hoj,hall⟩:=mem_ready.1 hj
  unfold waitsB at hw
  rw [hoj] at hw
  dsimp only at hw
  obtain ⟨e,he,hb⟩:=Array.any_eq_true'.1 hw
  simp only [Bool.and_eq_true,Bool.or_eq_true,beq_iff_eq] at hb
  have hl:=hall e he hb.1
  have:listed.getD i false=true:=by
   rcases hb.2 with h1 | h1
   ·rw [← h1];exact hl
   ·exact h.waits _ _ hl h1
  rw [zhC hi] at this;cases this
theorem Closed.set {ops:Array Oper} {listed:Array Bool} (h:Closed ops listed) {j:Nat} (hj:j ∈ Region.ready .any ops listed):Closed ops (listed.setIfInBounds j true):=by
 obtain ⟨hjun,oj,hoj,hall⟩:=mem_ready.1 hj
 have up:∀ k,listed.getD k false=true→(listed.setIfInBounds j true).getD k false=true:=fun k hk=>by
  by_cases e:j=k
  ·subst e
   rw [zhC hjun] at hk;cases hk
  ·rw [getD_set_ne false e];exact hk
 intro m om ho hm e he hb
 by_cases q:j=m
 ·subst q
  rw [hoj] at ho
  simp only [Option.some.injEq] at ho;subst ho
  exact up _ (hall e he hb)
 ·rw [getD_set_ne false q] at hm
  exact up _ (h m om ho hm e he hb)
theorem zjp (EO:EnvOK P E) {Bl Wr:Nat→Nat→Prop} {Fin:St→Prop} {i:Nat} {oi:Oper} (hi:ops.toList[i]?=some oi) :
  ∀ (fuel:Nat) (listed:Array Bool) (s si:St),
   (∀ j oj,ops[j]?=some oj→j≠i→listed.getD j true=false→(∀ e ∈ oj.after,Region.binds .any e=true→e.on≠i)→waitsB ops i 4 j=false→apart2 E.isW ops oi oj=true∧(slotted oi.op=true→Bl j (base+before ops.toList i))∧(ldSt oi.op oj.op=true→∀ id,Wr j id→Bl i id)) →
   i ∈ Region.ready .any ops listed→Closed ops listed→AStep E Bl Wr ops.toList base i oi s si→Slots ops base listed s →
   AmAny E Bl Wr ops base Fin fuel (listed.setIfInBounds i true) si→AmAny E Bl Wr ops base Fin (fuel+1) listed s:=by
 intro fuel
 induction fuel with
 | zero =>
  intro listed s si _ hr hcl hy _ H
  refine ⟨fun h=>(by rw [h] at hr;cases hr),fun j hj o ho=>?_⟩
  by_cases hji:j=i
  ·subst hji;rw [hi] at ho;simp only [Option.some.injEq] at ho;subst ho;exact ⟨si,hy,H⟩
  ·have:=ready_mono hj hji
   rw [H.1] at this
   cases this
 | succ fuel ih =>
  intro listed s si hfree hr hcl hy hsl H
  refine ⟨fun h=>(by rw [h] at hr;cases hr),fun j hj o ho=>?_⟩
  by_cases hji:j=i
  ·subst hji;rw [hi] at ho;simp only [Option.some.injEq] at ho;subst ho;exact ⟨si,hy,H⟩
  ·obtain ⟨sij,h1,h1'⟩:=H.2 j (ready_mono hj hji) o ho
   obtain ⟨hjun,oj,hoj,hall⟩:=mem_ready.1 hj
   have hoo:ops.toList[j]?=some oj:=by simpa using hoj
   rw [ho] at hoo;simp only [Option.some.injEq] at hoo;subst hoo
   have hnot:∀ e ∈ o.after,Region.binds .any e=true→e.on≠i:=fun e he hb heq=>by
    have h1:=hall e he hb
    have h0:=(mem_ready.1 hr).1
    rw [heq] at h1
    rcases Nat.lt_or_ge i listed.size with h' | h'
    ·simp [h'] at h0 h1;rw [h0] at h1;cases h1
    ·simp [Array.getElem?_eq_none h'] at h1
   have hfree':∀ k ok,ops[k]?=some ok→k≠i→(listed.setIfInBounds j true).getD k true=false →
     (∀ e ∈ ok.after,Region.binds .any e=true→e.on≠i)→waitsB ops i 4 k=false→apart2 E.isW ops oi ok=true∧(slotted oi.op=true→Bl k (base+before ops.toList i))∧(ldSt oi.op ok.op=true→∀ id,Wr k id→Bl i id):=fun k ok hk hki hun hno hnw=>by
    refine hfree k ok hk hki ?_ hno hnw
    by_cases hjk:j=k
    ·subst hjk;exact hjun
    ·rw [getD_set_ne true hjk] at hun;exact hun
   obtain ⟨f1,f2,f3⟩:=hfree j o hoj hji hjun hnot (hcl.ready (mem_ready.1 hr).1 hj)
   obtain ⟨sj,c1,c2⟩:=AStep.comm (fun e=>hji e.symm) hi ho f1 f2 f3 hy h1 (fun h=>hsl j o ho h hjun)
   refine ⟨sj,c1,ih (listed.setIfInBounds j true) sj sij hfree' (ready_mono hr (Ne.symm hji)) (hcl.set hj) c2 (hsl.step EO ho c1) ?_⟩
   rw [Array.setIfInBounds_comm _ _ hji]
   exact h1'
theorem zlu {isW:Operand→Bool} {i:Nat} {oi:Oper} {listed:Array Bool} (hi:ops[i]?=some oi) (h:free2 isW ops listed i=true) (j:Nat) (oj:Oper)
  (hj:ops[j]?=some oj) (hne:j≠i) (hun:listed.getD j true=false) (hno:∀ e ∈ oj.after,Region.binds .any e=true→e.on≠i) (hnw:waitsB ops i 4 j=false):apart2 isW ops oi oj=true:=by
 simp only [free2,hi,List.all_eq_true,List.mem_range] at h
 have h1:=h j (Array.getElem?_eq_some_iff.1 hj).1
 simp only [hj,Bool.or_eq_true,beq_iff_eq,hne,false_or,hun,Bool.false_eq_true] at h1
 rcases h1 with h1 | h1
 ·obtain ⟨e,he,hb⟩:=Array.any_eq_true'.1 h1
  simp only [Bool.and_eq_true,beq_iff_eq] at hb
  exact absurd hb.2 (hno e he hb.1)
 ·rcases h1 with h1 | h1
  ·exact h1
  ·rw [hnw] at h1;cases h1
theorem zcK (oi:Oper):∀ (l:List Oper) (k sl:Nat) (hp:Heap),(maskH oi l k sl hp).length=hp.length ∧
  (∀ (id:Nat) (b:Blk),(maskH oi l k sl hp)[id]?=some (some b)→hp[id]?=some (some b)) ∧
  ∀ (j:Nat) (o:Oper),l[j]?=some o→slotted o.op=true→noEdge oi (k+j)=true→∀ b:Blk,(maskH oi l k sl hp)[sl+before l j]?≠some (some b)
 | [],k,sl,hp=>⟨rfl,fun _ _ h=>h,fun j o h=>by simp at h⟩
 | u::l,k,sl,hp=>by
  have set_sub:∀ (id:Nat) (b:Blk),(hp.set sl none)[id]?=some (some b)→hp[id]?=some (some b):=fun id b h=>by
   by_cases e:sl=id
   ·subst e
    rw [List.getElem?_set] at h
    split at h
    ·split at h <;> simp at h
    ·exact h
   ·rwa [List.getElem?_set_ne e] at h
  have nset:∀ b:Blk,(hp.set sl none)[sl]?≠some (some b):=fun b h=>by
   rw [List.getElem?_set] at h
   split at h
   ·split at h <;> simp at h
   ·rename_i h';exact h' rfl
  cases hs:slotted u.op with
  | false =>
   have e:maskH oi (u::l) k sl hp=maskH oi l (k+1) sl hp:=by simp only [maskH,hs]
   rw [e]
   obtain ⟨q1,q2,q3⟩:=zcK oi l (k+1) sl hp
   refine ⟨q1,q2,fun j o hj hso hne=>?_⟩
   cases j with
   | zero=>simp at hj;subst hj;rw [hs] at hso;cases hso
   | succ j =>
    have:=q3 j o (by simpa using hj) hso (by rw [show k+1+j=k+(j+1) by omega];exact hne)
    simpa only [before,hs] using this
  | true =>
   cases he:noEdge oi k with
   | true =>
    have e:maskH oi (u::l) k sl hp=maskH oi l (k+1) (sl+1) (hp.set sl none):=by simp only [maskH,hs,he]
    rw [e]
    obtain ⟨q1,q2,q3⟩:=zcK oi l (k+1) (sl+1) (hp.set sl none)
    refine ⟨by rw [q1,List.length_set],fun id b h=>set_sub id b (q2 id b h),fun j o hj hso hne=>?_⟩
    cases j with
    | zero=>intro b h;exact nset b (q2 _ b (by simpa only [before,Nat.add_zero] using h))
    | succ j =>
     have:=q3 j o (by simpa using hj) hso (by rw [show k+1+j=k+(j+1) by omega];exact hne)
     simp only [before,hs]
     rwa [show sl+(before l j+1)=sl+1+before l j by omega]
   | false =>
    have e:maskH oi (u::l) k sl hp=maskH oi l (k+1) (sl+1) hp:=by simp only [maskH,hs,he]
    rw [e]
    obtain ⟨q1,q2,q3⟩:=zcK oi l (k+1) (sl+1) hp
    refine ⟨q1,q2,fun j o hj hso hne=>?_⟩
    cases j with
    | zero=>rw [Nat.add_zero,he] at hne;cases hne
    | succ j =>
     have:=q3 j o (by simpa using hj) hso (by rw [show k+1+j=k+(j+1) by omega];exact hne)
     simp only [before,hs]
     rwa [show sl+(before l j+1)=sl+1+before l j by omega]
theorem zef {tm:List AV} {oj:Oper} {idj:Option Nat}:∀ (l:List Oper) (k:Nat),loadsOK tm oj idj l k=true→∀ (i:Nat) (o:Oper) (T:TypeId) (x:Operand),l[i]?=some o→o.op=.load T x→noEdge oj (k+i)=true→diffId (ptrId (ev tm x)) idj=true
 | [],k,_,i,o,T,x,h,_,_=>by simp at h
 | u::l,k,h,i,o,T,x,hi,ho,hne=>by
  have hrec:loadsOK tm oj idj l (k+1)=true:=by
   simp only [loadsOK] at h
   split at h
   ·split at h
    ·simp only [Bool.and_eq_true] at h;exact h.2
    ·exact h
   ·exact h
  cases i with
  | succ i=>exact zef l (k+1) hrec i o T x (by simpa using hi) ho (by rw [show k+1+i=k+(i+1) by omega];exact hne)
  | zero =>
   simp at hi;subst hi
   simp only [loadsOK,ho] at h
   rw [Nat.add_zero] at hne
   rw [hne] at h
   simp only [Bool.and_eq_true] at h
   exact h.1
theorem zeh {ops:List Oper} {tm:List AV}:∀ (l:List Oper),pairsOK ops tm l=true→∀ (j:Nat) (oj:Oper) (T:TypeId) (x y:Operand),l[j]?=some oj→oj.op=.store T x y→loadsOK tm oj (ptrId (ev tm x)) ops 0=true
 | [],_,j,oj,T,x,y,h,_=>by simp at h
 | u::l,h,j,oj,T,x,y,hj,ho=>by
  cases j with
  | zero =>
   simp at hj;subst hj
   simp only [pairsOK,ho,Bool.and_eq_true] at h
   exact h.1
  | succ j =>
   refine zeh l ?_ j oj T x y (by simpa using hj) ho
   simp only [pairsOK] at h
   split at h
   ·simp only [Bool.and_eq_true] at h;exact h.2
   ·exact h
theorem ze0 {t:Tmp} {o:Oper} {r:List Oper} (h:keeps t (o::r)=true) (v:AV) (tm:List AV):getA (put o.dst v tm) t=getA tm t:=by
 simp only [keeps,Bool.and_eq_true] at h
 refine zeH fun d hd e=>?_
 have h1:=h.1
 rw [hd] at h1
 simp only [Bool.not_eq_true',beq_f] at h1
 exact h1 e.symm
theorem zjG {dr:Bool} {l:List Oper} {i:Nat} {o:Oper} {r:List Oper} {s s':St} {t:Tmp} (hk:keeps t (o::r)=true) (h:amStep E l dr base i o s=some s'):getA s'.tm t=getA s.tm t:=by
 obtain ⟨tm,hp⟩:=s
 unfold amStep at h
 dsimp only at h
 split at h
 ·unfold amOp at h
  dsimp only at h
  split at h
  ·split at h
   ·simp only [Option.some.injEq] at h;subst h;exact ze0 hk _ _
   ·simp at h
  ·split at h
   ·simp only [Option.some.injEq] at h;subst h;exact ze0 hk _ _
   ·simp at h
 ·simp only [Option.some.injEq] at h;subst h;exact ze0 hk _ _
 ·simp at h
theorem zgd {dr:Bool} {l:List Oper} {t:Tmp}:∀ (r:List Oper) (k:Nat) (s s':St),keeps t r=true→amOps E l dr base r k s=some s'→getA s'.tm t=getA s.tm t
 | [],k,s,s',_,h=>by simp only [amOps,Option.some.injEq] at h;subst h;rfl
 | o::r,k,s,s',hk,h=>by
  simp only [amOps] at h
  split at h
  ·rename_i s1 h1
   have hk':keeps t r=true:=by simp only [keeps,Bool.and_eq_true] at hk;exact hk.2
   rw [zgd r (k+1) s1 s' hk' h,zjG hk h1]
  ·simp at h
theorem zuL {dr:Bool} {l r:List Oper} {o:Oper} {k:Nat} {s s':St} {x:Operand} (hx:(∃ T,o.op=.load T x) ∨ ∃ T y,o.op=.store T x y) (hre:reOK (o::r)=true) (h:amOps E l dr base (o::r) k s=some s'):ev s.tm x=ev s'.tm x:=by
 cases x with
 | tmp t =>
  have ha:addrOf o.op=some t:=by
   rcases hx with ⟨T,h⟩ | ⟨T,y,h⟩ <;> rw [h] <;> rfl
  simp only [reOK,ha,Bool.and_eq_true] at hre
  exact (zgd (o::r) k s s' hre.1 h).symm
 | _=>rfl
theorem ziR {ρ:Operand→AV} {hp h0:Heap} {T:TypeId} {x:Operand} {v:AV} (h:readOp E ρ hp (.load T x)=some v) (hk:∀ (id:Nat) (b:Blk),ptrId (ρ x)=some id→hp[id]?=some (some b)→h0[id]?=some (some b)):readOp E ρ h0 (.load T x)=some v:=by
 simp only [readOp] at h ⊢
 split at h
 ·rename_i T' id sz i c ext hT hx
  split at h
  ·rename_i b hb hhb
   have:=hk id b (by rw [hx];rfl) hhb
   rw [this,hb];exact h
  ·simp at h
 ·rename_i hT hx
  exact h
 ·simp at h
theorem AStep.of_am {l:List Oper} {k:Nat} {o:Oper} {s s1 s':St} (hl:∀ j,(o::l)[j]?=ops[k+j]?) (hre:reOK (o::l)=true) (h:amOps E ops.toList true base (o::l) k s=some s') (h1:amStep E ops.toList true base k o s=some s1)
  (hp:pairsOK ops.toList s'.tm ops.toList=true):AStep E (Bl ops base s'.tm) (Wr ops s'.tm) ops.toList base k o s s1:=by
 have ho:ops.toList[k]?=some o:=by simpa using (hl 0).symm
 have hev:=fun x hx=>zuL (x:=x) hx hre h
 obtain ⟨tm,hp0⟩:=s
 unfold amStep at h1
 dsimp only at h1
 split at h1
 ·rename_i hw
  unfold amOp at h1
  dsimp only at h1
  split at h1
  ·rename_i hc
   split at h1
   case h_2=>simp at h1
   rename_i v hv
   simp only [Option.some.injEq] at h1;subst h1
   -- what the mask leaves
   have hmask:(maskIf true ops.toList base o hp0).length=hp0.length∧(∀ (id:Nat) (b:Blk),(maskIf true ops.toList base o hp0)[id]?=some (some b)→hp0[id]?=some (some b)) ∧
     ∀ (j:Nat) (u:Oper),ops.toList[j]?=some u→slotted u.op=true→noEdge o j=true→∀ b:Blk,(maskIf true ops.toList base o hp0)[base+before ops.toList j]?≠some (some b):=by
    unfold maskIf
    dsimp only
    split
    ·rename_i hbq
     exact ⟨rfl,fun _ _ h=>h,fun j u hj hs _=>by have:=zdk ops.toList j ops.toList.length u (List.getElem?_eq_some_iff.1 hj).1 hj hs;have:=beq_t.1 hbq;omega⟩
    ·obtain ⟨q1,q2,q3⟩:=zcK o ops.toList 0 base hp0
     exact ⟨q1,q2,fun j u hj hs hne=>q3 j u hj hs (by rw [Nat.zero_add];exact hne)⟩
   obtain ⟨m1,m2,m3⟩:=hmask
   by_cases hld:∃ T x,o.op=.load T x
   ·obtain ⟨T,x,hop⟩:=hld
    rw [hop] at hv
    classical
    let h0:Heap:=(maskIf true ops.toList base o hp0).mapIdx fun id b=>if Bl ops base s'.tm k id then none else b
    have hg:∀ (id:Nat) (b:Blk),h0[id]?=some (some b)→(maskIf true ops.toList base o hp0)[id]?=some (some b)∧¬ Bl ops base s'.tm k id:=by
     intro id b hb
     simp only [h0,List.getElem?_mapIdx,Option.map_eq_some_iff] at hb
     obtain ⟨a,ha,hif⟩:=hb
     split at hif
     ·cases hif
     ·rename_i hnb;rw [hif] at ha;exact ⟨ha,hnb⟩
    refine .rd (h0:=h0) hw hc ⟨by simp only [h0,List.length_mapIdx];exact m1,fun id b hb=>m2 id b (hg id b hb).1⟩ ?_ (fun id b hb=>(hg id b hb).2)
    rw [hop]
    refine ziR hv fun id b hid hb=>?_
    simp only [h0,List.getElem?_mapIdx,hb,Option.map_some,Option.some.injEq]
    rw [if_neg]
    rintro ⟨j,oj,oi,hj,hi,hor⟩
    rw [ho] at hi
    simp only [Option.some.injEq] at hi;subst hi
    rcases hor with ⟨z1,z2,z3⟩ | ⟨T2,x2,y2,T3,x3,z1,z2,z3,z4⟩
    ·rw [z3] at hb;exact m3 j oj hj z1 z2 b hb
    ·have hx3:x3=x:=by rw [hop] at z2;cases z2;rfl
     have q:=zeh _ hp j oj T2 x2 y2 hj z1
     have:=zef _ 0 q k o T x ho hop (by rw [Nat.zero_add];exact z3)
     have e:=hev x (.inl ⟨T,hop⟩)
     simp only at e
     rw [← e,hid,z4] at this
     simp [diffId,Nat.beq_eq] at this
   ·refine .rd hw hc ⟨m1,m2⟩ hv fun id b hb=>?_
    rintro ⟨j,oj,oi,hj,hi,hor⟩
    rw [ho] at hi
    simp only [Option.some.injEq] at hi;subst hi
    rcases hor with ⟨z1,z2,z3⟩ | ⟨T2,x2,y2,T3,x3,z1,z2,z3,z4⟩
    ·rw [z3] at hb;exact m3 j oj hj z1 z2 b hb
    ·exact hld ⟨_,_,z2⟩
  ·rename_i hc
   split at h1
   case h_2=>simp at h1
   rename_i v hp' hs
   simp only [Option.some.injEq] at h1;subst h1
   refine .fn hw hc hs fun T x y e=>?_
   have hs':=hs
   rw [e] at hs'
   obtain ⟨id,b,e1,e2⟩:=zhH hs'
   refine ⟨id,b,e1,o,T,x,y,ho,e,?_⟩
   have:=hev x (.inr ⟨T,y,e⟩)
   simp only at this
   rw [← this];exact e2
 ·rename_i hw
  simp only [Option.some.injEq] at h1;subst h1
  exact .no hw
 ·simp at h1
theorem zie (EO:EnvOK P E) {Fin:St→Prop} {F:List AV} (hp:pairsOK ops.toList F ops.toList=true):∀ (l:List Oper) (k:Nat) (listed:Array Bool) (s s':St),(∀ j,l[j]?=ops[k+j]?)→reOK l=true→lexFrom2 E.isW ops l.length k listed=true→Closed ops listed→Slots ops base listed s →
  amOps E ops.toList true base l k s=some s'→s'.tm=F→Fin s'→AmAny E (Bl ops base F) (Wr ops F) ops base Fin l.length listed s
 | [],k,listed,s,s',_,_,hB,_,_,h,_,hF=>by
  simp only [amOps,Option.some.injEq] at h;subst h
  exact ⟨by simpa [lexFrom2] using hB,hF⟩
 | o::l,k,listed,s,s',hl,hre,hB,hcl,hsl,h,hFe,hF=>by
  have h0:ops[k]?=some o:=by simpa using (hl 0).symm
  have h0':ops.toList[k]?=some o:=by simpa using h0
  simp only [List.length_cons,lexFrom2,Bool.and_eq_true] at hB
  obtain ⟨⟨hr,hf⟩,hB'⟩:=hB
  have hall:=h
  simp only [amOps] at h
  split at h
  ·rename_i s1 h1
   have hst:=AStep.of_am hl hre hall h1 (by rw [hFe];exact hp)
   rw [hFe] at hst
   have hre':reOK l=true:=by simp only [reOK,Bool.and_eq_true] at hre;exact hre.2
   refine zjp EO h0' l.length listed s s1 (fun j oj hj hne hun hno hnw=>?_) (by simpa using hr) hcl hst hsl
    (zie EO hp l (k+1) _ _ s' (fun j=>by have:=hl (j+1);simpa [Nat.add_assoc,Nat.add_comm 1 j] using this) hre' hB' (hcl.set (by simpa using hr)) (hsl.step EO h0' hst) h hFe hF)
   have hj':ops.toList[j]?=some oj:=by simpa using hj
   refine ⟨zlu h0 hf j oj hj hne hun hno hnw,fun hs=>⟨k,o,oj,h0',hj',.inl ⟨hs,zlj.2 hno,rfl⟩⟩,fun hls id hw=>?_⟩
   obtain ⟨oj',T,x,y,e1,e2,e3⟩:=hw
   rw [hj'] at e1
   simp only [Option.some.injEq] at e1;subst e1
   have:∃ T' x',o.op=.load T' x':=by
    cases hoo:o.op <;> rw [hoo,e2] at hls <;> first | exact ⟨_,_,rfl⟩ | (simp [ldSt] at hls)
   obtain ⟨T',x',e4⟩:=this
   exact ⟨j,oj,o,hj',h0',.inr ⟨T,x,y,T',x',e2,e4,zlj.2 hno,e3⟩⟩
  ·simp at h
end
end Go.AM
