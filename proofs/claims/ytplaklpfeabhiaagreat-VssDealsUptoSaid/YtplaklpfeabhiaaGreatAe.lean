/-
  Texts of the claim: Am54 Am56 Am57 Am58 Fe Fp Gf Pt4 FeIO Gf2 GfIO GfOut GfCan Prim Prim2.
-/
import Derived.Test.YtplaklpfeabhiaaGreatAc
import Derived.Test.YtplaklpfeabhiaaGreatAd
namespace Go.AM
open Go
abbrev Ks:=Nat→Option (List Sh)
def k33:Ks:=fun n=>match Nat.beq n 33 with | true=>some [.ints .i64 1,.ints .u8 32] | false=>none
def szSh:List Sh→Nat
 | []=>0
 | .ints _ n::r=>n+szSh r
 | _::r=>szSh r+1
def rowsAll (sh:List Sh) (n:Nat) (row:Nat→List Seg):Bool:=(List.range n).all fun j=>shB sh (row j)
def kS (K:Ks) (s:SV):Option (List Bool × SV):=match s with
 | .vrows true sz len row=>(match K sz with | some sh=>(match Nat.beq (szSh sh) sz with | true=>some ([rowsAll sh len row],.vrows true sz len (fun j=>shG sh (row j) 0)) | false=>none) | none=>none)
 | s=>match nfS 6 s with | true=>some ([],s) | false=>none
def kG (K:Ks):List Seg→Option (List Bool × List Seg)
 | []=>some ([],[])
 | .ints k n f::r=>(match kG K r with | some (b,r')=>some (b,.ints k n f::r') | none=>none)
 | .one v::r=>(match kS K v with | some (b,v')=>(match kG K r with | some (b',r')=>some (b++b',.one v'::r') | none=>none) | none=>none)
def kW (K:Ks):AV→Option (List Bool × AV)
 | .sc s=>(match kS K s with | some (b,s')=>some (b,.sc s') | none=>none)
 | .agg s=>(match kG K s with | some (b,s')=>some (b,.agg s') | none=>none)
 | _=>none
def kL (K:Ks):List AV→Option (List Bool × List AV)
 | []=>some ([],[])
 | a::r=>(match kW K a with | some (b,a')=>(match kL K r with | some (b',r')=>some (b++b',a'::r') | none=>none) | none=>none)
def kA (K:Ks):AV→Option (List Bool × AV)
 | .tup l=>(match kL K l with | some (b,l')=>some (b,.tup l') | none=>none)
 | a=>kW K a
def outR (K:Ks) (x:Option (Bool × (AV × Heap))):Option (Bool × (Bool × AV)) :=
 match x with
 | some (ck,(v,hp'))=>(match tupOK v with
  | true=>(match kA K (freeze hp' v) with | some (b,r)=>some (ck,(ckL b,normA r)) | none=>none)
  | false=>none)
 | none=>none
theorem zds {sh:List Sh} {n:Nat} {row:Nat→List Seg}:rowsAll sh n row=true ↔ ∀ j,j<n→shB sh (row j)=true:=by
 unfold rowsAll
 rw [List.all_eq_true]
 exact ⟨fun h j hj=>h j (List.mem_range.2 hj),fun h j hj=>h j (List.mem_range.1 hj)⟩
theorem zkJ:∀ (sh:List Sh) (s:List Seg),shB sh s=true→∀ c,c<lenS s→NF (cellAt s c)
 | [],s,h,c,hc=>by
  cases s with
  | nil=>simp [lenS] at hc
  | cons a r=>simp [shB] at h
 | .ints k n::t,s,h,c,hc=>by
  cases s with
  | nil=>simp [shB] at h
  | cons a r =>
   cases a with
   | one v=>simp [shB] at h
   | ints k' m f =>
    simp only [shB,Bool.and_eq_true,beq_t] at h
    rw [zai] at hc
    by_cases e:c<m
    ·rw [zac e];exact .int
    ·rw [zae (by omega) (by omega)]
     exact zkJ t r h.2.2 _ (by omega)
 | .vints k sz::t,s,h,c,hc=>by
  cases s with
  | nil=>simp [shB] at h
  | cons a r =>
   cases a with
   | ints k' m f=>simp [shB] at h
   | one v =>
    cases v <;> simp only [shB,Bool.and_eq_true,beq_t,Bool.false_eq_true] at h
    obtain ⟨rfl,h1,rfl,h2⟩:=h
    rw [zap] at hc
    cases c with
    | zero=>exact .vints
    | succ c=>rw [zag];exact zkJ t r h2 c (by omega)
 | .bool::t,s,h,c,hc=>by
  cases s with
  | nil=>simp [shB] at h
  | cons a r =>
   cases a with
   | ints k' m f=>simp [shB] at h
   | one v =>
    cases v <;> simp only [shB,Bool.false_eq_true] at h
    rw [zap] at hc
    cases c with
    | zero=>exact .bool
    | succ c=>rw [zag];exact zkJ t r h c (by omega)
theorem zho:∀ (sh:List Sh) (s:List Seg),shB sh s=true→lenS s=szSh sh
 | [],s,h=>by
  cases s with
  | nil=>rfl
  | cons a r=>simp [shB] at h
 | .ints k n::t,s,h=>by
  cases s with
  | nil=>simp [shB] at h
  | cons a r =>
   cases a with
   | one v=>simp [shB] at h
   | ints k' m f =>
    simp only [shB,Bool.and_eq_true,beq_t] at h
    rw [zai,zho t r h.2.2,← h.2.1];rfl
 | .vints k sz::t,s,h=>by
  cases s with
  | nil=>simp [shB] at h
  | cons a r =>
   cases a with
   | ints k' m f=>simp [shB] at h
   | one v =>
    cases v <;> simp only [shB,Bool.and_eq_true,beq_t,Bool.false_eq_true] at h
    rw [zap,zho t r h.2.2.2,Nat.add_comm];rfl
 | .bool::t,s,h=>by
  cases s with
  | nil=>simp [shB] at h
  | cons a r =>
   cases a with
   | ints k' m f=>simp [shB] at h
   | one v =>
    cases v <;> simp only [shB,Bool.false_eq_true] at h
    rw [zap,zho t r h,Nat.add_comm];rfl
def Tw (s s':SV):Prop:=NF s∧∀ {σ:Sg} {pr:Pr} {w:World} {v:Value},RS σ pr w s v→RS σ pr w s' v
theorem znF {K:Ks} {s s':SV} {b:List Bool} (h:kS K s=some (b,s')) (hb:∀ x ∈ b,x=true):Tw s s':=by
 have plain:(match nfS 6 s with | true=>some (([]:List Bool),s) | false=>none)=some (b,s')→Tw s s':=fun h=>by
  split at h
  ·rename_i hn
   simp only [Option.some.injEq,Prod.mk.injEq] at h
   obtain ⟨_,rfl⟩:=h
   exact ⟨zbT 6 s hn,fun hv=>hv⟩
  ·simp at h
 unfold kS at h
 split at h
 ·clear plain
  rename_i sz len row
  split at h
  case h_2=>simp at h
  rename_i sh hK
  split at h
  case h_2=>simp at h
  rename_i hz
  have hz:=beq_t.1 hz
  simp only [Option.some.injEq,Prod.mk.injEq] at h
  obtain ⟨rfl,rfl⟩:=h
  have hr:∀ j,j<len→shB sh (row j)=true:=zds.1 (hb _ (List.mem_singleton.2 rfl))
  have hl:∀ j,j<len→lenS (row j)=sz:=fun j hj=>by rw [zho sh _ (hr j hj),hz]
  refine ⟨.vrows fun j hj c hc=>zkJ sh _ (hr j hj) c (by rw [hl j hj];exact hc),fun hv=>?_⟩
  cases hv with
  | vrows0=>exact .vrows0
  | vrows vs q1 q2 q3 q4 q5 =>
   have each:∀ j,j<len→lenS (shG sh (row j) 0)=lenS (row j)∧∀ c,c<lenS (row j)→cellAt (shG sh (row j) 0) c=cellAt (row j) c:=fun j hj =>
    zcS sh (row j) (row j) 0 (hr j hj) fun c _=>by rw [Nat.zero_add]
   exact .vrows vs q1 q2 (fun j hj c hc=>by rw [(each j hj).2 c (Nat.lt_of_lt_of_le hc (q4 j hj))];exact q3 j hj c hc) (fun j hj=>by rw [(each j hj).1];exact q4 j hj) q5
 ·exact plain h
theorem zi1 {K:Ks}:∀ {s s':List Seg} {b:List Bool},kG K s=some (b,s')→(∀ x ∈ b,x=true)→lenS s'=lenS s∧∀ c,c<lenS s→Tw (cellAt s c) (cellAt s' c)
 | [],s',b,h,_=>by
  simp only [kG,Option.some.injEq,Prod.mk.injEq] at h
  obtain ⟨_,rfl⟩:=h
  exact ⟨rfl,fun c hc=>by simp [lenS] at hc⟩
 | .ints k n f::r,s',b,h,hb=>by
  simp only [kG] at h
  split at h
  case h_2=>simp at h
  rename_i b' r' hr
  simp only [Option.some.injEq,Prod.mk.injEq] at h
  obtain ⟨rfl,rfl⟩:=h
  obtain ⟨e1,e2⟩:=zi1 hr hb
  rw [zai,zai,e1]
  refine ⟨rfl,fun c hc=>?_⟩
  by_cases e:c<n
  ·rw [zac e,zac e];exact ⟨.int,fun h=>h⟩
  ·rw [zae (by omega) (by omega),zae (by omega) (by omega)]
   exact e2 _ (by omega)
 | .one u::r,s',b,h,hb=>by
  simp only [kG] at h
  split at h
  case h_2=>simp at h
  rename_i b1 u' hu
  split at h
  case h_2=>simp at h
  rename_i b' r' hr
  simp only [Option.some.injEq,Prod.mk.injEq] at h
  obtain ⟨rfl,rfl⟩:=h
  obtain ⟨e1,e2⟩:=zi1 hr (fun x hx=>hb x (List.mem_append_right _ hx))
  rw [zap,zap,e1]
  refine ⟨rfl,fun c hc=>?_⟩
  cases c with
  | zero=>exact znF hu (fun x hx=>hb x (List.mem_append_left _ hx))
  | succ c=>rw [zag,zag];exact e2 c (by omega)
theorem zgT {K:Ks} {a a':AV} {b:List Bool} (h:kW K a=some (b,a')) (hb:∀ x ∈ b,x=true):NFA a∧∀ {σ:Sg} {pr:Pr} {w:World} {v:Value},RW σ pr w a v→RW σ pr w a' v:=by
 cases a with
 | any=>simp [kW] at h
 | tup l=>simp [kW] at h
 | sc s =>
  simp only [kW] at h
  split at h
  case h_2=>simp at h
  rename_i b' s' hs
  simp only [Option.some.injEq,Prod.mk.injEq] at h
  obtain ⟨rfl,rfl⟩:=h
  have:=znF hs hb
  exact ⟨this.1,fun hv=>this.2 hv⟩
 | agg s =>
  simp only [kW] at h
  split at h
  case h_2=>simp at h
  rename_i b' s' hs
  simp only [Option.some.injEq,Prod.mk.injEq] at h
  obtain ⟨rfl,rfl⟩:=h
  obtain ⟨e1,e2⟩:=zi1 hs hb
  refine ⟨fun c hc=>(e2 c hc).1,fun hv=>?_⟩
  obtain ⟨cs,rfl,g1,g2⟩:=hv
  exact ⟨cs,rfl,by rw [g1,e1],fun c v hv=>(e2 c (by rw [← g1];exact (List.getElem?_eq_some_iff.1 hv).1)).2 (g2 c v hv)⟩
theorem znG {K:Ks}:∀ {l l':List AV} {b:List Bool},kL K l=some (b,l')→(∀ x ∈ b,x=true)→l'.length=l.length∧∀ (i:Nat) (a a':AV),l[i]?=some a→l'[i]?=some a'→∃ b',kW K a=some (b',a')∧∀ x ∈ b',x=true
 | [],l',b,h,_=>by
  simp only [kL,Option.some.injEq,Prod.mk.injEq] at h
  obtain ⟨_,rfl⟩:=h
  exact ⟨rfl,fun i a a' h=>by simp at h⟩
 | a::r,l',b,h,hb=>by
  simp only [kL] at h
  split at h
  case h_2=>simp at h
  rename_i b1 a1 ha
  split at h
  case h_2=>simp at h
  rename_i b2 r1 hr
  simp only [Option.some.injEq,Prod.mk.injEq] at h
  obtain ⟨rfl,rfl⟩:=h
  obtain ⟨e1,e2⟩:=znG hr (fun x hx=>hb x (List.mem_append_right _ hx))
  refine ⟨by simp [e1],fun i a0 a' h0 hi=>?_⟩
  cases i with
  | zero =>
   simp only [List.getElem?_cons_zero,Option.some.injEq] at hi h0
   subst hi h0
   exact ⟨b1,ha,fun x hx=>hb x (List.mem_append_left _ hx)⟩
  | succ i=>exact e2 i a0 a' (by simpa using h0) (by simpa using hi)
theorem zuf {K:Ks} {a a':AV} {b:List Bool} (h:kA K a=some (b,a')) (hb:∀ x ∈ b,x=true):NFA a∧∀ {σ:Sg} {pr:Pr} {w:World} {v:Value},RV σ pr w a v→RV σ pr w a' v:=by
 cases a with
 | any=>simp [kA,kW] at h
 | sc s =>
  have h:kW K (.sc s)=some (b,a'):=h
  obtain ⟨h1,h2⟩:=zgT h hb
  exact ⟨h1,fun hv=>.of_rw (h2 hv)⟩
 | agg s =>
  have h:kW K (.agg s)=some (b,a'):=h
  obtain ⟨h1,h2⟩:=zgT h hb
  exact ⟨h1,fun hv=>.of_rw (h2 hv)⟩
 | tup l =>
  simp only [kA] at h
  split at h
  case h_2=>simp at h
  rename_i b' l' hl
  simp only [Option.some.injEq,Prod.mk.injEq] at h
  obtain ⟨rfl,rfl⟩:=h
  obtain ⟨e1,e2⟩:=znG hl hb
  have at_:∀ (i:Nat) (a:AV),l[i]?=some a→∃ a' b',l'[i]?=some a'∧kW K a=some (b',a')∧∀ x ∈ b',x=true:=fun i a ha=>by
   have hi:=(List.getElem?_eq_some_iff.1 ha).1
   obtain ⟨b',z1,z2⟩:=e2 i a l'[i] ha (List.getElem?_eq_getElem (by omega))
   exact ⟨_,b',List.getElem?_eq_getElem (by omega),z1,z2⟩
  refine ⟨fun i a ha=>?_,fun hv=>?_⟩
  ·obtain ⟨a',b',_,z2,z3⟩:=at_ i a ha
   have:=(zgT z2 z3).1
   cases a with
   | any=>trivial
   | tup l=>trivial
   | sc s=>exact this
   | agg s=>exact this
  ·obtain ⟨vs,rfl,q1,q2⟩:=hv
   refine ⟨vs,rfl,by rw [q1,e1],fun i a' x ha' hx=>?_⟩
   have hi:=(List.getElem?_eq_some_iff.1 ha').1
   obtain ⟨b',z1,z2⟩:=e2 i l[i] a' (List.getElem?_eq_getElem (by omega)) ha'
   exact (zgT z1 z2).2 (q2 i l[i] x (List.getElem?_eq_getElem (by omega)) hx)
section
variable {P:Program} {tt:TT} {ts:List (Nat × TF)} {ws:List (Nat × WF)}
theorem zbE (L:LibOK P tt ts ws) {f:FuncId} {fn:Func} (hf:P.funcs[f]?=some fn) {ls:List (Nat × LF)} (hl:LsOK P fn ls) (hc:fnChk P (envL tt ts ws ls) fn=true) {N:Nat} {gs:Guess} {args:List AV} {r:AV} (K:Ks)
  (h:outR K (apFunc (envL tt ts ws ls) gs N fn args [])=some (true,(true,r))):Pure P f args r:=by
 unfold outR at h
 split at h
 case h_2=>simp at h
 rename_i ck v hp' hap
 split at h
 case h_2=>simp at h
 rename_i hb
 split at h
 case h_2=>simp at h
 rename_i b r0 hk
 simp only [Option.some.injEq,Prod.mk.injEq] at h
 obtain ⟨h1,h2,rfl⟩:=h
 obtain ⟨k1,k2⟩:=zuf hk (ckL_t.1 h2)
 refine Pure.norm fun pr w vs ha hlt=>?_
 rcases zfv L hf hl hc hap h1 hb rfl k1 pr w vs ha hlt with ⟨val,q1,q2⟩ | ⟨q1,q2⟩
 ·exact .inl ⟨val,q1,k2 q2⟩
 ·exact .inr ⟨q1,q2.mono fun e w' hq=>by
   obtain ⟨val,he,hb,hv⟩:=hq
   exact ⟨val,he,hb,k2 hv⟩⟩
end
end Go.AM
namespace Go.AM
open Go Go.RowKit
def Tl (a b:SV):Prop:=∀ (σ:Sg) (pr:Pr) (w:World) (x:Value),RS σ pr w a x→RS σ pr w b x
theorem Tl.refl (a:SV):Tl a a:=fun _ _ _ _ h=>h
def BTold (b c:Blk):Prop:=c.sz=b.sz∧c.n=b.n∧(∀ i,i<b.n→(b.sz≤lenS (b.segs i)→b.sz≤lenS (c.segs i))∧∀ d,d<b.sz→Tl (cellAt (b.segs i) d) (cellAt (c.segs i) d))∧MLe Tl b c
theorem BTold.refl (b:Blk):BTold b b:=⟨rfl,rfl,fun _ _=>⟨fun h=>h,fun _ _=>Tl.refl _⟩,MLe.refl Tl.refl b⟩
theorem BTold.one {sz:Nat} {row row':Nat→List Seg} (h:row 0=row' 0):BTold (.mix sz 1 row) (.mix sz 1 row'):=⟨rfl,rfl,fun i hi=>by
 have hi:i<1:=hi
 obtain rfl:i=0:=by omega
 show (sz≤lenS (row 0)→sz≤lenS (row' 0))∧∀ d,d<sz→Tl (cellAt (row 0) d) (cellAt (row' 0) d)
 rw [h]
 exact ⟨fun h=>h,fun _ _=>Tl.refl _⟩,MLe.no rfl rfl⟩
def HTold (s t:Heap):Prop:=t.length=s.length∧∀ (id:Nat) (c:Blk),t[id]?=some (some c)→∃ b,s[id]?=some (some b)∧BTold b c
section
variable {P:Program} {w0 w:World} {own0:Own} {σ:Sg} {pr:Pr}
theorem HI.told {s t:Heap} (H:HI w0 own0 σ pr s w) (h:HTold s t):HI w0 own0 σ pr t w:=by
 refine ⟨fun id hid=>H.fresh id (by rw [← h.1];exact hid),fun id c hc=>?_,fun id id' c c' g x x' h1 h2 h3 h4=>?_,fun id c hc i hi=>?_,H.ev,H.prlt,H.prnew⟩
 ·obtain ⟨b,hb,e1,e2,e3,e4⟩:=h.2 id c hc
  rcases H.blk id b hb with ⟨q1,q2⟩ | ⟨g,q1,q2⟩
  ·exact .inl ⟨q1,by rw [e2];exact q2⟩
  ·exact .inr ⟨g,by rw [e1,e2];exact q1,q2.told q2.free (R:=Tl) (fun s t v hr hv=>hr _ _ _ _ hv) e1 e2 (fun i hi d hd=>(e3 i hi).2 d hd) e4⟩
 ·obtain ⟨b,hb,_⟩:=h.2 id c h1
  obtain ⟨b',hb',_⟩:=h.2 id' c' h2
  exact H.inj id id' b b' g x x' hb hb' h3 h4
 ·obtain ⟨b,hb,e1,e2,e3,_⟩:=h.2 id c hc
  rw [e2] at hi
  rw [e1]
  exact (e3 i hi).1 (H.lens id b hb i hi)
end
end Go.AM
namespace Go.AM
open Go Go.RowKit
def FzS (zs:List Nat) (hp:Heap) (a b:SV):Prop:=∀ (w0:World) (own0:Own) (σ:Sg) (pr:Pr) (w:World) (x:Value),HI w0 own0 σ pr hp w→RS σ pr w a x→RS σ (frG σ pr hp zs) w b x
theorem FzS.refl (zs:List Nat) (hp:Heap) (a:SV):FzS zs hp a a:=fun w0 own0 σ pr w x H h=>h.mono (zks σ)
theorem FzS.snap {zs:List Nat} {hp:Heap} {a b:SV} (h:svR (fun _=>none) 0 (snapSV true (keepZ zs hp 0) 9 a) b=true):FzS zs hp a b:=fun w0 own0 σ pr w x H hx=>by
 have h1:=zbz true (H.keepZ zs) 9 a x hx
 have h2:=zbU _ _ h noσ _ w x h1
 exact h2.mono (by
  refine ⟨fun id y hy=>?_,fun _ _ q=>q,fun _ _ _=>rfl,fun b cells T fz q=>⟨cells,fz,q,rfl⟩,Nat.le_refl _⟩
  simp only [renG] at hy
  split at hy
  ·simp at hy
  ·cases hy)
structure HFz (zs:List Nat) (hp t:Heap):Prop where
 len:t.length=hp.length
 blk:∀ (id:Nat) (c:Blk),t[id]?=some (some c)→∃ b,isZ zs id=false∧hp[id]?=some (some b)∧c.sz=b.sz∧c.n=b.n ∧
  (∀ i,i<b.n→(b.sz≤lenS (b.segs i)→b.sz≤lenS (c.segs i))∧∀ d,d<b.sz→FzS zs hp (cellAt (b.segs i) d) (cellAt (c.segs i) d))∧MLe (FzS zs hp) b c
theorem HI.fz {w0 w:World} {own0:Own} {σ:Sg} {pr:Pr} {zs:List Nat} {hp t:Heap} (H:HI w0 own0 σ pr hp w) (h:HFz zs hp t):HI w0 own0 σ (frG σ pr hp zs) t w:=by
 have hfr:∀ t g,frG σ pr hp zs t g→pr t g ∨ (t=true∧∃ id blk x,isZ zs id=true∧hp[id]?=some (some blk)∧σ id=some (g,x)):=fun t g h=>by
  rcases h with h | ⟨h,id,blk,x,e1,e2⟩
  ·exact .inl h
  ·obtain ⟨q1,q2⟩:=zbw _ _ _ _ _ e1
   rw [Nat.zero_add] at q1
   exact .inr ⟨h,id,blk,x,q1,q2,e2⟩
 refine ⟨fun id hid=>H.fresh id (by rw [← h.len];exact hid),fun id c hc=>?_,fun id id' c c' g x x' h1 h2 h3 h4=>?_,fun id c hc i hi=>?_,H.ev,fun t b h=>?_,fun t b h=>?_⟩
 ·obtain ⟨b,hz,hb,e1,e2,hcell,hm⟩:=h.blk id c hc
  rcases H.blk id b hb with ⟨q1,q2⟩ | ⟨g,q1,q2⟩
  ·exact .inl ⟨q1,by rw [e2];exact q2⟩
  ·refine .inr ⟨g,by rw [e1,e2];exact q1,q2.told (R:=FzS zs hp) (fun t ht=>?_) (fun s t v hr hv=>hr _ _ _ _ _ _ H hv) e1 e2 (fun i hi d hd=>(hcell i hi).2 d hd) hm⟩
   rcases hfr t g ht with h | ⟨_,id',blk,x,z1,z2,z3⟩
   ·exact q2.free t h
   ·have:=H.inj id' id blk b g _ _ z2 hb z3 q1
    rw [this,hz] at z1;cases z1
 ·obtain ⟨b,_,hb,_⟩:=h.blk id c h1
  obtain ⟨b',_,hb',_⟩:=h.blk id' c' h2
  exact H.inj id id' b b' g x x' hb hb' h3 h4
 ·obtain ⟨b,hz,hb,e1,e2,hcell,_⟩:=h.blk id c hc
  rw [e2] at hi
  rw [e1]
  exact (hcell i hi).1 (H.lens id b hb i hi)
 ·rcases hfr t b h with h | ⟨_,id,blk,x,z1,z2,z3⟩
  ·exact H.prlt t b h
  ·rcases H.blk id blk z2 with ⟨q1,_⟩ | ⟨g,q1,q2⟩
   ·rw [q1] at z3;cases z3
   ·rw [q1] at z3
    simp only [Option.some.injEq,Prod.mk.injEq] at z3
    rw [← z3.1];exact q2.lt
 ·rcases hfr t b h with h | ⟨ht,id,blk,x,z1,z2,z3⟩
  ·exact H.prnew t b h
  ·rcases H.blk id blk z2 with ⟨q1,_⟩ | ⟨g,q1,q2⟩
   ·rw [q1] at z3;cases z3
   ·rw [q1] at z3
    simp only [Option.some.injEq,Prod.mk.injEq] at z3
    rw [← z3.1];exact .inr ⟨ht,q2.own⟩
end Go.AM
namespace Go.AM
open Go
inductive Runs (P:Program) (N n:Nat) (body:Code):St→Ex→St→Prop where
 | stop {s:St} {e:Ex} {t:St}:Rd P N n body s e t→Runs P N n body s e t
 | step {s s1:St} {e:Ex} {t:St}:Rd P N n body s .normal s1→n≤s1.hp.length→Runs P N n body s1 e t→Runs P N n body s e t
theorem Runs.seq {P:Program} {N n:Nat} {body:Code} {s t:St} {e:Ex} (h:Runs P N n body s e t):n≤s.hp.length →
  ∃ (m:Nat) (S:Nat→St),S 0=s∧(∀ k,k≤m→n≤(S k).hp.length)∧(∀ k,k<m→Rd P N n body (S k) .normal (S (k+1)))∧Rd P N n body (S m) e t:=by
 induction h with
 | @stop s e t h=>exact fun hn=>⟨0,fun _=>s,rfl,fun _ _=>hn,fun k hk=>absurd hk (Nat.not_lt_zero k),h⟩
 | @step s s1 e t h1 hl _ ih =>
  intro hn
  obtain ⟨m,S,e0,a,b,c⟩:=ih hl
  refine ⟨m+1,fun k=>match k with | 0=>s | k+1=>S k,rfl,fun k hk=>?_,fun k hk=>?_,c⟩
  ·cases k with
   | zero=>exact hn
   | succ k=>exact a k (by omega)
  ·cases k with
   | zero=>show Rd P N n body s .normal (S 0);rw [e0];exact h1
   | succ k=>exact b k (by omega)
theorem LRow.runs {P:Program} (hm:P.follows .mixedOrders=true) {fn:Func} {id N n:Nat} {l:List Nat} {body:Code} {S0:St} {ex:Ex} {T:St} (hb:fn.body.map (bodiesOf id)=some [.loop body])
  (hn:Nat.ble n S0.hp.length=true) (h:∃ e1,leave id e1=some ex∧Runs P N n body S0 e1 T):LRow P fn id (AM.famV n l S0 ex T):=by
 obtain ⟨e1,h1,h2⟩:=h
 obtain ⟨m,S,e0,a,b,c⟩:=h2.seq (Nat.le_of_ble_eq_true hn)
 rw [← e0]
 exact LRow.famV hm m hb a b ⟨e1,h1,c⟩
theorem bifS {α:Type} {c:Bool} {a b:Option α} {o:α} (h:(bif c then a else b)=some o):(c=true∧a=some o) ∨ (c=false∧b=some o):=by
 cases c with
 | true=>exact .inl ⟨rfl,h⟩
 | false=>exact .inr ⟨rfl,h⟩
theorem eqF_1 (sz:Nat) (f g:Nat→Nat→Int):eqF 1 sz f g=eqN sz (f 0) (g 0):=by simp [eqF]
theorem o1 {α:Type} {a:Bool} {v:α} (h:a=true):some (a,v)=some (true,v):=by rw [h]
theorem o2 {α:Type} {a b:Bool} {v:α} (h:a=true) (h2:b=true):some (a,(b,v))=some (true,(true,v)):=by rw [h,h2]
def insB:Nat→Bool→List Bool→List Bool
 | 0,z,l=>z::l
 | k+1,z,a::l=>a::insB k z l
 | _+1,z,[]=>[z]
theorem ckIns (k:Nat) {Z:Bool} {l:List Bool} (hZ:Z=true) (h:ckL l=true):ckL (insB k Z l)=true:=by
 have key:∀ (k:Nat) (l:List Bool),(∀ b ∈ l,b=true)→∀ b ∈ insB k Z l,b=true:=by
  intro k
  induction k with
  | zero =>
   intro l h b hb
   rcases List.mem_cons.1 hb with e | e
   ·rw [e];exact hZ
   ·exact h b e
  | succ k ih =>
   intro l h b hb
   cases l with
   | nil=>rw [List.mem_singleton.1 hb];exact hZ
   | cons a l =>
    rcases List.mem_cons.1 hb with e | e
    ·rw [e];exact h a (List.mem_cons_self)
    ·exact ih l (fun c hc=>h c (List.mem_cons_of_mem _ hc)) b e
 exact ckL_t.2 (key k l (ckL_t.1 h))
theorem andB {a b:Bool} (h:(a&&b)=true):a=true∧b=true:=by simpa using h
end Go.AM
namespace Go.AM
open Go
def u5 (a:Nat→Int):AV:=.agg [.ints .u64 5 a]
def carL (a:Nat→Int):List Int :=
 [a 0 % 2251799813685248+19*(a 4 / 2251799813685248),a 1 % 2251799813685248+a 0 / 2251799813685248,a 2 % 2251799813685248+a 1 / 2251799813685248,a 3 % 2251799813685248+a 2 / 2251799813685248,a 4 % 2251799813685248+a 3 / 2251799813685248]
def m51 (x:Int):Int:=iand .u64 x 2251799813685247
def s51 (x:Int):Int:=ishr .u64 x 51
def carRaw (a:Nat→Int):List Int :=
 [wr .u64 (m51 (a 0)+wr .u64 (19*s51 (a 4))),wr .u64 (m51 (a 1)+s51 (a 0)),wr .u64 (m51 (a 2)+s51 (a 1)),wr .u64 (m51 (a 3)+s51 (a 2)),wr .u64 (m51 (a 4)+s51 (a 3))]
theorem zbc {x:Int} (hx:0≤x∧x<18446744073709551616):m51 x=x % 2251799813685248:=by
 have h1:BitVec.ofInt 64 x=BitVec.ofNat 64 x.toNat:=by
  apply BitVec.eq_of_toNat_eq
  simp only [BitVec.toNat_ofInt,BitVec.toNat_ofNat]
  have:(x % (2 ^ 64:Nat)).toNat=x.toNat % 2 ^ 64:=by omega
  exact this
 have h2:x.toNat<18446744073709551616:=by omega
 have h3:(BitVec.ofInt 64 x &&& BitVec.ofInt 64 2251799813685247).toNat=x.toNat % 2251799813685248:=by
  rw [h1,BitVec.toNat_and,BitVec.toNat_ofNat]
  have:(BitVec.ofInt 64 2251799813685247).toNat=2251799813685248 - 1:=by decide
  rw [this,Nat.mod_eq_of_lt h2]
  exact Nat.and_two_pow_sub_one_eq_mod x.toNat 51
 show wr .u64 ((BitVec.ofInt 64 x &&& BitVec.ofInt 64 2251799813685247).toNat:Int)=_
 rw [h3,wr64]
 omega
theorem zo3 (x:Int):s51 x=x / 2251799813685248:=ishr8 x 51 (by omega)
theorem zvs {a:Nat→Int} (h:inU5 a=true):carRaw a=carL a:=by
 obtain ⟨h0,h1,h2,h3,h4⟩:=zdr h
 simp only [carRaw,carL,zbc h0,zbc h1,zbc h2,zbc h3,zbc h4,zo3,wr64]
 have e1:∀ x y:Int,0≤x∧x<18446744073709551616→0≤y∧y<18446744073709551616→(x % 2251799813685248+y / 2251799813685248) % 18446744073709551616=x % 2251799813685248+y / 2251799813685248:=fun x y hx hy=>by omega
 rw [e1 _ _ h1 h0,e1 _ _ h2 h1,e1 _ _ h3 h2,e1 _ _ h4 h3]
 congr 1
 omega
def addL (a b:Nat→Int):List Int :=
 [(a 0+b 0) % 18446744073709551616,(a 1+b 1) % 18446744073709551616,(a 2+b 2) % 18446744073709551616,(a 3+b 3) % 18446744073709551616,(a 4+b 4) % 18446744073709551616]
def subL (a b:Nat→Int):List Int :=
 [(a 0+4503599627370458 - b 0) % 18446744073709551616,(a 1+4503599627370494 - b 1) % 18446744073709551616,(a 2+4503599627370494 - b 2) % 18446744073709551616,(a 3+4503599627370494 - b 3) % 18446744073709551616,(a 4+4503599627370494 - b 4) % 18446744073709551616]
def feAdd (a b:Nat→Int):List Int:=carL (lf (addL a b))
def feSub (a b:Nat→Int):List Int:=carL (lf (subL a b))
theorem zn4 (a b c d e:Int):inU5 (lf [a % 18446744073709551616,b % 18446744073709551616,c % 18446744073709551616,d % 18446744073709551616,e % 18446744073709551616])=true:=by
 simp only [inU5,lf,zbJ,Bool.and_self]
theorem ziz (a b:Nat→Int):inU5 (lf (addL a b))=true:=zn4 ..
theorem zhw (a b:Nat→Int):inU5 (lf (subL a b))=true:=zn4 ..
def wS (w:Int × Int) (x y:Int):Int × Int:=(addLo w.1 (x*y / 18446744073709551616) (addC w.2 (x*y % 18446744073709551616) false),addLo w.2 (x*y % 18446744073709551616) false)
def wF (x0 y0 x1 y1 x2 y2 x3 y3 x4 y4:Int):Int × Int:=wS (wS (wS (wS (wS (0,0) x0 y0) x1 y1) x2 y2) x3 y3) x4 y4
def cS (w:Int × Int) (c:Int):Int × Int :=
 (m51 (addLo w.2 c false),ior .u64 (ishl .u64 (wr .u64 (w.1+b2i (addC w.2 c false))) 13) (s51 (addLo w.2 c false)))
def mulRaw (a b:Nat→Int):List Int :=
 let s0:=cS (wF (a 0) (b 0) (wr .u64 (19*a 1)) (b 4) (wr .u64 (19*a 2)) (b 3) (wr .u64 (19*a 3)) (b 2) (wr .u64 (19*a 4)) (b 1)) 0
 let s1:=cS (wF (a 0) (b 1) (a 1) (b 0) (wr .u64 (19*a 2)) (b 4) (wr .u64 (19*a 3)) (b 3) (wr .u64 (19*a 4)) (b 2)) s0.2
 let s2:=cS (wF (a 0) (b 2) (a 1) (b 1) (a 2) (b 0) (wr .u64 (19*a 3)) (b 4) (wr .u64 (19*a 4)) (b 3)) s1.2
 let s3:=cS (wF (a 0) (b 3) (a 1) (b 2) (a 2) (b 1) (a 3) (b 0) (wr .u64 (19*a 4)) (b 4)) s2.2
 let s4:=cS (wF (a 0) (b 4) (a 1) (b 3) (a 2) (b 2) (a 3) (b 1) (a 4) (b 0)) s3.2
 [wr .u64 (s0.1+wr .u64 (19*s4.2)),s1.1,s2.1,s3.1,s4.1]
def vS (s c:Int):Int:=(s+c) % 340282366920938463463374607431768211456
def vC (v:Int):Int:=v / 2251799813685248 % 18446744073709551616
def mulL (a b:Nat→Int):List Int :=
 let n1:=19*a 1 % 18446744073709551616
 let n2:=19*a 2 % 18446744073709551616
 let n3:=19*a 3 % 18446744073709551616
 let n4:=19*a 4 % 18446744073709551616
 let v0:=vS (a 0*b 0+n1*b 4+n2*b 3+n3*b 2+n4*b 1) 0
 let v1:=vS (a 0*b 1+a 1*b 0+n2*b 4+n3*b 3+n4*b 2) (vC v0)
 let v2:=vS (a 0*b 2+a 1*b 1+a 2*b 0+n3*b 4+n4*b 3) (vC v1)
 let v3:=vS (a 0*b 3+a 1*b 2+a 2*b 1+a 3*b 0+n4*b 4) (vC v2)
 let v4:=vS (a 0*b 4+a 1*b 3+a 2*b 2+a 3*b 1+a 4*b 0) (vC v3)
 [(v0 % 2251799813685248+19*vC v4) % 18446744073709551616,v1 % 2251799813685248,v2 % 2251799813685248,v3 % 2251799813685248,v4 % 2251799813685248]
def feMul (a b:Nat→Int):List Int:=carL (lf (mulL a b))
abbrev U64 (x:Int):Prop:=0≤x∧x<18446744073709551616
theorem ziD {w:Int × Int} {x y s:Int} (h1:U64 w.1) (h2:U64 w.2) (hx:U64 x) (hy:U64 y) (hs:18446744073709551616*w.1+w.2=s % 340282366920938463463374607431768211456) :
  U64 (wS w x y).1∧U64 (wS w x y).2∧18446744073709551616*(wS w x y).1+(wS w x y).2=(s+x*y) % 340282366920938463463374607431768211456:=by
 have hp:=zaC hx hy
 obtain ⟨c,r,hc,hr,hv,hr0,hr1⟩:=split64 (x*y)
 unfold wS
 rw [hc,hr]
 generalize x*y=p at *
 dsimp only
 by_cases e:18446744073709551616≤w.2+r+b2i false
 ·rw [show addC w.2 r false=true by unfold addC;simpa using e]
  simp only [addLo,b2i] at *
  omega
 ·rw [show addC w.2 r false=false by unfold addC;simpa using e]
  simp only [addLo,b2i] at *
  omega
theorem zhy {x0 y0 x1 y1 x2 y2 x3 y3 x4 y4:Int} (a0:U64 x0) (b0:U64 y0) (a1:U64 x1) (b1:U64 y1) (a2:U64 x2) (b2:U64 y2) (a3:U64 x3) (b3:U64 y3) (a4:U64 x4) (b4:U64 y4) :
  U64 (wF x0 y0 x1 y1 x2 y2 x3 y3 x4 y4).1∧U64 (wF x0 y0 x1 y1 x2 y2 x3 y3 x4 y4).2 ∧
  18446744073709551616*(wF x0 y0 x1 y1 x2 y2 x3 y3 x4 y4).1+(wF x0 y0 x1 y1 x2 y2 x3 y3 x4 y4).2=(x0*y0+x1*y1+x2*y2+x3*y3+x4*y4) % 340282366920938463463374607431768211456:=by
 have q0:=ziD (w:=(0,0)) (s:=0) (by decide) (by decide) a0 b0 (by decide)
 have q1:=ziD q0.1 q0.2.1 a1 b1 q0.2.2
 have q2:=ziD q1.1 q1.2.1 a2 b2 q1.2.2
 have q3:=ziD q2.1 q2.2.1 a3 b3 q2.2.2
 have q4:=ziD q3.1 q3.2.1 a4 b4 q3.2.2
 rw [Int.zero_add] at q4
 exact q4
theorem or13 {h l:Int} (hh:U64 h) (hl:0≤l∧l<8192):ior .u64 (ishl .u64 h 13) l=(h*8192+l) % 18446744073709551616:=by
 have e1:ishl .u64 h 13=h*8192 % 18446744073709551616:=by
  show wr .u64 (h*2 ^ (min (13:Int).toNat 64))=_
  rw [wr64];rfl
 rw [e1,ior64 ⟨by omega,by omega⟩ ⟨hl.1,by omega⟩]
 have e2:(h*8192 % 18446744073709551616).toNat=2 ^ 13*(h % 2251799813685248).toNat:=by omega
 rw [e2,← Nat.two_pow_add_eq_or_of_lt (i:=13) (b:=l.toNat) (by omega)]
 omega
theorem ziG {w:Int × Int} {c s:Int} (h1:U64 w.1) (h2:U64 w.2) (hc:U64 c) (hs:18446744073709551616*w.1+w.2=s % 340282366920938463463374607431768211456) :
  cS w c=(vS s c % 2251799813685248,vC (vS s c))∧U64 (vC (vS s c)):=by
 have key:∃ h l,U64 h∧U64 l∧addLo w.2 c false=l∧wr .u64 (w.1+b2i (addC w.2 c false))=h∧18446744073709551616*h+l=vS s c:=by
  by_cases e:18446744073709551616≤w.2+c+b2i false
  ·rw [show addC w.2 c false=true by unfold addC;simpa using e]
   refine ⟨_,_,?_,?_,rfl,rfl,?_⟩ <;> simp only [addLo,b2i,wr64,vS,U64] at*<;> omega
  ·rw [show addC w.2 c false=false by unfold addC;simpa using e]
   refine ⟨_,_,?_,?_,rfl,rfl,?_⟩ <;> simp only [addLo,b2i,wr64,vS,U64] at*<;> omega
 obtain ⟨h,l,hh,hl,e1,e2,e3⟩:=key
 unfold cS
 rw [e1,e2,zbc hl,zo3,or13 hh ⟨by omega,by omega⟩,← e3]
 unfold vC
 refine ⟨Prod.ext ?_ ?_,by omega,by omega⟩ <;> dsimp only <;> omega
theorem zpu {a b:Nat→Int} (ha:inU5 a=true) (hb:inU5 b=true):mulRaw a b=mulL a b:=by
 obtain ⟨a0,a1,a2,a3,a4⟩:=zdr ha
 obtain ⟨b0,b1,b2,b3,b4⟩:=zdr hb
 have n:∀ x,U64 (19*x % 18446744073709551616):=fun x=>⟨by omega,by omega⟩
 simp only [mulRaw,mulL,wr64]
 have w0:=zhy a0 b0 (n (a 1)) b4 (n (a 2)) b3 (n (a 3)) b2 (n (a 4)) b1
 have w1:=zhy a0 b1 a1 b0 (n (a 2)) b4 (n (a 3)) b3 (n (a 4)) b2
 have w2:=zhy a0 b2 a1 b1 a2 b0 (n (a 3)) b4 (n (a 4)) b3
 have w3:=zhy a0 b3 a1 b2 a2 b1 a3 b0 (n (a 4)) b4
 have w4:=zhy a0 b4 a1 b3 a2 b2 a3 b1 a4 b0
 have c0:=ziG w0.1 w0.2.1 (c:=0) (by decide) w0.2.2
 have c1:=ziG w1.1 w1.2.1 c0.2 w1.2.2
 have c2:=ziG w2.1 w2.2.1 c1.2 w2.2.2
 have c3:=ziG w3.1 w3.2.1 c2.2 w3.2.2
 have c4:=ziG w4.1 w4.2.1 c3.2 w4.2.2
 rw [c0.1,c1.1,c2.1,c3.1,c4.1]
 congr 1
 dsimp only
 omega
theorem zhu (a b:Nat→Int):inU5 (lf (mulL a b))=true:=by
 have e:∀ x:Int,inU (x % 2251799813685248)=true:=fun x=>zay ⟨by omega,by omega⟩
 simp only [mulL,inU5,lf,zbJ,e,Bool.and_self]
theorem zdq {a:Nat→Int} (h:inU5 a=true):inU5 (lf (carL a))=true:=by
 obtain ⟨h0,h1,h2,h3,h4⟩:=zdr h
 have e:∀ x y:Int,U64 x→U64 y→inU (x % 2251799813685248+y / 2251799813685248)=true:=fun x y hx hy=>zay ⟨by omega,by omega⟩
 have e':inU (a 0 % 2251799813685248+19*(a 4 / 2251799813685248))=true:=zay ⟨by omega,by omega⟩
 simp only [carL,inU5,lf,e',e _ _ h1 h0,e _ _ h2 h1,e _ _ h3 h2,e _ _ h4 h3,Bool.and_self]
theorem zme (a b:Nat→Int):inU5 (lf (feMul a b))=true:=zdq (zhu a b)
theorem zmh (a b:Nat→Int):inU5 (lf (feAdd a b))=true:=zdq (ziz a b)
theorem zlT (a b:Nat→Int):inU5 (lf (feSub a b))=true:=zdq (zhw a b)
def xAt (a:Nat→Int) (k i:Nat):Int:=bif Nat.ble i k then a i else wr .u64 (19*a i)
def wAt (a b:Nat→Int) (k:Nat):Nat→Int × Int
 | 0=>(0,0)
 | m+1=>wS (wAt a b k m) (xAt a k m) (b ((k+5 - m) % 5))
def ckM (w:Int × Int) (x y:Int):Bool:=ckL [inU x&&inU y,inU w.2&&inU (x*y % 18446744073709551616),inU w.1&&inU (x*y / 18446744073709551616)]
def mulCk (a b:Nat→Int):List Bool :=
 let s0:=cS (wAt a b 0 5) 0
 let s1:=cS (wAt a b 1 5) s0.2
 let s2:=cS (wAt a b 2 5) s1.2
 let s3:=cS (wAt a b 3 5) s2.2
 ((List.range 5).flatMap fun i=>(List.range 5).map fun j=>ckM (wAt a b ((i+j) % 5) i) (xAt a ((i+j) % 5) i) (b j)) ++
   [inU (wAt a b 0 5).2&&inU 0,inU (wAt a b 1 5).2&&inU s0.2,inU (wAt a b 2 5).2&&inU s1.2,inU (wAt a b 3 5).2&&inU s2.2,inU (wAt a b 4 5).2&&inU s3.2,inU5 (lf (mulRaw a b))]
theorem xAt_U {a:Nat→Int} (ha:inU5 a=true) (k:Nat) {i:Nat} (hi:i<5):U64 (xAt a k i):=by
 obtain ⟨a0,a1,a2,a3,a4⟩:=zdr ha
 unfold xAt
 cases Nat.ble i k
 ·exact zeF _
 ·match i,hi with
  | 0,_=>exact a0
  | 1,_=>exact a1
  | 2,_=>exact a2
  | 3,_=>exact a3
  | 4,_=>exact a4
theorem at_U {b:Nat→Int} (hb:inU5 b=true) {j:Nat} (hj:j<5):U64 (b j):=by
 obtain ⟨a0,a1,a2,a3,a4⟩:=zdr hb
 match j,hj with
 | 0,_=>exact a0
 | 1,_=>exact a1
 | 2,_=>exact a2
 | 3,_=>exact a3
 | 4,_=>exact a4
theorem wS_U (w:Int × Int) (x y:Int):U64 (wS w x y).1∧U64 (wS w x y).2:=⟨zeL _ _ _,zeL _ _ _⟩
theorem wAt_U (a b:Nat→Int) (k:Nat):∀ m,U64 (wAt a b k m).1∧U64 (wAt a b k m).2
 | 0=>show U64 0∧U64 0 from by decide
 | m+1=>wS_U _ _ _
theorem ckM_t {w:Int × Int} {x y:Int} (h1:U64 w.1) (h2:U64 w.2) (hx:U64 x) (hy:U64 y):ckM w x y=true:=by
 have hp:=zaC hx hy
 have e:inU (x*y / 18446744073709551616)=true:=by
  generalize x*y=p at *
  exact zay ⟨by omega,by omega⟩
 simp [ckM,ckL,zay h1,zay h2,zay hx,zay hy,zbJ,e]
theorem cS_U (w:Int × Int) (c:Int):U64 (cS w c).2:=by
 unfold cS
 have:∀ x y:Int,U64 (ior .u64 x y):=fun x y=>zeF _
 exact this _ _
theorem zmu {a b:Nat→Int} (ha:inU5 a=true) (hb:inU5 b=true):ckL (mulCk a b)=true:=by
 refine ckL_t.2 fun c hc=>?_
 simp only [mulCk,List.mem_append,List.mem_flatMap,List.mem_map,List.mem_range] at hc
 rcases hc with ⟨i,hi,j,hj,rfl⟩ | hc
 ·exact ckM_t (wAt_U ..).1 (wAt_U ..).2 (xAt_U ha _ hi) (at_U hb hj)
 ·have u:∀ k,inU (wAt a b k 5).2=true:=fun k=>zay (wAt_U ..).2
  have v:∀ w c,inU (cS w c).2=true:=fun w c=>zay (cS_U w c)
  have m:inU5 (lf (mulRaw a b))=true:=by rw [zpu ha hb];exact zhu a b
  simp only [u,v,m,List.mem_cons,List.not_mem_nil,or_false,show inU 0=true by decide,Bool.and_self] at hc
  rcases hc with h | h | h | h | h | h <;> exact h
def l5 (a:Nat→Int):List Int:=[a 0,a 1,a 2,a 3,a 4]
def r5 (l:List Int):List Int:=l5 (lf l)
def chk5 (l:List Int):Bool:=inU5 (lf l)
def addV (a b:List Int):List Int:=feAdd (lf a) (lf b)
def subV (a b:List Int):List Int:=feSub (lf a) (lf b)
def mulV (a b:List Int):List Int:=feMul (lf a) (lf b)
theorem zmY (l:List Int):chk5 (r5 l)=chk5 l:=rfl
theorem zhN (a b:List Int):chk5 (addV a b)=true:=zmh _ _
theorem zhT (a b:List Int):chk5 (subV a b)=true:=zlT _ _
theorem zh9 (a b:List Int):chk5 (mulV a b)=true:=zme _ _
theorem zvD (a b:Nat→Int):addV (l5 a) (l5 b)=feAdd a b:=rfl
theorem zuJ (a b:Nat→Int):subV (l5 a) (l5 b)=feSub a b:=rfl
def pt (p:Nat→Int):AV:=.agg [.ints .u64 20 p]
def px (p:Nat→Int):List Int:=[p 0,p 1,p 2,p 3,p 4]
def py (p:Nat→Int):List Int:=[p 5,p 6,p 7,p 8,p 9]
def pz (p:Nat→Int):List Int:=[p 10,p 11,p 12,p 13,p 14]
def pT (p:Nat→Int):List Int:=[p 15,p 16,p 17,p 18,p 19]
def chkP (p:Nat→Int):Bool:=chk5 (px p)&&(chk5 (py p)&&(chk5 (pz p)&&chk5 (pT p)))
def cvL:List Int:=[929955233495203,466365720129213,1662059464998953,2033849074728123,1442794654840575]
def ptAdd (p q:Nat→Int):List Int :=
 let a:=mulV (px p) (px q)
 let b:=mulV (py p) (py q)
 let c:=mulV (r5 (mulV (r5 cvL) (pT p))) (pT q)
 let d:=mulV (pz p) (pz q)
 let e:=subV (r5 (subV (r5 (mulV (r5 (addV (px p) (py p))) (r5 (addV (px q) (py q))))) (r5 a))) (r5 b)
 let f:=subV (r5 d) (r5 c)
 let g:=addV (r5 d) (r5 c)
 let h:=addV (r5 b) (r5 a)
 mulV (r5 e) (r5 f)++(mulV (r5 g) (r5 h)++(mulV (r5 f) (r5 g)++mulV (r5 e) (r5 h)))
def ptDbl (p:Nat→Int):List Int :=
 let a:=mulV (px p) (px p)
 let b:=mulV (py p) (py p)
 let c0:=mulV (pz p) (pz p)
 let c:=addV (r5 c0) (r5 c0)
 let h:=addV (r5 a) (r5 b)
 let s:=addV (px p) (py p)
 let e:=subV (r5 h) (r5 (mulV (r5 s) (r5 s)))
 let g:=subV (r5 a) (r5 b)
 let f:=addV (r5 c) (r5 g)
 mulV (r5 e) (r5 f)++(mulV (r5 g) (r5 h)++(mulV (r5 f) (r5 g)++mulV (r5 e) (r5 h)))
def ptAddCk (p q:Nat→Int):List Bool :=
 let a:=mulV (px p) (px q)
 let b:=mulV (py p) (py q)
 let c:=mulV (r5 (mulV (r5 cvL) (pT p))) (pT q)
 let d:=mulV (pz p) (pz q)
 let e:=subV (r5 (subV (r5 (mulV (r5 (addV (px p) (py p))) (r5 (addV (px q) (py q))))) (r5 a))) (r5 b)
 let f:=subV (r5 d) (r5 c)
 let g:=addV (r5 d) (r5 c)
 let h:=addV (r5 b) (r5 a)
 [chk5 (px p)&&chk5 (px q),chk5 (py p)&&chk5 (py q),chk5 (r5 cvL)&&chk5 (pT p),chk5 (r5 (mulV (r5 cvL) (pT p)))&&chk5 (pT q),chk5 (pz p)&&chk5 (pz q),
  chk5 (r5 (addV (px p) (py p)))&&chk5 (r5 (addV (px q) (py q))),chk5 (r5 e)&&chk5 (r5 f),chk5 (r5 g)&&chk5 (r5 h),chk5 (r5 f)&&chk5 (r5 g),chk5 (r5 e)&&chk5 (r5 h)]
def ptDblCk (p:Nat→Int):List Bool :=
 let a:=mulV (px p) (px p)
 let b:=mulV (py p) (py p)
 let c0:=mulV (pz p) (pz p)
 let c:=addV (r5 c0) (r5 c0)
 let h:=addV (r5 a) (r5 b)
 let s:=addV (px p) (py p)
 let e:=subV (r5 h) (r5 (mulV (r5 s) (r5 s)))
 let g:=subV (r5 a) (r5 b)
 let f:=addV (r5 c) (r5 g)
 [chk5 (px p),chk5 (py p),chk5 (pz p),chk5 (r5 s),chk5 (r5 e)&&chk5 (r5 f),chk5 (r5 g)&&chk5 (r5 h),chk5 (r5 f)&&chk5 (r5 g),chk5 (r5 e)&&chk5 (r5 h)]
theorem zjj {p q:Nat→Int} (hp:chkP p=true) (hq:chkP q=true):ckL (ptAddCk p q)=true:=by
 simp only [chkP,Bool.and_eq_true] at hp hq
 simp only [ptAddCk,ckL,List.foldl,zmY,zh9,zhN,zhT,hp,hq,show chk5 cvL=true by decide,Bool.and_self]
theorem zjc {p:Nat→Int} (hp:chkP p=true):ckL (ptDblCk p)=true:=by
 simp only [chkP,Bool.and_eq_true] at hp
 simp only [ptDblCk,ckL,List.foldl,zmY,zh9,zhN,zhT,hp,Bool.and_self]
end Go.AM
namespace Go.AM
open Go
def pP:Int:=57896044618658097711785492504343953926634992332820282019728792003956564819949
def bdB (x:Int):Bool:=decide (0≤x)&&decide (x<2251799813718016)
theorem bdB_t {x:Int}:bdB x=true ↔ 0≤x∧x<2251799813718016:=by simp [bdB]
def bd5 (l:List Int):Bool:=bdB (lf l 0)&&(bdB (lf l 1)&&(bdB (lf l 2)&&(bdB (lf l 3)&&bdB (lf l 4))))
def fv (l:List Int):Int:=lf l 0+lf l 1*2251799813685248+lf l 2*5070602400912917605986812821504+lf l 3*11417981541647679048466287755595961091061972992+lf l 4*25711008708143844408671393477458601640355247900524685364822016
theorem bd5_t {l:List Int}:bd5 l=true ↔ (0≤lf l 0∧lf l 0<2251799813718016)∧(0≤lf l 1∧lf l 1<2251799813718016)∧(0≤lf l 2∧lf l 2<2251799813718016)∧(0≤lf l 3∧lf l 3<2251799813718016)∧(0≤lf l 4∧lf l 4<2251799813718016):=by
 simp only [bd5,Bool.and_eq_true,bdB_t]
theorem zb3 {l:List Int} (h:bd5 l=true):chk5 l=true:=by
 obtain ⟨h0,h1,h2,h3,h4⟩:=bd5_t.1 h
 simp only [chk5,inU5,Bool.and_eq_true]
 exact ⟨zay ⟨h0.1,by omega⟩,zay ⟨h1.1,by omega⟩,zay ⟨h2.1,by omega⟩,zay ⟨h3.1,by omega⟩,zay ⟨h4.1,by omega⟩⟩
theorem zfj (a:Nat→Int):fv (carL a)=a 0+a 1*2251799813685248+a 2*5070602400912917605986812821504+a 3*11417981541647679048466287755595961091061972992+a 4*25711008708143844408671393477458601640355247900524685364822016 - a 4 / 2251799813685248*pP:=by
 simp only [fv,carL,lf,pP]
 generalize a 0=a0;generalize a 1=a1;generalize a 2=a2;generalize a 3=a3;generalize a 4=a4
 omega
theorem zja {a:Nat→Int} (h0:0≤a 0∧a 0<73786976294838206464) (h1:0≤a 1∧a 1<73786976294838206464) (h2:0≤a 2∧a 2<73786976294838206464) (h3:0≤a 3∧a 3<73786976294838206464) (h4:0≤a 4∧a 4<2305843009213693952):bd5 (carL a)=true:=by
 rw [bd5_t]
 simp only [carL,lf]
 generalize a 0=a0 at *;generalize a 1=a1 at *;generalize a 2=a2 at *;generalize a 3=a3 at *;generalize a 4=a4 at *
 omega
theorem zkE {a b:List Int} (ha:bd5 a=true) (hb:bd5 b=true):bd5 (addV a b)=true∧∃ q,fv (addV a b)=fv a+fv b+q*pP:=by
 obtain ⟨a0,a1,a2,a3,a4⟩:=bd5_t.1 ha
 obtain ⟨b0,b1,b2,b3,b4⟩:=bd5_t.1 hb
 have e:∀ x y:Int,(0≤x∧x<2251799813718016)→(0≤y∧y<2251799813718016)→(x+y) % 18446744073709551616=x+y:=fun x y hx hy=>by omega
 have hl:addL (lf a) (lf b)=[lf a 0+lf b 0,lf a 1+lf b 1,lf a 2+lf b 2,lf a 3+lf b 3,lf a 4+lf b 4]:=by
  simp only [addL,e _ _ a0 b0,e _ _ a1 b1,e _ _ a2 b2,e _ _ a3 b3,e _ _ a4 b4]
 unfold addV feAdd
 rw [hl]
 refine ⟨zja (by simp only [lf];omega) (by simp only [lf];omega) (by simp only [lf];omega) (by simp only [lf];omega) (by simp only [lf];omega),-((lf a 4+lf b 4) / 2251799813685248),?_⟩
 rw [zfj]
 simp only [lf,fv]
 generalize (lf a 4+lf b 4) / 2251799813685248=q
 grind
theorem zlk {a b:List Int} (ha:bd5 a=true) (hb:bd5 b=true):bd5 (subV a b)=true∧∃ q,fv (subV a b)=fv a - fv b+q*pP:=by
 obtain ⟨a0,a1,a2,a3,a4⟩:=bd5_t.1 ha
 obtain ⟨b0,b1,b2,b3,b4⟩:=bd5_t.1 hb
 have e:∀ x y:Int,(0≤x∧x<2251799813718016)→(0≤y∧y<2251799813718016)→(x+4503599627370494 - y) % 18446744073709551616=x+4503599627370494 - y:=fun x y hx hy=>by omega
 have e':∀ x y:Int,(0≤x∧x<2251799813718016)→(0≤y∧y<2251799813718016)→(x+4503599627370458 - y) % 18446744073709551616=x+4503599627370458 - y:=fun x y hx hy=>by omega
 have hl:subL (lf a) (lf b)=[lf a 0+4503599627370458 - lf b 0,lf a 1+4503599627370494 - lf b 1,lf a 2+4503599627370494 - lf b 2,lf a 3+4503599627370494 - lf b 3,lf a 4+4503599627370494 - lf b 4]:=by
  simp only [subL,e' _ _ a0 b0,e _ _ a1 b1,e _ _ a2 b2,e _ _ a3 b3,e _ _ a4 b4]
 unfold subV feSub
 rw [hl]
 refine ⟨zja (by simp only [lf];omega) (by simp only [lf];omega) (by simp only [lf];omega) (by simp only [lf];omega) (by simp only [lf];omega),2 - ((lf a 4+4503599627370494 - lf b 4) / 2251799813685248),?_⟩
 rw [zfj]
 simp only [lf,fv,pP]
 generalize (lf a 4+4503599627370494 - lf b 4) / 2251799813685248=q
 grind
theorem zuF {x y:Int} (hx:0≤x∧x<2251799813718016) (hy:0≤y∧y<2251799813718016):0≤x*y∧x*y≤5070602401060491558577562976256:=by
 refine ⟨Int.mul_nonneg hx.1 hy.1,?_⟩
 have h1:x*y≤2251799813718016*y:=Int.mul_le_mul_of_nonneg_right (by omega) hy.1
 omega
theorem zmJ {S0 S1 S2 S3 S4:Int} (h0:0≤S0∧S0≤390436384881657850010472349171712) (h1:0≤S1∧S1≤390436384881657850010472349171712) (h2:0≤S2∧S2≤390436384881657850010472349171712) (h3:0≤S3∧S3≤390436384881657850010472349171712) (h4:0≤S4∧S4≤25353012005302457792887814881280) :
  let v0:=vS S0 0;let v1:=vS S1 (vC v0);let v2:=vS S2 (vC v1);let v3:=vS S3 (vC v2);let v4:=vS S4 (vC v3)
  bd5 (carL (lf [(v0 % 2251799813685248+19*vC v4) % 18446744073709551616,v1 % 2251799813685248,v2 % 2251799813685248,v3 % 2251799813685248,v4 % 2251799813685248]))=true ∧
  ∃ q,fv (carL (lf [(v0 % 2251799813685248+19*vC v4) % 18446744073709551616,v1 % 2251799813685248,v2 % 2251799813685248,v3 % 2251799813685248,v4 % 2251799813685248])) =
   S0+S1*2251799813685248+S2*5070602400912917605986812821504+S3*11417981541647679048466287755595961091061972992+S4*25711008708143844408671393477458601640355247900524685364822016+q*pP:=by
 intro v0 v1 v2 v3 v4
 have e0:v0=S0:=by show vS S0 0=S0;unfold vS;omega
 have c0:vC v0=S0 / 2251799813685248:=by rw [e0];unfold vC;omega
 have e1:v1=S1+S0 / 2251799813685248:=by show vS S1 (vC v0)=_;rw [c0];unfold vS;omega
 have b1:0≤v1∧v1≤390436384881658196787643666792448:=by omega
 have c1:vC v1=v1 / 2251799813685248:=by unfold vC;omega
 have e2:v2=S2+v1 / 2251799813685248:=by show vS S2 (vC v1)=_;rw [c1];unfold vS;omega
 have b2:0≤v2∧v2≤390436384881658196787643666792448:=by omega
 have c2:vC v2=v2 / 2251799813685248:=by unfold vC;omega
 have e3:v3=S3+v2 / 2251799813685248:=by show vS S3 (vC v2)=_;rw [c2];unfold vS;omega
 have b3:0≤v3∧v3≤390436384881658196787643666792448:=by omega
 have c3:vC v3=v3 / 2251799813685248:=by unfold vC;omega
 have e4:v4=S4+v3 / 2251799813685248:=by show vS S4 (vC v3)=_;rw [c3];unfold vS;omega
 have b4:0≤v4∧v4≤25353012005302631181473473691803:=by omega
 have c4:vC v4=v4 / 2251799813685248:=by unfold vC;omega
 rw [c4]
 have e5:(v0 % 2251799813685248+19*(v4 / 2251799813685248)) % 18446744073709551616=v0 % 2251799813685248+19*(v4 / 2251799813685248):=by omega
 rw [e5]
 clear_value v0 v1 v2 v3 v4
 refine ⟨zja (by simp only [lf];omega) (by simp only [lf];omega) (by simp only [lf];omega) (by simp only [lf];omega) (by simp only [lf];omega),-(v4 / 2251799813685248),?_⟩
 rw [zfj]
 simp only [lf,pP]
 omega
theorem zkQ {a b:List Int} (ha:bd5 a=true) (hb:bd5 b=true):bd5 (mulV a b)=true∧∃ q,fv (mulV a b)=fv a*fv b+q*pP:=by
 obtain ⟨a0,a1,a2,a3,a4⟩:=bd5_t.1 ha
 obtain ⟨b0,b1,b2,b3,b4⟩:=bd5_t.1 hb
 have n:∀ x:Int,(0≤x∧x<2251799813718016)→19*x % 18446744073709551616=19*x:=fun x hx=>by omega
 unfold mulV feMul mulL
 simp only [n _ a1,n _ a2,n _ a3,n _ a4,Int.mul_assoc]
 have P:=fun (x y:Int) (hx:0≤x∧x<2251799813718016) (hy:0≤y∧y<2251799813718016)=>zuF hx hy
 have p00:=P _ _ a0 b0;have p01:=P _ _ a0 b1;have p02:=P _ _ a0 b2;have p03:=P _ _ a0 b3;have p04:=P _ _ a0 b4
 have p10:=P _ _ a1 b0;have p11:=P _ _ a1 b1;have p12:=P _ _ a1 b2;have p13:=P _ _ a1 b3;have p14:=P _ _ a1 b4
 have p20:=P _ _ a2 b0;have p21:=P _ _ a2 b1;have p22:=P _ _ a2 b2;have p23:=P _ _ a2 b3;have p24:=P _ _ a2 b4
 have p30:=P _ _ a3 b0;have p31:=P _ _ a3 b1;have p32:=P _ _ a3 b2;have p33:=P _ _ a3 b3;have p34:=P _ _ a3 b4
 have p40:=P _ _ a4 b0;have p41:=P _ _ a4 b1;have p42:=P _ _ a4 b2;have p43:=P _ _ a4 b3;have p44:=P _ _ a4 b4
 have key:=zmJ (S0:=lf a 0*lf b 0+19*(lf a 1*lf b 4)+19*(lf a 2*lf b 3)+19*(lf a 3*lf b 2)+19*(lf a 4*lf b 1)) (S1:=lf a 0*lf b 1+lf a 1*lf b 0+19*(lf a 2*lf b 4)+19*(lf a 3*lf b 3)+19*(lf a 4*lf b 2))
  (S2:=lf a 0*lf b 2+lf a 1*lf b 1+lf a 2*lf b 0+19*(lf a 3*lf b 4)+19*(lf a 4*lf b 3)) (S3:=lf a 0*lf b 3+lf a 1*lf b 2+lf a 2*lf b 1+lf a 3*lf b 0+19*(lf a 4*lf b 4)) (S4:=lf a 0*lf b 4+lf a 1*lf b 3+lf a 2*lf b 2+lf a 3*lf b 1+lf a 4*lf b 0)
  (by omega) (by omega) (by omega) (by omega) (by omega)
 obtain ⟨k1,q,k2⟩:=key
 refine ⟨k1,q - (lf a 1*lf b 4+lf a 2*lf b 3+lf a 3*lf b 2+lf a 4*lf b 1+(lf a 2*lf b 4+lf a 3*lf b 3+lf a 4*lf b 2)*2251799813685248+(lf a 3*lf b 4+lf a 4*lf b 3)*5070602400912917605986812821504+lf a 4*lf b 4*11417981541647679048466287755595961091061972992),?_⟩
 refine k2.trans ?_
 simp only [fv,pP]
 clear k1 k2 p00 p01 p02 p03 p04 p10 p11 p12 p13 p14 p20 p21 p22 p23 p24 p30 p31 p32 p33 p34 p40 p41 p42 p43 p44 P n a0 a1 a2 a3 a4 b0 b1 b2 b3 b4 ha hb
 generalize lf a 0=a0;generalize lf a 1=a1;generalize lf a 2=a2;generalize lf a 3=a3;generalize lf a 4=a4
 generalize lf b 0=b0;generalize lf b 1=b1;generalize lf b 2=b2;generalize lf b 3=b3;generalize lf b 4=b4
 grind
def fm (l:List Int):Int:=fv l % pP
theorem zd9:(0:Int)<pP:=by decide
theorem zda (l:List Int):0≤fm l∧fm l<pP:=⟨Int.emod_nonneg _ (by decide),Int.emod_lt_of_pos _ zd9⟩
def mM (x y:Int):Int:=x*y % pP
def mA (x y:Int):Int:=(x+y) % pP
def mS (x y:Int):Int:=(x - y) % pP
theorem zaE {a b:List Int} (ha:bd5 a=true) (hb:bd5 b=true):fm (mulV a b)=mM (fm a) (fm b):=by
 obtain ⟨_,q,e⟩:=zkQ ha hb
 unfold fm mM
 rw [e,Int.add_mul_emod_self_right,← Int.mul_emod]
theorem zb2 {a b:List Int} (ha:bd5 a=true) (hb:bd5 b=true):fm (addV a b)=mA (fm a) (fm b):=by
 obtain ⟨_,q,e⟩:=zkE ha hb
 unfold fm mA
 rw [e,Int.add_mul_emod_self_right,← Int.add_emod]
theorem zcG {a b:List Int} (ha:bd5 a=true) (hb:bd5 b=true):fm (subV a b)=mS (fm a) (fm b):=by
 obtain ⟨_,q,e⟩:=zlk ha hb
 unfold fm mS
 rw [e,Int.add_mul_emod_self_right,← Int.sub_emod]
theorem zaW {a b:List Int} (ha:bd5 a=true) (hb:bd5 b=true):bd5 (mulV a b)=true:=(zkQ ha hb).1
theorem zco {a b:List Int} (ha:bd5 a=true) (hb:bd5 b=true):bd5 (addV a b)=true:=(zkE ha hb).1
theorem zc3 {a b:List Int} (ha:bd5 a=true) (hb:bd5 b=true):bd5 (subV a b)=true:=(zlk ha hb).1
theorem r5_fm (l:List Int):fm (r5 l)=fm l:=rfl
theorem r5_bd (l:List Int):bd5 (r5 l)=bd5 l:=rfl
end Go.AM
namespace Go.AM
open Go
def sh26 (x:Int):Int:=ishr .i64 x 26
def sh25 (x:Int):Int:=ishr .i64 x 25
def mk26 (x:Int):Int:=iand .i64 x 67108863
def mk25 (x:Int):Int:=iand .i64 x 33554431
def wi (x:Int):Int:=wr .i64 x
theorem zcz {x:Int} (h0:-9223372036854775808≤x) (h1:x<9223372036854775808):wr .i64 x=x:=by
 show IntKind.i64.wrap x=x
 rw [IntKind.wrap_i64];omega
theorem wi_id {x:Int} (h:-9223372036854775808≤x∧x<9223372036854775808):wi x=x:=zcz h.1 h.2
theorem zgW (x:Int):sh26 x=x / 67108864:=by
 show x.fdiv (2 ^ 26)=_
 rw [Int.fdiv_eq_ediv_of_nonneg _ (by decide)];rfl
theorem zgK (x:Int):sh25 x=x / 33554432:=by
 show x.fdiv (2 ^ 25)=_
 rw [Int.fdiv_eq_ediv_of_nonneg _ (by decide)];rfl
theorem zgv (x:Int) (n:Nat) (hn:n<63) (m:Int) (hm:m=2 ^ n - 1):iand .i64 x m=x % 2 ^ n:=by
 subst hm
 have h1:(BitVec.ofInt 64 (2 ^ n - 1))=BitVec.ofNat 64 (2 ^ n - 1):=by
  apply BitVec.eq_of_toNat_eq
  simp only [BitVec.toNat_ofInt,BitVec.toNat_ofNat]
  have hp:(0:Int)<2 ^ n:=Int.pow_pos (by decide)
  have e:((2:Int) ^ n - 1)=((2 ^ n - 1:Nat):Int):=by
   have:1≤2 ^ n:=Nat.one_le_two_pow
   rw [Int.natCast_sub this];simp
  rw [e]
  omega
 have h2:(BitVec.ofInt 64 x &&& BitVec.ofInt 64 (2 ^ n - 1)).toNat=(x % 2 ^ n).toNat:=by
  rw [h1,BitVec.toNat_and,BitVec.toNat_ofInt,BitVec.toNat_ofNat]
  have hlt:2 ^ n - 1<2 ^ 64:=by
   have:2 ^ n≤2 ^ 63:=Nat.pow_le_pow_right (by decide) (by omega)
   omega
  rw [Nat.mod_eq_of_lt hlt,Nat.and_two_pow_sub_one_eq_mod]
  have hd:(2:Int) ^ n ∣ ((2 ^ 64:Nat):Int):=by
   have:((2 ^ 64:Nat):Int)=2 ^ n*2 ^ (64 - n):=by rw [← Int.pow_add,show n+(64 - n)=64 by omega];rfl
   rw [this];exact Int.dvd_mul_right _ _
  have h3:(x % ((2 ^ 64:Nat):Int)) % 2 ^ n=x % 2 ^ n:=Int.emod_emod_of_dvd x hd
  rw [← h3]
  have h4:0≤x % ((2 ^ 64:Nat):Int):=Int.emod_nonneg _ (by decide)
  rw [Int.toNat_emod h4 (by exact Int.le_of_lt (Int.pow_pos (by decide)))]
  congr 1
 show wr .i64 ((BitVec.ofInt 64 x &&& BitVec.ofInt 64 (2 ^ n - 1)).toNat:Int)=_
 rw [h2]
 have hp:(0:Int)<2 ^ n:=Int.pow_pos (by decide)
 have hlt:=Int.emod_lt_of_pos x hp
 have h0:=Int.emod_nonneg x (Int.ne_of_gt hp)
 have hle:(2:Int) ^ n≤4611686018427387904:=by
  have h1:2 ^ n≤2 ^ 62:=Nat.pow_le_pow_right (by decide) (by omega)
  have h2:((2:Int) ^ n)=((2 ^ n:Nat):Int):=by simp
  rw [h2];omega
 rw [Int.toNat_of_nonneg h0]
 exact zcz (by omega) (by omega)
theorem zrf (x:Int):mk26 x=x % 67108864:=zgv x 26 (by decide) 67108863 (by decide)
theorem zkr (x:Int):mk25 x=x % 33554432:=zgv x 25 (by decide) 33554431 (by decide)
def carG (a:Nat→Int):List Int :=
 let x0:=a 0
 let x1:=wi (a 1+sh26 x0)
 let x2:=wi (a 2+sh25 x1)
 let x3:=wi (a 3+sh26 x2)
 let x4:=wi (a 4+sh25 x3)
 let x5:=wi (a 5+sh26 x4)
 let x6:=wi (a 6+sh25 x5)
 let x7:=wi (a 7+sh26 x6)
 let x8:=wi (a 8+sh25 x7)
 let x9:=wi (a 9+sh26 x8)
 let y0:=wi (mk26 x0+wi (19*sh25 x9))
 let y1:=wi (mk25 x1+sh26 y0)
 [mk26 y0,y1,mk26 x2,mk25 x3,mk26 x4,mk25 x5,mk26 x6,mk25 x7,mk26 x8,mk25 x9]
def carD (a:Nat→Int):List Int :=
 let x0:=a 0
 let x1:=a 1+x0 / 67108864
 let x2:=a 2+x1 / 33554432
 let x3:=a 3+x2 / 67108864
 let x4:=a 4+x3 / 33554432
 let x5:=a 5+x4 / 67108864
 let x6:=a 6+x5 / 33554432
 let x7:=a 7+x6 / 67108864
 let x8:=a 8+x7 / 33554432
 let x9:=a 9+x8 / 67108864
 let y0:=x0 % 67108864+19*(x9 / 33554432)
 let y1:=x1 % 33554432+y0 / 67108864
 [y0 % 67108864,y1,x2 % 67108864,x3 % 33554432,x4 % 67108864,x5 % 33554432,x6 % 67108864,x7 % 33554432,x8 % 67108864,x9 % 33554432]
def gw (x:Int):Prop:=-4611686018427387904≤x∧x≤4611686018427387904
theorem zr3 {a:Nat→Int} (h:∀ i,i<10→gw (a i)):carG a=carD a:=by
 have h0:=h 0 (by omega);have h1:=h 1 (by omega);have h2:=h 2 (by omega);have h3:=h 3 (by omega);have h4:=h 4 (by omega)
 have h5:=h 5 (by omega);have h6:=h 6 (by omega);have h7:=h 7 (by omega);have h8:=h 8 (by omega);have h9:=h 9 (by omega)
 unfold gw at *
 clear h
 unfold carG carD
 simp only [zgW,zgK,zrf,zkr]
 generalize a 0=a0 at *;generalize a 1=a1 at *;generalize a 2=a2 at *;generalize a 3=a3 at *;generalize a 4=a4 at *
 generalize a 5=a5 at *;generalize a 6=a6 at *;generalize a 7=a7 at *;generalize a 8=a8 at *;generalize a 9=a9 at *
 rw [wi_id (x:=a1+a0 / 67108864) (by omega)]
 obtain ⟨x1,hx1⟩:∃ x,a1+a0 / 67108864=x:=⟨_,rfl⟩
 rw [hx1]
 rw [wi_id (x:=a2+x1 / 33554432) (by omega)]
 obtain ⟨x2,hx2⟩:∃ x,a2+x1 / 33554432=x:=⟨_,rfl⟩
 rw [hx2]
 rw [wi_id (x:=a3+x2 / 67108864) (by omega)]
 obtain ⟨x3,hx3⟩:∃ x,a3+x2 / 67108864=x:=⟨_,rfl⟩
 rw [hx3]
 rw [wi_id (x:=a4+x3 / 33554432) (by omega)]
 obtain ⟨x4,hx4⟩:∃ x,a4+x3 / 33554432=x:=⟨_,rfl⟩
 rw [hx4]
 rw [wi_id (x:=a5+x4 / 67108864) (by omega)]
 obtain ⟨x5,hx5⟩:∃ x,a5+x4 / 67108864=x:=⟨_,rfl⟩
 rw [hx5]
 rw [wi_id (x:=a6+x5 / 33554432) (by omega)]
 obtain ⟨x6,hx6⟩:∃ x,a6+x5 / 33554432=x:=⟨_,rfl⟩
 rw [hx6]
 rw [wi_id (x:=a7+x6 / 67108864) (by omega)]
 obtain ⟨x7,hx7⟩:∃ x,a7+x6 / 67108864=x:=⟨_,rfl⟩
 rw [hx7]
 rw [wi_id (x:=a8+x7 / 33554432) (by omega)]
 obtain ⟨x8,hx8⟩:∃ x,a8+x7 / 33554432=x:=⟨_,rfl⟩
 rw [hx8]
 rw [wi_id (x:=a9+x8 / 67108864) (by omega)]
 obtain ⟨x9,hx9⟩:∃ x,a9+x8 / 67108864=x:=⟨_,rfl⟩
 rw [hx9]
 rw [wi_id (x:=19*(x9 / 33554432)) (by omega),wi_id (x:=a0 % 67108864+19*(x9 / 33554432)) (by omega)]
 rw [wi_id (x:=x1 % 33554432+(a0 % 67108864+19*(x9 / 33554432)) / 67108864) (by omega)]
def gv (l:List Int):Int:=lf l 0+lf l 1*67108864+lf l 2*2251799813685248+lf l 3*151115727451828646838272+lf l 4*5070602400912917605986812821504+lf l 5*340282366920938463463374607431768211456+lf l 6*11417981541647679048466287755595961091061972992+lf l 7*766247770432944429179173513575154591809369561091801088+lf l 8*25711008708143844408671393477458601640355247900524685364822016+lf l 9*1725436586697640946858688965569256363112777243042596638790631055949824
def gdB (x:Int):Bool:=decide (-262144≤x)&&decide (x≤67108864)
def gd10 (l:List Int):Bool:=gdB (lf l 0)&&(gdB (lf l 1)&&(gdB (lf l 2)&&(gdB (lf l 3)&&(gdB (lf l 4)&&(gdB (lf l 5)&&(gdB (lf l 6)&&(gdB (lf l 7)&&(gdB (lf l 8)&&(gdB (lf l 9))))))))))
theorem gdB_t {x:Int}:gdB x=true ↔ -262144≤x∧x≤67108864:=by simp [gdB]
theorem zbN {l:List Int}:gd10 l=true ↔ (-262144≤lf l 0∧lf l 0≤67108864)∧(-262144≤lf l 1∧lf l 1≤67108864)∧(-262144≤lf l 2∧lf l 2≤67108864)∧(-262144≤lf l 3∧lf l 3≤67108864)∧(-262144≤lf l 4∧lf l 4≤67108864)∧(-262144≤lf l 5∧lf l 5≤67108864)∧(-262144≤lf l 6∧lf l 6≤67108864)∧(-262144≤lf l 7∧lf l 7≤67108864)∧(-262144≤lf l 8∧lf l 8≤67108864)∧(-262144≤lf l 9∧lf l 9≤67108864):=by
 simp only [gd10,Bool.and_eq_true,gdB_t]
theorem zcA {a:Nat→Int} (h:∀ i,i<10→gw (a i)):gd10 (carD a)=true:=by
 have h0:=h 0 (by omega);have h1:=h 1 (by omega);have h2:=h 2 (by omega);have h3:=h 3 (by omega);have h4:=h 4 (by omega)
 have h5:=h 5 (by omega);have h6:=h 6 (by omega);have h7:=h 7 (by omega);have h8:=h 8 (by omega);have h9:=h 9 (by omega)
 unfold gw at *
 clear h
 rw [zbN]
 simp only [carD,lf]
 generalize a 0=a0 at *;generalize a 1=a1 at *;generalize a 2=a2 at *;generalize a 3=a3 at *;generalize a 4=a4 at *
 generalize a 5=a5 at *;generalize a 6=a6 at *;generalize a 7=a7 at *;generalize a 8=a8 at *;generalize a 9=a9 at *
 obtain ⟨x1,hx1⟩:∃ x,a1+a0 / 67108864=x:=⟨_,rfl⟩
 rw [hx1]
 have bx1:-9223372036854775807≤x1∧x1≤9223372036854775807:=by omega
 obtain ⟨x2,hx2⟩:∃ x,a2+x1 / 33554432=x:=⟨_,rfl⟩
 rw [hx2]
 have bx2:-9223372036854775807≤x2∧x2≤9223372036854775807:=by omega
 obtain ⟨x3,hx3⟩:∃ x,a3+x2 / 67108864=x:=⟨_,rfl⟩
 rw [hx3]
 have bx3:-9223372036854775807≤x3∧x3≤9223372036854775807:=by omega
 obtain ⟨x4,hx4⟩:∃ x,a4+x3 / 33554432=x:=⟨_,rfl⟩
 rw [hx4]
 have bx4:-9223372036854775807≤x4∧x4≤9223372036854775807:=by omega
 obtain ⟨x5,hx5⟩:∃ x,a5+x4 / 67108864=x:=⟨_,rfl⟩
 rw [hx5]
 have bx5:-9223372036854775807≤x5∧x5≤9223372036854775807:=by omega
 obtain ⟨x6,hx6⟩:∃ x,a6+x5 / 33554432=x:=⟨_,rfl⟩
 rw [hx6]
 have bx6:-9223372036854775807≤x6∧x6≤9223372036854775807:=by omega
 obtain ⟨x7,hx7⟩:∃ x,a7+x6 / 67108864=x:=⟨_,rfl⟩
 rw [hx7]
 have bx7:-9223372036854775807≤x7∧x7≤9223372036854775807:=by omega
 obtain ⟨x8,hx8⟩:∃ x,a8+x7 / 33554432=x:=⟨_,rfl⟩
 rw [hx8]
 have bx8:-9223372036854775807≤x8∧x8≤9223372036854775807:=by omega
 obtain ⟨x9,hx9⟩:∃ x,a9+x8 / 67108864=x:=⟨_,rfl⟩
 rw [hx9]
 have bx9:-9223372036854775807≤x9∧x9≤9223372036854775807:=by omega
 omega
theorem zbZ (a:Nat→Int):∃ q,gv (carD a)=a 0+a 1*67108864+a 2*2251799813685248+a 3*151115727451828646838272+a 4*5070602400912917605986812821504+a 5*340282366920938463463374607431768211456+a 6*11417981541647679048466287755595961091061972992+a 7*766247770432944429179173513575154591809369561091801088+a 8*25711008708143844408671393477458601640355247900524685364822016+a 9*1725436586697640946858688965569256363112777243042596638790631055949824+q*pP:=by
 simp only [gv,carD,lf,pP]
 generalize a 0=a0 at *;generalize a 1=a1 at *;generalize a 2=a2 at *;generalize a 3=a3 at *;generalize a 4=a4 at *
 generalize a 5=a5 at *;generalize a 6=a6 at *;generalize a 7=a7 at *;generalize a 8=a8 at *;generalize a 9=a9 at *
 obtain ⟨x1,hx1⟩:∃ x,a1+a0 / 67108864=x:=⟨_,rfl⟩
 rw [hx1]
 obtain ⟨x2,hx2⟩:∃ x,a2+x1 / 33554432=x:=⟨_,rfl⟩
 rw [hx2]
 obtain ⟨x3,hx3⟩:∃ x,a3+x2 / 67108864=x:=⟨_,rfl⟩
 rw [hx3]
 obtain ⟨x4,hx4⟩:∃ x,a4+x3 / 33554432=x:=⟨_,rfl⟩
 rw [hx4]
 obtain ⟨x5,hx5⟩:∃ x,a5+x4 / 67108864=x:=⟨_,rfl⟩
 rw [hx5]
 obtain ⟨x6,hx6⟩:∃ x,a6+x5 / 33554432=x:=⟨_,rfl⟩
 rw [hx6]
 obtain ⟨x7,hx7⟩:∃ x,a7+x6 / 67108864=x:=⟨_,rfl⟩
 rw [hx7]
 obtain ⟨x8,hx8⟩:∃ x,a8+x7 / 33554432=x:=⟨_,rfl⟩
 rw [hx8]
 obtain ⟨x9,hx9⟩:∃ x,a9+x8 / 67108864=x:=⟨_,rfl⟩
 rw [hx9]
 refine ⟨-(x9 / 33554432),?_⟩
 omega
def addG (a b:List Int):List Int:=carD (lf [lf a 0+lf b 0,lf a 1+lf b 1,lf a 2+lf b 2,lf a 3+lf b 3,lf a 4+lf b 4,lf a 5+lf b 5,lf a 6+lf b 6,lf a 7+lf b 7,lf a 8+lf b 8,lf a 9+lf b 9])
def subG (a b:List Int):List Int:=carD (lf [lf a 0 - lf b 0,lf a 1 - lf b 1,lf a 2 - lf b 2,lf a 3 - lf b 3,lf a 4 - lf b 4,lf a 5 - lf b 5,lf a 6 - lf b 6,lf a 7 - lf b 7,lf a 8 - lf b 8,lf a 9 - lf b 9])
def prG (a b:List Int):List Int :=
 [1*(lf a 0*lf b 0)+38*(lf a 1*lf b 9)+19*(lf a 2*lf b 8)+38*(lf a 3*lf b 7)+19*(lf a 4*lf b 6)+38*(lf a 5*lf b 5)+19*(lf a 6*lf b 4)+38*(lf a 7*lf b 3)+19*(lf a 8*lf b 2)+38*(lf a 9*lf b 1),
  1*(lf a 0*lf b 1)+1*(lf a 1*lf b 0)+19*(lf a 2*lf b 9)+19*(lf a 3*lf b 8)+19*(lf a 4*lf b 7)+19*(lf a 5*lf b 6)+19*(lf a 6*lf b 5)+19*(lf a 7*lf b 4)+19*(lf a 8*lf b 3)+19*(lf a 9*lf b 2),
  1*(lf a 0*lf b 2)+2*(lf a 1*lf b 1)+1*(lf a 2*lf b 0)+38*(lf a 3*lf b 9)+19*(lf a 4*lf b 8)+38*(lf a 5*lf b 7)+19*(lf a 6*lf b 6)+38*(lf a 7*lf b 5)+19*(lf a 8*lf b 4)+38*(lf a 9*lf b 3),
  1*(lf a 0*lf b 3)+1*(lf a 1*lf b 2)+1*(lf a 2*lf b 1)+1*(lf a 3*lf b 0)+19*(lf a 4*lf b 9)+19*(lf a 5*lf b 8)+19*(lf a 6*lf b 7)+19*(lf a 7*lf b 6)+19*(lf a 8*lf b 5)+19*(lf a 9*lf b 4),
  1*(lf a 0*lf b 4)+2*(lf a 1*lf b 3)+1*(lf a 2*lf b 2)+2*(lf a 3*lf b 1)+1*(lf a 4*lf b 0)+38*(lf a 5*lf b 9)+19*(lf a 6*lf b 8)+38*(lf a 7*lf b 7)+19*(lf a 8*lf b 6)+38*(lf a 9*lf b 5),
  1*(lf a 0*lf b 5)+1*(lf a 1*lf b 4)+1*(lf a 2*lf b 3)+1*(lf a 3*lf b 2)+1*(lf a 4*lf b 1)+1*(lf a 5*lf b 0)+19*(lf a 6*lf b 9)+19*(lf a 7*lf b 8)+19*(lf a 8*lf b 7)+19*(lf a 9*lf b 6),
  1*(lf a 0*lf b 6)+2*(lf a 1*lf b 5)+1*(lf a 2*lf b 4)+2*(lf a 3*lf b 3)+1*(lf a 4*lf b 2)+2*(lf a 5*lf b 1)+1*(lf a 6*lf b 0)+38*(lf a 7*lf b 9)+19*(lf a 8*lf b 8)+38*(lf a 9*lf b 7),
  1*(lf a 0*lf b 7)+1*(lf a 1*lf b 6)+1*(lf a 2*lf b 5)+1*(lf a 3*lf b 4)+1*(lf a 4*lf b 3)+1*(lf a 5*lf b 2)+1*(lf a 6*lf b 1)+1*(lf a 7*lf b 0)+19*(lf a 8*lf b 9)+19*(lf a 9*lf b 8),
  1*(lf a 0*lf b 8)+2*(lf a 1*lf b 7)+1*(lf a 2*lf b 6)+2*(lf a 3*lf b 5)+1*(lf a 4*lf b 4)+2*(lf a 5*lf b 3)+1*(lf a 6*lf b 2)+2*(lf a 7*lf b 1)+1*(lf a 8*lf b 0)+38*(lf a 9*lf b 9),
  1*(lf a 0*lf b 9)+1*(lf a 1*lf b 8)+1*(lf a 2*lf b 7)+1*(lf a 3*lf b 6)+1*(lf a 4*lf b 5)+1*(lf a 5*lf b 4)+1*(lf a 6*lf b 3)+1*(lf a 7*lf b 2)+1*(lf a 8*lf b 1)+1*(lf a 9*lf b 0)]
def mulG (a b:List Int):List Int:=carD (lf (carD (lf (prG a b))))
theorem ten {p:Nat→Prop} (h0:p 0) (h1:p 1) (h2:p 2) (h3:p 3) (h4:p 4) (h5:p 5) (h6:p 6) (h7:p 7) (h8:p 8) (h9:p 9):∀ i,i<10→p i
 | 0,_=>h0 | 1,_=>h1 | 2,_=>h2 | 3,_=>h3 | 4,_=>h4 | 5,_=>h5 | 6,_=>h6 | 7,_=>h7 | 8,_=>h8 | 9,_=>h9
 | n+10,h=>by omega
theorem zgE {a b:List Int} (ha:gd10 a=true) (hb:gd10 b=true):(∀ i,i<10→gw (lf [lf a 0+lf b 0,lf a 1+lf b 1,lf a 2+lf b 2,lf a 3+lf b 3,lf a 4+lf b 4,lf a 5+lf b 5,lf a 6+lf b 6,lf a 7+lf b 7,lf a 8+lf b 8,lf a 9+lf b 9] i))∧gd10 (addG a b)=true∧∃ q,gv (addG a b)=gv a+gv b+q*pP:=by
 obtain ⟨a0,a1,a2,a3,a4,a5,a6,a7,a8,a9⟩:=zbN.1 ha
 obtain ⟨b0,b1,b2,b3,b4,b5,b6,b7,b8,b9⟩:=zbN.1 hb
 have hw:∀ i,i<10→gw (lf [lf a 0+lf b 0,lf a 1+lf b 1,lf a 2+lf b 2,lf a 3+lf b 3,lf a 4+lf b 4,lf a 5+lf b 5,lf a 6+lf b 6,lf a 7+lf b 7,lf a 8+lf b 8,lf a 9+lf b 9] i):=by
  apply ten <;> (simp only [lf,gw];omega)
 refine ⟨hw,zcA hw,?_⟩
 obtain ⟨q,e⟩:=zbZ (lf [lf a 0+lf b 0,lf a 1+lf b 1,lf a 2+lf b 2,lf a 3+lf b 3,lf a 4+lf b 4,lf a 5+lf b 5,lf a 6+lf b 6,lf a 7+lf b 7,lf a 8+lf b 8,lf a 9+lf b 9])
 refine ⟨q,e.trans ?_⟩
 simp only [lf,gv]
 grind
theorem zg1 {a b:List Int} (ha:gd10 a=true) (hb:gd10 b=true):(∀ i,i<10→gw (lf [lf a 0 - lf b 0,lf a 1 - lf b 1,lf a 2 - lf b 2,lf a 3 - lf b 3,lf a 4 - lf b 4,lf a 5 - lf b 5,lf a 6 - lf b 6,lf a 7 - lf b 7,lf a 8 - lf b 8,lf a 9 - lf b 9] i))∧gd10 (subG a b)=true∧∃ q,gv (subG a b)=gv a - gv b+q*pP:=by
 obtain ⟨a0,a1,a2,a3,a4,a5,a6,a7,a8,a9⟩:=zbN.1 ha
 obtain ⟨b0,b1,b2,b3,b4,b5,b6,b7,b8,b9⟩:=zbN.1 hb
 have hw:∀ i,i<10→gw (lf [lf a 0 - lf b 0,lf a 1 - lf b 1,lf a 2 - lf b 2,lf a 3 - lf b 3,lf a 4 - lf b 4,lf a 5 - lf b 5,lf a 6 - lf b 6,lf a 7 - lf b 7,lf a 8 - lf b 8,lf a 9 - lf b 9] i):=by
  apply ten <;> (simp only [lf,gw];omega)
 refine ⟨hw,zcA hw,?_⟩
 obtain ⟨q,e⟩:=zbZ (lf [lf a 0 - lf b 0,lf a 1 - lf b 1,lf a 2 - lf b 2,lf a 3 - lf b 3,lf a 4 - lf b 4,lf a 5 - lf b 5,lf a 6 - lf b 6,lf a 7 - lf b 7,lf a 8 - lf b 8,lf a 9 - lf b 9])
 refine ⟨q,e.trans ?_⟩
 simp only [lf,gv]
 grind
theorem zaf {x y:Int} (hx:-262144≤x∧x≤67108864) (hy:-262144≤y∧y≤67108864):-4503599627370496≤x*y∧x*y≤4503599627370496:=by
 have h1:0≤(67108864 - x)*(67108864 - y):=Int.mul_nonneg (by omega) (by omega)
 have h2:0≤(67108864 - x)*(67108864+y):=Int.mul_nonneg (by omega) (by omega)
 have h3:0≤(67108864+x)*(67108864 - y):=Int.mul_nonneg (by omega) (by omega)
 have h4:0≤(67108864+x)*(67108864+y):=Int.mul_nonneg (by omega) (by omega)
 simp only [Int.sub_mul,Int.mul_sub,Int.add_mul,Int.mul_add] at h1 h2 h3 h4
 generalize x*y=p at *
 omega
theorem zsF {a b:List Int} (ha:gd10 a=true) (hb:gd10 b=true):∀ i,i<10→gw (lf (prG a b) i):=by
 obtain ⟨a0,a1,a2,a3,a4,a5,a6,a7,a8,a9⟩:=zbN.1 ha
 obtain ⟨b0,b1,b2,b3,b4,b5,b6,b7,b8,b9⟩:=zbN.1 hb
 have p00:=zaf a0 b0;have p01:=zaf a0 b1;have p02:=zaf a0 b2;have p03:=zaf a0 b3;have p04:=zaf a0 b4;have p05:=zaf a0 b5;have p06:=zaf a0 b6;have p07:=zaf a0 b7;have p08:=zaf a0 b8;have p09:=zaf a0 b9
 have p10:=zaf a1 b0;have p11:=zaf a1 b1;have p12:=zaf a1 b2;have p13:=zaf a1 b3;have p14:=zaf a1 b4;have p15:=zaf a1 b5;have p16:=zaf a1 b6;have p17:=zaf a1 b7;have p18:=zaf a1 b8;have p19:=zaf a1 b9
 have p20:=zaf a2 b0;have p21:=zaf a2 b1;have p22:=zaf a2 b2;have p23:=zaf a2 b3;have p24:=zaf a2 b4;have p25:=zaf a2 b5;have p26:=zaf a2 b6;have p27:=zaf a2 b7;have p28:=zaf a2 b8;have p29:=zaf a2 b9
 have p30:=zaf a3 b0;have p31:=zaf a3 b1;have p32:=zaf a3 b2;have p33:=zaf a3 b3;have p34:=zaf a3 b4;have p35:=zaf a3 b5;have p36:=zaf a3 b6;have p37:=zaf a3 b7;have p38:=zaf a3 b8;have p39:=zaf a3 b9
 have p40:=zaf a4 b0;have p41:=zaf a4 b1;have p42:=zaf a4 b2;have p43:=zaf a4 b3;have p44:=zaf a4 b4;have p45:=zaf a4 b5;have p46:=zaf a4 b6;have p47:=zaf a4 b7;have p48:=zaf a4 b8;have p49:=zaf a4 b9
 have p50:=zaf a5 b0;have p51:=zaf a5 b1;have p52:=zaf a5 b2;have p53:=zaf a5 b3;have p54:=zaf a5 b4;have p55:=zaf a5 b5;have p56:=zaf a5 b6;have p57:=zaf a5 b7;have p58:=zaf a5 b8;have p59:=zaf a5 b9
 have p60:=zaf a6 b0;have p61:=zaf a6 b1;have p62:=zaf a6 b2;have p63:=zaf a6 b3;have p64:=zaf a6 b4;have p65:=zaf a6 b5;have p66:=zaf a6 b6;have p67:=zaf a6 b7;have p68:=zaf a6 b8;have p69:=zaf a6 b9
 have p70:=zaf a7 b0;have p71:=zaf a7 b1;have p72:=zaf a7 b2;have p73:=zaf a7 b3;have p74:=zaf a7 b4;have p75:=zaf a7 b5;have p76:=zaf a7 b6;have p77:=zaf a7 b7;have p78:=zaf a7 b8;have p79:=zaf a7 b9
 have p80:=zaf a8 b0;have p81:=zaf a8 b1;have p82:=zaf a8 b2;have p83:=zaf a8 b3;have p84:=zaf a8 b4;have p85:=zaf a8 b5;have p86:=zaf a8 b6;have p87:=zaf a8 b7;have p88:=zaf a8 b8;have p89:=zaf a8 b9
 have p90:=zaf a9 b0;have p91:=zaf a9 b1;have p92:=zaf a9 b2;have p93:=zaf a9 b3;have p94:=zaf a9 b4;have p95:=zaf a9 b5;have p96:=zaf a9 b6;have p97:=zaf a9 b7;have p98:=zaf a9 b8;have p99:=zaf a9 b9
 apply ten <;> (simp only [lf,prG,gw];omega)
theorem zv0 (a b:List Int):lf (prG a b) 0+lf (prG a b) 1*67108864+lf (prG a b) 2*2251799813685248+lf (prG a b) 3*151115727451828646838272+lf (prG a b) 4*5070602400912917605986812821504+lf (prG a b) 5*340282366920938463463374607431768211456+lf (prG a b) 6*11417981541647679048466287755595961091061972992+lf (prG a b) 7*766247770432944429179173513575154591809369561091801088+lf (prG a b) 8*25711008708143844408671393477458601640355247900524685364822016+lf (prG a b) 9*1725436586697640946858688965569256363112777243042596638790631055949824=gv a*gv b - pP*(2*(lf a 1*lf b 9)*1+1*(lf a 2*lf b 8)*1+1*(lf a 2*lf b 9)*67108864+2*(lf a 3*lf b 7)*1+1*(lf a 3*lf b 8)*67108864+2*(lf a 3*lf b 9)*2251799813685248+1*(lf a 4*lf b 6)*1+1*(lf a 4*lf b 7)*67108864+1*(lf a 4*lf b 8)*2251799813685248+1*(lf a 4*lf b 9)*151115727451828646838272+2*(lf a 5*lf b 5)*1+1*(lf a 5*lf b 6)*67108864+2*(lf a 5*lf b 7)*2251799813685248+1*(lf a 5*lf b 8)*151115727451828646838272+2*(lf a 5*lf b 9)*5070602400912917605986812821504+1*(lf a 6*lf b 4)*1+1*(lf a 6*lf b 5)*67108864+1*(lf a 6*lf b 6)*2251799813685248+1*(lf a 6*lf b 7)*151115727451828646838272+1*(lf a 6*lf b 8)*5070602400912917605986812821504+1*(lf a 6*lf b 9)*340282366920938463463374607431768211456+2*(lf a 7*lf b 3)*1+1*(lf a 7*lf b 4)*67108864+2*(lf a 7*lf b 5)*2251799813685248+1*(lf a 7*lf b 6)*151115727451828646838272+2*(lf a 7*lf b 7)*5070602400912917605986812821504+1*(lf a 7*lf b 8)*340282366920938463463374607431768211456+2*(lf a 7*lf b 9)*11417981541647679048466287755595961091061972992+1*(lf a 8*lf b 2)*1+1*(lf a 8*lf b 3)*67108864+1*(lf a 8*lf b 4)*2251799813685248+1*(lf a 8*lf b 5)*151115727451828646838272+1*(lf a 8*lf b 6)*5070602400912917605986812821504+1*(lf a 8*lf b 7)*340282366920938463463374607431768211456+1*(lf a 8*lf b 8)*11417981541647679048466287755595961091061972992+1*(lf a 8*lf b 9)*766247770432944429179173513575154591809369561091801088+2*(lf a 9*lf b 1)*1+1*(lf a 9*lf b 2)*67108864+2*(lf a 9*lf b 3)*2251799813685248+1*(lf a 9*lf b 4)*151115727451828646838272+2*(lf a 9*lf b 5)*5070602400912917605986812821504+1*(lf a 9*lf b 6)*340282366920938463463374607431768211456+2*(lf a 9*lf b 7)*11417981541647679048466287755595961091061972992+1*(lf a 9*lf b 8)*766247770432944429179173513575154591809369561091801088+2*(lf a 9*lf b 9)*25711008708143844408671393477458601640355247900524685364822016):=by
 simp only [prG,lf,gv,pP]
 generalize lf a 0=a0;generalize lf a 1=a1;generalize lf a 2=a2;generalize lf a 3=a3;generalize lf a 4=a4;generalize lf a 5=a5;generalize lf a 6=a6;generalize lf a 7=a7;generalize lf a 8=a8;generalize lf a 9=a9
 generalize lf b 0=b0;generalize lf b 1=b1;generalize lf b 2=b2;generalize lf b 3=b3;generalize lf b 4=b4;generalize lf b 5=b5;generalize lf b 6=b6;generalize lf b 7=b7;generalize lf b 8=b8;generalize lf b 9=b9
 grind
theorem gd_gw {l:List Int} (h:gd10 l=true):∀ i,i<10→gw (lf l i):=by
 obtain ⟨a0,a1,a2,a3,a4,a5,a6,a7,a8,a9⟩:=zbN.1 h
 apply ten <;> (simp only [gw];omega)
theorem zkb {a b:List Int} (ha:gd10 a=true) (hb:gd10 b=true):gd10 (mulG a b)=true∧∃ q,gv (mulG a b)=gv a*gv b+q*pP:=by
 have h1:=zcA (zsF ha hb)
 have h2:=zcA (gd_gw h1)
 refine ⟨h2,?_⟩
 obtain ⟨q1,e1⟩:=zbZ (lf (prG a b))
 obtain ⟨q2,e2⟩:=zbZ (lf (carD (lf (prG a b))))
 rw [zv0] at e1
 have e3:gv (mulG a b)=gv (carD (lf (prG a b)))+q2*pP:=e2
 rw [e3,e1]
 generalize gv a*gv b=m
 refine ⟨q1+q2 - (2*(lf a 1*lf b 9)*1+1*(lf a 2*lf b 8)*1+1*(lf a 2*lf b 9)*67108864+2*(lf a 3*lf b 7)*1+1*(lf a 3*lf b 8)*67108864+2*(lf a 3*lf b 9)*2251799813685248+1*(lf a 4*lf b 6)*1+1*(lf a 4*lf b 7)*67108864+1*(lf a 4*lf b 8)*2251799813685248+1*(lf a 4*lf b 9)*151115727451828646838272+2*(lf a 5*lf b 5)*1+1*(lf a 5*lf b 6)*67108864+2*(lf a 5*lf b 7)*2251799813685248+1*(lf a 5*lf b 8)*151115727451828646838272+2*(lf a 5*lf b 9)*5070602400912917605986812821504+1*(lf a 6*lf b 4)*1+1*(lf a 6*lf b 5)*67108864+1*(lf a 6*lf b 6)*2251799813685248+1*(lf a 6*lf b 7)*151115727451828646838272+1*(lf a 6*lf b 8)*5070602400912917605986812821504+1*(lf a 6*lf b 9)*340282366920938463463374607431768211456+2*(lf a 7*lf b 3)*1+1*(lf a 7*lf b 4)*67108864+2*(lf a 7*lf b 5)*2251799813685248+1*(lf a 7*lf b 6)*151115727451828646838272+2*(lf a 7*lf b 7)*5070602400912917605986812821504+1*(lf a 7*lf b 8)*340282366920938463463374607431768211456+2*(lf a 7*lf b 9)*11417981541647679048466287755595961091061972992+1*(lf a 8*lf b 2)*1+1*(lf a 8*lf b 3)*67108864+1*(lf a 8*lf b 4)*2251799813685248+1*(lf a 8*lf b 5)*151115727451828646838272+1*(lf a 8*lf b 6)*5070602400912917605986812821504+1*(lf a 8*lf b 7)*340282366920938463463374607431768211456+1*(lf a 8*lf b 8)*11417981541647679048466287755595961091061972992+1*(lf a 8*lf b 9)*766247770432944429179173513575154591809369561091801088+2*(lf a 9*lf b 1)*1+1*(lf a 9*lf b 2)*67108864+2*(lf a 9*lf b 3)*2251799813685248+1*(lf a 9*lf b 4)*151115727451828646838272+2*(lf a 9*lf b 5)*5070602400912917605986812821504+1*(lf a 9*lf b 6)*340282366920938463463374607431768211456+2*(lf a 9*lf b 7)*11417981541647679048466287755595961091061972992+1*(lf a 9*lf b 8)*766247770432944429179173513575154591809369561091801088+2*(lf a 9*lf b 9)*25711008708143844408671393477458601640355247900524685364822016),?_⟩
 generalize (2*(lf a 1*lf b 9)*1+1*(lf a 2*lf b 8)*1+1*(lf a 2*lf b 9)*67108864+2*(lf a 3*lf b 7)*1+1*(lf a 3*lf b 8)*67108864+2*(lf a 3*lf b 9)*2251799813685248+1*(lf a 4*lf b 6)*1+1*(lf a 4*lf b 7)*67108864+1*(lf a 4*lf b 8)*2251799813685248+1*(lf a 4*lf b 9)*151115727451828646838272+2*(lf a 5*lf b 5)*1+1*(lf a 5*lf b 6)*67108864+2*(lf a 5*lf b 7)*2251799813685248+1*(lf a 5*lf b 8)*151115727451828646838272+2*(lf a 5*lf b 9)*5070602400912917605986812821504+1*(lf a 6*lf b 4)*1+1*(lf a 6*lf b 5)*67108864+1*(lf a 6*lf b 6)*2251799813685248+1*(lf a 6*lf b 7)*151115727451828646838272+1*(lf a 6*lf b 8)*5070602400912917605986812821504+1*(lf a 6*lf b 9)*340282366920938463463374607431768211456+2*(lf a 7*lf b 3)*1+1*(lf a 7*lf b 4)*67108864+2*(lf a 7*lf b 5)*2251799813685248+1*(lf a 7*lf b 6)*151115727451828646838272+2*(lf a 7*lf b 7)*5070602400912917605986812821504+1*(lf a 7*lf b 8)*340282366920938463463374607431768211456+2*(lf a 7*lf b 9)*11417981541647679048466287755595961091061972992+1*(lf a 8*lf b 2)*1+1*(lf a 8*lf b 3)*67108864+1*(lf a 8*lf b 4)*2251799813685248+1*(lf a 8*lf b 5)*151115727451828646838272+1*(lf a 8*lf b 6)*5070602400912917605986812821504+1*(lf a 8*lf b 7)*340282366920938463463374607431768211456+1*(lf a 8*lf b 8)*11417981541647679048466287755595961091061972992+1*(lf a 8*lf b 9)*766247770432944429179173513575154591809369561091801088+2*(lf a 9*lf b 1)*1+1*(lf a 9*lf b 2)*67108864+2*(lf a 9*lf b 3)*2251799813685248+1*(lf a 9*lf b 4)*151115727451828646838272+2*(lf a 9*lf b 5)*5070602400912917605986812821504+1*(lf a 9*lf b 6)*340282366920938463463374607431768211456+2*(lf a 9*lf b 7)*11417981541647679048466287755595961091061972992+1*(lf a 9*lf b 8)*766247770432944429179173513575154591809369561091801088+2*(lf a 9*lf b 9)*25711008708143844408671393477458601640355247900524685364822016)=w
 rw [Int.sub_mul,Int.add_mul,Int.mul_comm pP w]
 omega
def gm (l:List Int):Int:=gv l % pP
theorem zvO {a b:List Int} (ha:gd10 a=true) (hb:gd10 b=true):gm (mulG a b)=mM (gm a) (gm b):=by
 obtain ⟨_,q,e⟩:=zkb ha hb
 unfold gm mM
 rw [e,Int.add_mul_emod_self_right,← Int.mul_emod]
theorem zui {a b:List Int} (ha:gd10 a=true) (hb:gd10 b=true):gm (addG a b)=mA (gm a) (gm b):=by
 obtain ⟨_,_,q,e⟩:=zgE ha hb
 unfold gm mA
 rw [e,Int.add_mul_emod_self_right,← Int.add_emod]
theorem ztt {a b:List Int} (ha:gd10 a=true) (hb:gd10 b=true):gm (subG a b)=mS (gm a) (gm b):=by
 obtain ⟨_,_,q,e⟩:=zg1 ha hb
 unfold gm mS
 rw [e,Int.add_mul_emod_self_right,← Int.sub_emod]
end Go.AM
namespace Go.AM
open Go
theorem zcl (a b:Int):(a % pP*b) % pP=(a*b) % pP:=by rw [Int.mul_emod,Int.emod_emod_of_dvd a (Int.dvd_refl pP),← Int.mul_emod]
theorem zdi (a b:Int):(a*(b % pP)) % pP=(a*b) % pP:=by rw [Int.mul_comm,zcl,Int.mul_comm]
theorem zjS (a b:Int):(a % pP+b) % pP=(a+b) % pP:=by unfold pP;omega
theorem zr4 (a b:Int):(a+b % pP) % pP=(a+b) % pP:=by unfold pP;omega
theorem zkX (a b:Int):(a % pP - b) % pP=(a - b) % pP:=by unfold pP;omega
theorem zhg (a b:Int):(a - b % pP) % pP=(a - b) % pP:=by unfold pP;omega
theorem md_id {a:Int} (h:0≤a∧a<pP):a % pP=a:=Int.emod_eq_of_lt h.1 h.2
theorem md_md (a:Int):a % pP % pP=a % pP:=Int.emod_emod_of_dvd a (Int.dvd_refl pP)
abbrev Q4:=Int × Int × Int × Int
def eD:Int:=37095705934669439343138083508754565189542113879843219016388785533085940283555
def addS (p q:Q4):Q4 :=
 let a:=mM p.1 q.1
 let b:=mM p.2.1 q.2.1
 let c:=mM (mM eD p.2.2.2) q.2.2.2
 let d:=mM p.2.2.1 q.2.2.1
 let e:=mS (mS (mM (mA p.1 p.2.1) (mA q.1 q.2.1)) a) b
 let f:=mS d c
 let g:=mA d c
 let h:=mA b a
 (mM e f,mM g h,mM f g,mM e h)
def dblS (p:Q4):Q4 :=
 let a:=mM p.1 p.1
 let b:=mM p.2.1 p.2.1
 let c:=mA (mM p.2.2.1 p.2.2.1) (mM p.2.2.1 p.2.2.1)
 let h:=mA a b
 let e:=mS h (mM (mA p.1 p.2.1) (mA p.1 p.2.1))
 let g:=mS a b
 let f:=mA c g
 (mM e f,mM g h,mM f g,mM e h)
def idS4:Q4:=(0,1,1,0)
def bdP (p:Nat→Int):Bool:=bd5 (px p)&&(bd5 (py p)&&(bd5 (pz p)&&bd5 (pT p)))
def vP (p:Nat→Int):Q4:=(fm (px p),fm (py p),fm (pz p),fm (pT p))
theorem bdP_t {p:Nat→Int}:bdP p=true ↔ bd5 (px p)=true∧bd5 (py p)=true∧bd5 (pz p)=true∧bd5 (pT p)=true:=by simp only [bdP,Bool.and_eq_true]
theorem zb4 {p:Nat→Int} (h:bdP p=true):chkP p=true:=by
 obtain ⟨h1,h2,h3,h4⟩:=bdP_t.1 h
 simp only [chkP,Bool.and_eq_true]
 exact ⟨zb3 h1,zb3 h2,zb3 h3,zb3 h4⟩
theorem zmM {a b c d:List Int} (ha:a.length=5) (hb:b.length=5) (hc:c.length=5) (hd:d.length=5):px (lf (a++(b++(c++d))))=a∧py (lf (a++(b++(c++d))))=b∧pz (lf (a++(b++(c++d))))=c∧pT (lf (a++(b++(c++d))))=d:=by
 match a,ha with
 | [a0,a1,a2,a3,a4],_ =>
  match b,hb with
  | [b0,b1,b2,b3,b4],_ =>
   match c,hc with
   | [c0,c1,c2,c3,c4],_ =>
    match d,hd with
    | [d0,d1,d2,d3,d4],_=>exact ⟨rfl,rfl,rfl,rfl⟩
theorem cv_bd:bd5 cvL=true:=by decide
theorem cv_fm:fm cvL=eD:=by decide
theorem zdm {p q:Nat→Int} (hp:bdP p=true) (hq:bdP q=true):bdP (lf (ptAdd p q))=true∧vP (lf (ptAdd p q))=addS (vP p) (vP q):=by
 obtain ⟨p1,p2,p3,p4⟩:=bdP_t.1 hp
 obtain ⟨q1,q2,q3,q4⟩:=bdP_t.1 hq
 unfold ptAdd
 dsimp only
 have a:=zaW p1 q1
 have b:=zaW p2 q2
 have c0:=zaW cv_bd p4
 have c:=zaW c0 q4
 have d:=zaW p3 q3
 have s1:=zco p1 p2
 have s2:=zco q1 q2
 have m:=zaW s1 s2
 have e0:=zc3 m a
 have e:=zc3 e0 b
 have f:=zc3 d c
 have g:=zco d c
 have h:=zco b a
 have k1:=zaW e f
 have k2:=zaW g h
 have k3:=zaW f g
 have k4:=zaW e h
 obtain ⟨x1,x2,x3,x4⟩:=zmM (a:=mulV (r5 (subV (r5 (subV (r5 (mulV (r5 (addV (px p) (py p))) (r5 (addV (px q) (py q))))) (r5 (mulV (px p) (px q))))) (r5 (mulV (py p) (py q))))) (r5 (subV (r5 (mulV (pz p) (pz q))) (r5 (mulV (r5 (mulV (r5 cvL) (pT p))) (pT q))))))
  (b:=mulV (r5 (addV (r5 (mulV (pz p) (pz q))) (r5 (mulV (r5 (mulV (r5 cvL) (pT p))) (pT q))))) (r5 (addV (r5 (mulV (py p) (py q))) (r5 (mulV (px p) (px q))))))
  (c:=mulV (r5 (subV (r5 (mulV (pz p) (pz q))) (r5 (mulV (r5 (mulV (r5 cvL) (pT p))) (pT q))))) (r5 (addV (r5 (mulV (pz p) (pz q))) (r5 (mulV (r5 (mulV (r5 cvL) (pT p))) (pT q))))))
  (d:=mulV (r5 (subV (r5 (subV (r5 (mulV (r5 (addV (px p) (py p))) (r5 (addV (px q) (py q))))) (r5 (mulV (px p) (px q))))) (r5 (mulV (py p) (py q))))) (r5 (addV (r5 (mulV (py p) (py q))) (r5 (mulV (px p) (px q)))))) rfl rfl rfl rfl
 refine ⟨bdP_t.2 ⟨by rw [x1];exact k1,by rw [x2];exact k2,by rw [x3];exact k3,by rw [x4];exact k4⟩,?_⟩
 unfold vP
 rw [x1,x2,x3,x4]
 have E1:=zaE e f
 have E2:=zaE g h
 have E3:=zaE f g
 have E4:=zaE e h
 rw [zcG e0 b,zcG m a,zaE s1 s2,zb2 p1 p2,zb2 q1 q2,zaE p1 q1,zaE p2 q2] at E1 E4
 rw [zcG d c,zaE p3 q3,zaE c0 q4,zaE cv_bd p4,cv_fm] at E1 E3
 rw [zb2 d c,zaE p3 q3,zaE c0 q4,zaE cv_bd p4,cv_fm] at E2 E3
 rw [zb2 b a,zaE p2 q2,zaE p1 q1] at E2 E4
 exact Prod.ext E1 (Prod.ext E2 (Prod.ext E3 E4))
theorem zhI {p:Nat→Int} (hp:bdP p=true):bdP (lf (ptDbl p))=true∧vP (lf (ptDbl p))=dblS (vP p):=by
 obtain ⟨p1,p2,p3,p4⟩:=bdP_t.1 hp
 unfold ptDbl
 dsimp only
 have a:=zaW p1 p1
 have b:=zaW p2 p2
 have c0:=zaW p3 p3
 have c:=zco c0 c0
 have h:=zco a b
 have s:=zco p1 p2
 have ss:=zaW s s
 have e:=zc3 h ss
 have g:=zc3 a b
 have f:=zco c g
 have k1:=zaW e f
 have k2:=zaW g h
 have k3:=zaW f g
 have k4:=zaW e h
 obtain ⟨x1,x2,x3,x4⟩:=zmM (a:=mulV (r5 (subV (r5 (addV (r5 (mulV (px p) (px p))) (r5 (mulV (py p) (py p))))) (r5 (mulV (r5 (addV (px p) (py p))) (r5 (addV (px p) (py p))))))) (r5 (addV (r5 (addV (r5 (mulV (pz p) (pz p))) (r5 (mulV (pz p) (pz p))))) (r5 (subV (r5 (mulV (px p) (px p))) (r5 (mulV (py p) (py p))))))))
  (b:=mulV (r5 (subV (r5 (mulV (px p) (px p))) (r5 (mulV (py p) (py p))))) (r5 (addV (r5 (mulV (px p) (px p))) (r5 (mulV (py p) (py p))))))
  (c:=mulV (r5 (addV (r5 (addV (r5 (mulV (pz p) (pz p))) (r5 (mulV (pz p) (pz p))))) (r5 (subV (r5 (mulV (px p) (px p))) (r5 (mulV (py p) (py p))))))) (r5 (subV (r5 (mulV (px p) (px p))) (r5 (mulV (py p) (py p))))))
  (d:=mulV (r5 (subV (r5 (addV (r5 (mulV (px p) (px p))) (r5 (mulV (py p) (py p))))) (r5 (mulV (r5 (addV (px p) (py p))) (r5 (addV (px p) (py p))))))) (r5 (addV (r5 (mulV (px p) (px p))) (r5 (mulV (py p) (py p)))))) rfl rfl rfl rfl
 refine ⟨bdP_t.2 ⟨by rw [x1];exact k1,by rw [x2];exact k2,by rw [x3];exact k3,by rw [x4];exact k4⟩,?_⟩
 unfold vP
 rw [x1,x2,x3,x4]
 have E1:=zaE e f
 have E2:=zaE g h
 have E3:=zaE f g
 have E4:=zaE e h
 rw [zcG h ss,zb2 a b,zaE s s,zb2 p1 p2,zaE p1 p1,zaE p2 p2] at E1 E4
 rw [zb2 c g,zb2 c0 c0,zcG a b,zaE p3 p3,zaE p1 p1,zaE p2 p2] at E1 E3
 rw [zcG a b,zb2 a b,zaE p1 p1,zaE p2 p2] at E2
 exact Prod.ext E1 (Prod.ext E2 (Prod.ext E3 E4))
def powM (x:Int) (n:Nat):Int:=x ^ n % pP
theorem zdw (x:Int) (a b:Nat):mM (powM x a) (powM x b)=powM x (a+b):=by
 unfold mM powM
 rw [zcl,zdi,← Int.pow_add]
theorem zgO {x:Int} (h:0≤x∧x<pP):powM x 1=x:=by unfold powM;rw [Int.pow_one,md_id h]
end Go.AM
namespace Go.AM
open Go
theorem zbY (x y:Int):ior .u64 x y=ior .u64 y x:=by
 unfold ior
 rw [BitVec.or_comm]
theorem orS12 {h l:Int} (_hh:U64 h) (hl:0≤l∧l<4096):ior .u64 l (ishl .u64 h 12)=(h*4096+l) % 18446744073709551616:=by
 have e1:ishl .u64 h 12=h*4096 % 18446744073709551616:=by
  show wr .u64 (h*2 ^ (min (12:Int).toNat 64))=_
  rw [wr64];rfl
 rw [zbY,e1,ior64 ⟨by omega,by omega⟩ ⟨hl.1,by omega⟩]
 have e2:(h*4096 % 18446744073709551616).toNat=2 ^ 12*(h % 4503599627370496).toNat:=by omega
 rw [e2,← Nat.two_pow_add_eq_or_of_lt (i:=12) (b:=l.toNat) (by omega)]
 omega
theorem orS13 {h l:Int} (_hh:U64 h) (hl:0≤l∧l<8192):ior .u64 l (ishl .u64 h 13)=(h*8192+l) % 18446744073709551616:=by
 have e1:ishl .u64 h 13=h*8192 % 18446744073709551616:=by
  show wr .u64 (h*2 ^ (min (13:Int).toNat 64))=_
  rw [wr64];rfl
 rw [zbY,e1,ior64 ⟨by omega,by omega⟩ ⟨hl.1,by omega⟩]
 have e2:(h*8192 % 18446744073709551616).toNat=2 ^ 13*(h % 2251799813685248).toNat:=by omega
 rw [e2,← Nat.two_pow_add_eq_or_of_lt (i:=13) (b:=l.toNat) (by omega)]
 omega
theorem orS25 {h l:Int} (_hh:U64 h) (hl:0≤l∧l<33554432):ior .u64 l (ishl .u64 h 25)=(h*33554432+l) % 18446744073709551616:=by
 have e1:ishl .u64 h 25=h*33554432 % 18446744073709551616:=by
  show wr .u64 (h*2 ^ (min (25:Int).toNat 64))=_
  rw [wr64];rfl
 rw [zbY,e1,ior64 ⟨by omega,by omega⟩ ⟨hl.1,by omega⟩]
 have e2:(h*33554432 % 18446744073709551616).toNat=2 ^ 25*(h % 549755813888).toNat:=by omega
 rw [e2,← Nat.two_pow_add_eq_or_of_lt (i:=25) (b:=l.toNat) (by omega)]
 omega
theorem orS26 {h l:Int} (_hh:U64 h) (hl:0≤l∧l<67108864):ior .u64 l (ishl .u64 h 26)=(h*67108864+l) % 18446744073709551616:=by
 have e1:ishl .u64 h 26=h*67108864 % 18446744073709551616:=by
  show wr .u64 (h*2 ^ (min (26:Int).toNat 64))=_
  rw [wr64];rfl
 rw [zbY,e1,ior64 ⟨by omega,by omega⟩ ⟨hl.1,by omega⟩]
 have e2:(h*67108864 % 18446744073709551616).toNat=2 ^ 26*(h % 274877906944).toNat:=by omega
 rw [e2,← Nat.two_pow_add_eq_or_of_lt (i:=26) (b:=l.toNat) (by omega)]
 omega
theorem orS38 {h l:Int} (_hh:U64 h) (hl:0≤l∧l<274877906944):ior .u64 l (ishl .u64 h 38)=(h*274877906944+l) % 18446744073709551616:=by
 have e1:ishl .u64 h 38=h*274877906944 % 18446744073709551616:=by
  show wr .u64 (h*2 ^ (min (38:Int).toNat 64))=_
  rw [wr64];rfl
 rw [zbY,e1,ior64 ⟨by omega,by omega⟩ ⟨hl.1,by omega⟩]
 have e2:(h*274877906944 % 18446744073709551616).toNat=2 ^ 38*(h % 67108864).toNat:=by omega
 rw [e2,← Nat.two_pow_add_eq_or_of_lt (i:=38) (b:=l.toNat) (by omega)]
 omega
theorem orS39 {h l:Int} (_hh:U64 h) (hl:0≤l∧l<549755813888):ior .u64 l (ishl .u64 h 39)=(h*549755813888+l) % 18446744073709551616:=by
 have e1:ishl .u64 h 39=h*549755813888 % 18446744073709551616:=by
  show wr .u64 (h*2 ^ (min (39:Int).toNat 64))=_
  rw [wr64];rfl
 rw [zbY,e1,ior64 ⟨by omega,by omega⟩ ⟨hl.1,by omega⟩]
 have e2:(h*549755813888 % 18446744073709551616).toNat=2 ^ 39*(h % 33554432).toNat:=by omega
 rw [e2,← Nat.two_pow_add_eq_or_of_lt (i:=39) (b:=l.toNat) (by omega)]
 omega
theorem orS51 {h l:Int} (_hh:U64 h) (hl:0≤l∧l<2251799813685248):ior .u64 l (ishl .u64 h 51)=(h*2251799813685248+l) % 18446744073709551616:=by
 have e1:ishl .u64 h 51=h*2251799813685248 % 18446744073709551616:=by
  show wr .u64 (h*2 ^ (min (51:Int).toNat 64))=_
  rw [wr64];rfl
 rw [zbY,e1,ior64 ⟨by omega,by omega⟩ ⟨hl.1,by omega⟩]
 have e2:(h*2251799813685248 % 18446744073709551616).toNat=2 ^ 51*(h % 8192).toNat:=by omega
 rw [e2,← Nat.two_pow_add_eq_or_of_lt (i:=51) (b:=l.toNat) (by omega)]
 omega
def loadRaw (b:Nat→Int):List Int :=
 let w0:=orB b 0 8
 let w1:=orB b 1 8
 let w2:=orB b 2 8
 let w3:=orB b 3 8
 [wr .u64 (m51 w0+wr .u64 (19*ishr .u64 w3 63)),m51 (ior .u64 (ishr .u64 w0 51) (ishl .u64 w1 13)),m51 (ior .u64 (ishr .u64 w1 38) (ishl .u64 w2 26)),m51 (ior .u64 (ishr .u64 w2 25) (ishl .u64 w3 39)),m51 (ishr .u64 w3 12)]
def loadL (v:Int):List Int:=[v % 2251799813685248+19*(v / 57896044618658097711785492504343953926634992332820282019728792003956564819968),v / 2251799813685248 % 2251799813685248,v / 5070602400912917605986812821504 % 2251799813685248,v / 11417981541647679048466287755595961091061972992 % 2251799813685248,v / 25711008708143844408671393477458601640355247900524685364822016 % 2251799813685248]
theorem zqq {b:Nat→Int} (h:areB b 32 0=true):loadRaw b=loadL (hval b 32 0):=by
 have hr:=zaQ h
 have e:=zkL h
 have e0:orB b 0 8=limbs4 (hval b 32 0) 0:=congrFun e 0
 have e1:orB b 1 8=limbs4 (hval b 32 0) 1:=congrFun e 1
 have e2:orB b 2 8=limbs4 (hval b 32 0) 2:=congrFun e 2
 have e3:orB b 3 8=limbs4 (hval b 32 0) 3:=congrFun e 3
 unfold loadRaw loadL
 dsimp only
 rw [e0,e1,e2,e3]
 generalize hval b 32 0=v at *
 simp only [limbs4,lf,ishr8 _ 63 (by omega),show ∀ x,ishr .u64 x 51=x / 2 ^ 51 from fun x=>ishr8 x 51 (by omega),show ∀ x,ishr .u64 x 63=x / 2 ^ 63 from fun x=>ishr8 x 63 (by omega),show ∀ x,ishr .u64 x 38=x / 2 ^ 38 from fun x=>ishr8 x 38 (by omega),show ∀ x,ishr .u64 x 25=x / 2 ^ 25 from fun x=>ishr8 x 25 (by omega),show ∀ x,ishr .u64 x 12=x / 2 ^ 12 from fun x=>ishr8 x 12 (by omega)]
 have r:∀ x:Int,U64 (x % 18446744073709551616):=fun x=>⟨by omega,by omega⟩
 have hv:0≤v∧v<115792089237316195423570985008687907853269984665640564039457584007913129639936:=⟨hr.1,by have:=hr.2;simpa using this⟩
 obtain ⟨w0,f0⟩:∃ q,v % 18446744073709551616=q:=⟨_,rfl⟩
 obtain ⟨w1,f1⟩:∃ q,v / 18446744073709551616 % 18446744073709551616=q:=⟨_,rfl⟩
 obtain ⟨w2,f2⟩:∃ q,v / 18446744073709551616 / 18446744073709551616 % 18446744073709551616=q:=⟨_,rfl⟩
 obtain ⟨w3,f3⟩:∃ q,v / 18446744073709551616 / 18446744073709551616 / 18446744073709551616 % 18446744073709551616=q:=⟨_,rfl⟩
 have c0:U64 w0:=by rw [← f0];exact r _
 have c1:U64 w1:=by rw [← f1];exact r _
 have c2:U64 w2:=by rw [← f2];exact r _
 have c3:U64 w3:=by rw [← f3];exact r _
 have hw:v=w0+18446744073709551616*(w1+18446744073709551616*(w2+18446744073709551616*w3)):=by omega
 rw [f0,f1,f2,f3]
 clear f0 f1 f2 f3 e0 e1 e2 e3 e r hv hr h
 subst hw
 rw [orS13 c1 ⟨by omega,by omega⟩,orS26 c2 ⟨by omega,by omega⟩,orS39 c3 ⟨by omega,by omega⟩]
 rw [zbc c0,zbc (x:=(w1*8192+w0 / 2 ^ 51) % 18446744073709551616) ⟨by omega,by omega⟩,zbc (x:=(w2*67108864+w1 / 2 ^ 38) % 18446744073709551616) ⟨by omega,by omega⟩,zbc (x:=(w3*549755813888+w2 / 2 ^ 25) % 18446744073709551616) ⟨by omega,by omega⟩,zbc (x:=w3 / 2 ^ 12) ⟨by omega,by omega⟩,wr64,wr64]
 have g0:(w0 % 2251799813685248+19*(w3 / 2 ^ 63) % 18446744073709551616) % 18446744073709551616=w0 % 2251799813685248+19*(w3 / 2 ^ 63):=by omega
 have g1:(w0+18446744073709551616*(w1+18446744073709551616*(w2+18446744073709551616*w3))) / 57896044618658097711785492504343953926634992332820282019728792003956564819968=w3 / 9223372036854775808:=by omega
 rw [g0,g1]
 have d1:(w0+18446744073709551616*(w1+18446744073709551616*(w2+18446744073709551616*w3))) / 2251799813685248=w0 / 2 ^ 51+8192*(w1+18446744073709551616*(w2+18446744073709551616*w3)):=by omega
 have d2:(w0+18446744073709551616*(w1+18446744073709551616*(w2+18446744073709551616*w3))) / 5070602400912917605986812821504=w1 / 2 ^ 38+67108864*(w2+18446744073709551616*w3):=by omega
 have d3:(w0+18446744073709551616*(w1+18446744073709551616*(w2+18446744073709551616*w3))) / 11417981541647679048466287755595961091061972992=w2 / 2 ^ 25+549755813888*w3:=by omega
 have d4:(w0+18446744073709551616*(w1+18446744073709551616*(w2+18446744073709551616*w3))) / 25711008708143844408671393477458601640355247900524685364822016=w3 / 2 ^ 12:=by omega
 rw [d1,d2,d3,d4]
 clear d1 d2 d3 d4 g0 g1
 generalize w0 / 2 ^ 51=x0
 generalize w1 / 2 ^ 38=x1
 generalize w2 / 2 ^ 25=x2
 generalize w3 / 2 ^ 12=x3
 congr 1
 ·omega
 congr 1
 ·omega
 congr 1
 ·omega
 congr 1
 omega
theorem zfd {v:Int} (hv:0≤v∧v<115792089237316195423570985008687907853269984665640564039457584007913129639936):bd5 (loadL v)=true∧fm (loadL v)=v % pP:=by
 refine ⟨?_,?_⟩
 ·rw [bd5_t]
  simp only [loadL,lf]
  omega
 ·have:fv (loadL v)=v - v / 57896044618658097711785492504343953926634992332820282019728792003956564819968*pP:=by
   simp only [fv,loadL,lf,pP]
   omega
  unfold fm
  rw [this,Int.sub_mul_emod_self_right]
def byW (l:Nat→Int):Nat→Int :=
 let q0:=ishr .u64 (wr .u64 (l 0+19)) 51
 let q1:=ishr .u64 (wr .u64 (l 1+q0)) 51
 let q2:=ishr .u64 (wr .u64 (l 2+q1)) 51
 let q3:=ishr .u64 (wr .u64 (l 3+q2)) 51
 let q4:=ishr .u64 (wr .u64 (l 4+q3)) 51
 let z0:=wr .u64 (l 0+wr .u64 (19*q4))
 let z1:=wr .u64 (l 1+ishr .u64 z0 51)
 let z2:=wr .u64 (l 2+ishr .u64 z1 51)
 let z3:=wr .u64 (l 3+ishr .u64 z2 51)
 let z4:=wr .u64 (l 4+ishr .u64 z3 51)
 let m0:=m51 z0
 let m1:=m51 z1
 let m2:=m51 z2
 let m3:=m51 z3
 let m4:=m51 z4
 lf [ior .u64 m0 (ishl .u64 m1 51),ior .u64 (ishr .u64 m1 13) (ishl .u64 m2 38),ior .u64 (ishr .u64 m2 26) (ishl .u64 m3 25),ior .u64 (ishr .u64 m3 39) (ishl .u64 m4 12)]
def bytesRaw (a:Nat→Int):List Int:=backL (byW (lf (carL (lf (carL a)))))
theorem ztj {a0 a1 a2 a3 a4 q0 q1 q2 q3 q4 r0 r1 r2 r3 r4:Int} (e0:a0+19=2251799813685248*q0+r0) (e1:a1+q0=2251799813685248*q1+r1) (e2:a2+q1=2251799813685248*q2+r2) (e3:a3+q2=2251799813685248*q3+r3) (e4:a4+q3=2251799813685248*q4+r4)
  (b0:0≤r0∧r0<2251799813685248) (b1:0≤r1∧r1<2251799813685248) (b2:0≤r2∧r2<2251799813685248) (b3:0≤r3∧r3<2251799813685248) (b4:0≤r4∧r4<2251799813685248) :
  57896044618658097711785492504343953926634992332820282019728792003956564819968*q4≤a0+a1*2251799813685248+a2*5070602400912917605986812821504+a3*11417981541647679048466287755595961091061972992+a4*25711008708143844408671393477458601640355247900524685364822016+19∧a0+a1*2251799813685248+a2*5070602400912917605986812821504+a3*11417981541647679048466287755595961091061972992+a4*25711008708143844408671393477458601640355247900524685364822016+19<57896044618658097711785492504343953926634992332820282019728792003956564819968*q4+57896044618658097711785492504343953926634992332820282019728792003956564819968:=by
 omega
theorem ztC {a0 a1 a2 a3 a4 q z0 z1 z2 z3 z4 m0 m1 m2 m3 m4:Int} (e0:a0+19*q=2251799813685248*z0+m0) (e1:a1+z0=2251799813685248*z1+m1) (e2:a2+z1=2251799813685248*z2+m2) (e3:a3+z2=2251799813685248*z3+m3) (e4:a4+z3=2251799813685248*z4+m4)
  (b0:0≤m0∧m0<2251799813685248) (b1:0≤m1∧m1<2251799813685248) (b2:0≤m2∧m2<2251799813685248) (b3:0≤m3∧m3<2251799813685248) (b4:0≤m4∧m4<2251799813685248) (hq:q=0 ∨ q=1)
  (h1:57896044618658097711785492504343953926634992332820282019728792003956564819968*q≤a0+a1*2251799813685248+a2*5070602400912917605986812821504+a3*11417981541647679048466287755595961091061972992+a4*25711008708143844408671393477458601640355247900524685364822016+19) (h2:a0+a1*2251799813685248+a2*5070602400912917605986812821504+a3*11417981541647679048466287755595961091061972992+a4*25711008708143844408671393477458601640355247900524685364822016+19<57896044618658097711785492504343953926634992332820282019728792003956564819968*q+57896044618658097711785492504343953926634992332820282019728792003956564819968) (h3:0≤a0+a1*2251799813685248+a2*5070602400912917605986812821504+a3*11417981541647679048466287755595961091061972992+a4*25711008708143844408671393477458601640355247900524685364822016∧a0+a1*2251799813685248+a2*5070602400912917605986812821504+a3*11417981541647679048466287755595961091061972992+a4*25711008708143844408671393477458601640355247900524685364822016<57896044618659743216342813710386108895817549683325264755594425583819913428992) :
  m0+m1*2251799813685248+m2*5070602400912917605986812821504+m3*11417981541647679048466287755595961091061972992+m4*25711008708143844408671393477458601640355247900524685364822016=(a0+a1*2251799813685248+a2*5070602400912917605986812821504+a3*11417981541647679048466287755595961091061972992+a4*25711008708143844408671393477458601640355247900524685364822016) % pP:=by
 have hz:a0+a1*2251799813685248+a2*5070602400912917605986812821504+a3*11417981541647679048466287755595961091061972992+a4*25711008708143844408671393477458601640355247900524685364822016+19*q=m0+m1*2251799813685248+m2*5070602400912917605986812821504+m3*11417981541647679048466287755595961091061972992+m4*25711008708143844408671393477458601640355247900524685364822016+57896044618658097711785492504343953926634992332820282019728792003956564819968*z4:=by omega
 have hm:0≤m0+m1*2251799813685248+m2*5070602400912917605986812821504+m3*11417981541647679048466287755595961091061972992+m4*25711008708143844408671393477458601640355247900524685364822016∧m0+m1*2251799813685248+m2*5070602400912917605986812821504+m3*11417981541647679048466287755595961091061972992+m4*25711008708143844408671393477458601640355247900524685364822016<57896044618658097711785492504343953926634992332820282019728792003956564819968:=by omega
 clear e0 e1 e2 e3 e4 b0 b1 b2 b3 b4
 generalize m0+m1*2251799813685248+m2*5070602400912917605986812821504+m3*11417981541647679048466287755595961091061972992+m4*25711008708143844408671393477458601640355247900524685364822016=M at *
 generalize a0+a1*2251799813685248+a2*5070602400912917605986812821504+a3*11417981541647679048466287755595961091061972992+a4*25711008708143844408671393477458601640355247900524685364822016=V at *
 rcases hq with rfl | rfl
 ·have:z4=0:=by omega
  rw [Int.emod_eq_of_lt (by omega) (by unfold pP;omega)]
  omega
 ·have:z4=1:=by omega
  have e:V=M+1*pP:=by unfold pP;omega
  rw [e,Int.add_mul_emod_self_right,Int.emod_eq_of_lt hm.1 (by unfold pP;omega)]
theorem em (x:Int):x=2251799813685248*(x / 2251799813685248)+x % 2251799813685248∧0≤x % 2251799813685248∧x % 2251799813685248<2251799813685248:=by omega
theorem zoq {y0 y1 y2 y3 y4:Int} (c0:0≤y0∧y0<2251799813685248) (c1:0≤y1∧y1<2251799813685248) (c2:0≤y2∧y2<2251799813685248) (c3:0≤y3∧y3<2251799813685248) (c4:0≤y4∧y4<2251799813685248) :
  val4 (lf [(y1*2251799813685248+y0) % 18446744073709551616,(y2*274877906944+y1 / 2 ^ 13) % 18446744073709551616,(y3*33554432+y2 / 2 ^ 26) % 18446744073709551616,(y4*4096+y3 / 2 ^ 39) % 18446744073709551616])=y0+y1*2251799813685248+y2*5070602400912917605986812821504+y3*11417981541647679048466287755595961091061972992+y4*25711008708143844408671393477458601640355247900524685364822016:=by
 have w0:(y1*2251799813685248+y0) % 18446744073709551616=y1 % 8192*2251799813685248+y0:=by omega
 have w1:(y2*274877906944+y1 / 2 ^ 13) % 18446744073709551616=y2 % 67108864*274877906944+y1 / 2 ^ 13:=by omega
 have w2:(y3*33554432+y2 / 2 ^ 26) % 18446744073709551616=y3 % 549755813888*33554432+y2 / 2 ^ 26:=by omega
 have w3:(y4*4096+y3 / 2 ^ 39) % 18446744073709551616=y4*4096+y3 / 2 ^ 39:=by omega
 rw [w0,w1,w2,w3]
 simp only [val4,lf]
 clear w0 w1 w2 w3
 obtain ⟨h1,l1,e1,d1⟩:∃ h l,y1 / 2 ^ 13=h∧y1 % 8192=l:=⟨_,_,rfl,rfl⟩
 obtain ⟨h2,l2,e2,d2⟩:∃ h l,y2 / 2 ^ 26=h∧y2 % 67108864=l:=⟨_,_,rfl,rfl⟩
 obtain ⟨h3,l3,e3,d3⟩:∃ h l,y3 / 2 ^ 39=h∧y3 % 549755813888=l:=⟨_,_,rfl,rfl⟩
 have f1:y1=8192*h1+l1:=by omega
 have f2:y2=67108864*h2+l2:=by omega
 have f3:y3=549755813888*h3+l3:=by omega
 rw [e1,e2,e3,d1,d2,d3,f1,f2,f3]
 clear e1 e2 e3 d1 d2 d3 f1 f2 f3 c0 c1 c2 c3 c4
 grind
theorem zvh {l:Nat→Int} (h0:0≤l 0∧l 0<2251799813685248+32) (h1:0≤l 1∧l 1<2251799813685248+32) (h2:0≤l 2∧l 2<2251799813685248+32) (h3:0≤l 3∧l 3<2251799813685248+32) (h4:0≤l 4∧l 4<2251799813685248+32) :
  inU4 (byW l)=true∧val4 (byW l)=(l 0+l 1*2251799813685248+l 2*5070602400912917605986812821504+l 3*11417981541647679048466287755595961091061972992+l 4*25711008708143844408671393477458601640355247900524685364822016) % pP:=by
 unfold byW
 generalize l 0=a0 at *;generalize l 1=a1 at *;generalize l 2=a2 at *;generalize l 3=a3 at *;generalize l 4=a4 at *
 dsimp only
 simp only [show ∀ x,ishr .u64 x 51=x / 2251799813685248 from fun x=>ishr8 x 51 (by omega),show ∀ x,ishr .u64 x 13=x / 2 ^ 13 from fun x=>ishr8 x 13 (by omega),show ∀ x,ishr .u64 x 26=x / 2 ^ 26 from fun x=>ishr8 x 26 (by omega),show ∀ x,ishr .u64 x 39=x / 2 ^ 39 from fun x=>ishr8 x 39 (by omega),wr64]
 have w:∀ x:Int,(0≤x∧x<18446744073709551616)→x % 18446744073709551616=x:=fun x h=>by omega
 have hV:0≤a0+a1*2251799813685248+a2*5070602400912917605986812821504+a3*11417981541647679048466287755595961091061972992+a4*25711008708143844408671393477458601640355247900524685364822016∧a0+a1*2251799813685248+a2*5070602400912917605986812821504+a3*11417981541647679048466287755595961091061972992+a4*25711008708143844408671393477458601640355247900524685364822016<57896044618659743216342813710386108895817549683325264755594425583819913428992:=by omega
 rw [w (a0+19) (by omega)]
 obtain ⟨e0,s0⟩:=em (a0+19)
 generalize (a0+19) / 2251799813685248=q0 at *
 have bq0:0≤q0∧q0≤1:=by omega
 rw [w (a1+q0) (by omega)]
 obtain ⟨e1,s1⟩:=em (a1+q0)
 generalize (a1+q0) / 2251799813685248=q1 at *
 have bq1:0≤q1∧q1≤1:=by clear e0 s0;omega
 rw [w (a2+q1) (by omega)]
 obtain ⟨e2,s2⟩:=em (a2+q1)
 generalize (a2+q1) / 2251799813685248=q2 at *
 have bq2:0≤q2∧q2≤1:=by clear e0 s0 e1 s1;omega
 rw [w (a3+q2) (by omega)]
 obtain ⟨e3,s3⟩:=em (a3+q2)
 generalize (a3+q2) / 2251799813685248=q3 at *
 have bq3:0≤q3∧q3≤1:=by clear e0 s0 e1 s1 e2 s2;omega
 rw [w (a4+q3) (by omega)]
 obtain ⟨e4,s4⟩:=em (a4+q3)
 generalize (a4+q3) / 2251799813685248=q4 at *
 have bq4:0≤q4∧q4≤1:=by clear e0 s0 e1 s1 e2 s2 e3 s3;omega
 have hq:q4=0 ∨ q4=1:=by clear e0 s0 e1 s1 e2 s2 e3 s3 e4 s4;omega
 obtain ⟨k1,k2⟩:=ztj e0 e1 e2 e3 e4 s0 s1 s2 s3 s4
 clear e0 s0 e1 s1 e2 s2 e3 s3 e4 s4 bq0 bq1 bq2 bq3
 rw [w (19*q4) (by clear k1 k2;omega),w (a0+19*q4) (by clear k1 k2;omega)]
 obtain ⟨e0,s0⟩:=em (a0+19*q4)
 obtain ⟨z0,f0⟩:∃ z,(a0+19*q4) / 2251799813685248=z:=⟨_,rfl⟩
 rw [f0] at e0 ⊢
 have bz0:0≤z0∧z0≤1:=by clear k1 k2 hV;omega
 rw [w (a1+z0) (by clear k1 k2 e0;omega)]
 obtain ⟨e1,s1⟩:=em (a1+z0)
 obtain ⟨z1,f1⟩:∃ z,(a1+z0) / 2251799813685248=z:=⟨_,rfl⟩
 rw [f1] at e1 ⊢
 have bz1:0≤z1∧z1≤1:=by clear k1 k2 hV e0 f0 s0;omega
 rw [w (a2+z1) (by clear k1 k2 e0 e1 f0 f1;omega)]
 obtain ⟨e2,s2⟩:=em (a2+z1)
 obtain ⟨z2,f2⟩:∃ z,(a2+z1) / 2251799813685248=z:=⟨_,rfl⟩
 rw [f2] at e2 ⊢
 have bz2:0≤z2∧z2≤1:=by clear k1 k2 hV e0 f0 s0 e1 f1 s1;omega
 rw [w (a3+z2) (by clear k1 k2 e0 e1 e2 f0 f1 f2;omega)]
 obtain ⟨e3,s3⟩:=em (a3+z2)
 obtain ⟨z3,f3⟩:∃ z,(a3+z2) / 2251799813685248=z:=⟨_,rfl⟩
 rw [f3] at e3 ⊢
 have bz3:0≤z3∧z3≤1:=by clear k1 k2 hV e0 f0 s0 e1 f1 s1 e2 f2 s2;omega
 rw [w (a4+z3) (by clear k1 k2 e0 e1 e2 e3 f0 f1 f2 f3;omega)]
 obtain ⟨e4,s4⟩:=em (a4+z3)
 have val:=ztC e0 e1 e2 e3 e4 s0 s1 s2 s3 s4 hq k1 k2 hV
 rw [zbc (x:=a0+19*q4) (by clear k1 k2 e0 e1 e2 e3 e4 val;omega),zbc (x:=a1+z0) (by clear k1 k2 e0 e1 e2 e3 e4 val;omega),zbc (x:=a2+z1) (by clear k1 k2 e0 e1 e2 e3 e4 val;omega),zbc (x:=a3+z2) (by clear k1 k2 e0 e1 e2 e3 e4 val;omega),zbc (x:=a4+z3) (by clear k1 k2 e0 e1 e2 e3 e4 val;omega)]
 rw [← val]
 clear val k1 k2 e0 e1 e2 e3 e4 f0 f1 f2 f3
 generalize (a0+19*q4) % 2251799813685248=y0 at *
 generalize (a1+z0) % 2251799813685248=y1 at *
 generalize (a2+z1) % 2251799813685248=y2 at *
 generalize (a3+z2) % 2251799813685248=y3 at *
 generalize (a4+z3) % 2251799813685248=y4 at *
 clear bz0 bz1 bz2 bz3 hq bq4 hV h0 h1 h2 h3 h4 w
 rw [orS51 ⟨s1.1,by omega⟩ s0,orS38 ⟨s2.1,by omega⟩ ⟨by omega,by omega⟩,orS25 ⟨s3.1,by omega⟩ ⟨by omega,by omega⟩,orS12 ⟨s4.1,by omega⟩ ⟨by omega,by omega⟩]
 exact ⟨by simp only [inU4,lf,zbJ,Bool.and_self],zoq s0 s1 s2 s3 s4⟩
theorem zuM {l:List Int} (h:bd5 l=true):∀ i,i<5→0≤lf (carL (lf (carL (lf l)))) i∧lf (carL (lf (carL (lf l)))) i<2251799813685248+32:=by
 obtain ⟨h0,h1,h2,h3,h4⟩:=bd5_t.1 h
 simp only [carL,lf]
 generalize lf l 0=a0 at *;generalize lf l 1=a1 at *;generalize lf l 2=a2 at *;generalize lf l 3=a3 at *;generalize lf l 4=a4 at *
 intro i hi
 match i,hi with
 | 0,_=>simp only [lf];omega
 | 1,_=>simp only [lf];omega
 | 2,_=>simp only [lf];omega
 | 3,_=>simp only [lf];omega
 | 4,_=>simp only [lf];omega
theorem znt {l:List Int} (h:bd5 l=true):bytesRaw (lf l)=byL 32 (fm l):=by
 have hb:=zuM h
 obtain ⟨h1,h2⟩:=zvh (hb 0 (by omega)) (hb 1 (by omega)) (hb 2 (by omega)) (hb 3 (by omega)) (hb 4 (by omega))
 unfold bytesRaw
 rw [zkR h1,h2]
 refine congrArg (byL 32) ?_
 have e1:=zfj (lf (carL (lf l)))
 have e2:=zfj (lf l)
 unfold fm
 have e3:fv (carL (lf (carL (lf l))))=fv l - (lf l 4 / 2251799813685248)*pP - lf (carL (lf l)) 4 / 2251799813685248*pP:=by
  rw [e1]
  have:lf (carL (lf l)) 0+lf (carL (lf l)) 1*2251799813685248+lf (carL (lf l)) 2*5070602400912917605986812821504+lf (carL (lf l)) 3*11417981541647679048466287755595961091061972992+lf (carL (lf l)) 4*25711008708143844408671393477458601640355247900524685364822016=fv (carL (lf l)):=rfl
  rw [this,e2];rfl
 have e4:fv (carL (lf (carL (lf l)))) % pP=fv l % pP:=by rw [e3,Int.sub_mul_emod_self_right,Int.sub_mul_emod_self_right]
 exact e4
end Go.AM
namespace Go.AM
open Go
def l10 (a:Nat→Int):List Int:=[a 0,a 1,a 2,a 3,a 4,a 5,a 6,a 7,a 8,a 9]
def q10 (l:List Int):List Int:=l10 (lf l)
def gwB (x:Int):Bool:=decide (-4611686018427387904≤x)&&decide (x≤4611686018427387904)
def gw10 (a:Nat→Int):Bool:=gwB (a 0)&&(gwB (a 1)&&(gwB (a 2)&&(gwB (a 3)&&(gwB (a 4)&&(gwB (a 5)&&(gwB (a 6)&&(gwB (a 7)&&(gwB (a 8)&&(gwB (a 9))))))))))
theorem gwB_t {x:Int}:gwB x=true ↔ gw x:=by simp [gwB,gw]
theorem zdz {a:Nat→Int}:gw10 a=true ↔ ∀ i,i<10→gw (a i):=by
 simp only [gw10,Bool.and_eq_true,gwB_t]
 constructor
 ·rintro ⟨h0,h1,h2,h3,h4,h5,h6,h7,h8,h9⟩
  exact ten h0 h1 h2 h3 h4 h5 h6 h7 h8 h9
 ·intro h
  exact ⟨h 0 (by omega),h 1 (by omega),h 2 (by omega),h 3 (by omega),h 4 (by omega),h 5 (by omega),h 6 (by omega),h 7 (by omega),h 8 (by omega),h 9 (by omega)⟩
def addRaw (a b:Nat→Int):List Int:=[wi (a 0+b 0),wi (a 1+b 1),wi (a 2+b 2),wi (a 3+b 3),wi (a 4+b 4),wi (a 5+b 5),wi (a 6+b 6),wi (a 7+b 7),wi (a 8+b 8),wi (a 9+b 9)]
def subRaw (a b:Nat→Int):List Int:=[wi (a 0 - b 0),wi (a 1 - b 1),wi (a 2 - b 2),wi (a 3 - b 3),wi (a 4 - b 4),wi (a 5 - b 5),wi (a 6 - b 6),wi (a 7 - b 7),wi (a 8 - b 8),wi (a 9 - b 9)]
def prRaw (a b:Nat→Int):List Int :=
 [wi (wi (wi (wi (wi (wi (wi (wi (wi (wi (a 0*b 0)+wi (wi (2*a 1)*wi (19*b 9)))+wi (a 2*wi (19*b 8)))+wi (wi (2*a 3)*wi (19*b 7)))+wi (a 4*wi (19*b 6)))+wi (wi (2*a 5)*wi (19*b 5)))+wi (a 6*wi (19*b 4)))+wi (wi (2*a 7)*wi (19*b 3)))+wi (a 8*wi (19*b 2)))+wi (wi (2*a 9)*wi (19*b 1))),
  wi (wi (wi (wi (wi (wi (wi (wi (wi (wi (a 0*b 1)+wi (a 1*b 0))+wi (a 2*wi (19*b 9)))+wi (a 3*wi (19*b 8)))+wi (a 4*wi (19*b 7)))+wi (a 5*wi (19*b 6)))+wi (a 6*wi (19*b 5)))+wi (a 7*wi (19*b 4)))+wi (a 8*wi (19*b 3)))+wi (a 9*wi (19*b 2))),
  wi (wi (wi (wi (wi (wi (wi (wi (wi (wi (a 0*b 2)+wi (wi (2*a 1)*b 1))+wi (a 2*b 0))+wi (wi (2*a 3)*wi (19*b 9)))+wi (a 4*wi (19*b 8)))+wi (wi (2*a 5)*wi (19*b 7)))+wi (a 6*wi (19*b 6)))+wi (wi (2*a 7)*wi (19*b 5)))+wi (a 8*wi (19*b 4)))+wi (wi (2*a 9)*wi (19*b 3))),
  wi (wi (wi (wi (wi (wi (wi (wi (wi (wi (a 0*b 3)+wi (a 1*b 2))+wi (a 2*b 1))+wi (a 3*b 0))+wi (a 4*wi (19*b 9)))+wi (a 5*wi (19*b 8)))+wi (a 6*wi (19*b 7)))+wi (a 7*wi (19*b 6)))+wi (a 8*wi (19*b 5)))+wi (a 9*wi (19*b 4))),
  wi (wi (wi (wi (wi (wi (wi (wi (wi (wi (a 0*b 4)+wi (wi (2*a 1)*b 3))+wi (a 2*b 2))+wi (wi (2*a 3)*b 1))+wi (a 4*b 0))+wi (wi (2*a 5)*wi (19*b 9)))+wi (a 6*wi (19*b 8)))+wi (wi (2*a 7)*wi (19*b 7)))+wi (a 8*wi (19*b 6)))+wi (wi (2*a 9)*wi (19*b 5))),
  wi (wi (wi (wi (wi (wi (wi (wi (wi (wi (a 0*b 5)+wi (a 1*b 4))+wi (a 2*b 3))+wi (a 3*b 2))+wi (a 4*b 1))+wi (a 5*b 0))+wi (a 6*wi (19*b 9)))+wi (a 7*wi (19*b 8)))+wi (a 8*wi (19*b 7)))+wi (a 9*wi (19*b 6))),
  wi (wi (wi (wi (wi (wi (wi (wi (wi (wi (a 0*b 6)+wi (wi (2*a 1)*b 5))+wi (a 2*b 4))+wi (wi (2*a 3)*b 3))+wi (a 4*b 2))+wi (wi (2*a 5)*b 1))+wi (a 6*b 0))+wi (wi (2*a 7)*wi (19*b 9)))+wi (a 8*wi (19*b 8)))+wi (wi (2*a 9)*wi (19*b 7))),
  wi (wi (wi (wi (wi (wi (wi (wi (wi (wi (a 0*b 7)+wi (a 1*b 6))+wi (a 2*b 5))+wi (a 3*b 4))+wi (a 4*b 3))+wi (a 5*b 2))+wi (a 6*b 1))+wi (a 7*b 0))+wi (a 8*wi (19*b 9)))+wi (a 9*wi (19*b 8))),
  wi (wi (wi (wi (wi (wi (wi (wi (wi (wi (a 0*b 8)+wi (wi (2*a 1)*b 7))+wi (a 2*b 6))+wi (wi (2*a 3)*b 5))+wi (a 4*b 4))+wi (wi (2*a 5)*b 3))+wi (a 6*b 2))+wi (wi (2*a 7)*b 1))+wi (a 8*b 0))+wi (wi (2*a 9)*wi (19*b 9))),
  wi (wi (wi (wi (wi (wi (wi (wi (wi (wi (a 0*b 9)+wi (a 1*b 8))+wi (a 2*b 7))+wi (a 3*b 6))+wi (a 4*b 5))+wi (a 5*b 4))+wi (a 6*b 3))+wi (a 7*b 2))+wi (a 8*b 1))+wi (a 9*b 0))]
theorem sum10 {t0 t1 t2 t3 t4 t5 t6 t7 t8 t9:Int} (h0:-171136785840078848≤t0∧t0≤171136785840078848) (h1:-171136785840078848≤t1∧t1≤171136785840078848) (h2:-171136785840078848≤t2∧t2≤171136785840078848) (h3:-171136785840078848≤t3∧t3≤171136785840078848) (h4:-171136785840078848≤t4∧t4≤171136785840078848) (h5:-171136785840078848≤t5∧t5≤171136785840078848) (h6:-171136785840078848≤t6∧t6≤171136785840078848) (h7:-171136785840078848≤t7∧t7≤171136785840078848) (h8:-171136785840078848≤t8∧t8≤171136785840078848) (h9:-171136785840078848≤t9∧t9≤171136785840078848) :
  wi (wi (wi (wi (wi (wi (wi (wi (wi (t0+t1)+t2)+t3)+t4)+t5)+t6)+t7)+t8)+t9)=t0+t1+t2+t3+t4+t5+t6+t7+t8+t9:=by
 rw [wi_id (x:=t0+t1) (by omega),wi_id (x:=t0+t1+t2) (by omega),wi_id (x:=t0+t1+t2+t3) (by omega),wi_id (x:=t0+t1+t2+t3+t4) (by omega),wi_id (x:=t0+t1+t2+t3+t4+t5) (by omega),wi_id (x:=t0+t1+t2+t3+t4+t5+t6) (by omega),
  wi_id (x:=t0+t1+t2+t3+t4+t5+t6+t7) (by omega),wi_id (x:=t0+t1+t2+t3+t4+t5+t6+t7+t8) (by omega),wi_id (x:=t0+t1+t2+t3+t4+t5+t6+t7+t8+t9) (by omega)]
abbrev Gd (x:Int):Prop:=-262144≤x∧x≤67108864
theorem mt1 {a b:Int} (ha:Gd a) (hb:Gd b):wi (a*b)=1*(a*b):=by
 have:=zaf ha hb
 rw [wi_id (by omega)];omega
theorem mt2 {a b:Int} (ha:Gd a) (hb:Gd b):wi (wi (2*a)*b)=2*(a*b):=by
 have:=zaf ha hb
 have e:2*a*b=2*(a*b):=Int.mul_assoc _ _ _
 rw [wi_id (x:=2*a) (by omega),e,wi_id (by omega)]
theorem mt19 {a b:Int} (ha:Gd a) (hb:Gd b):wi (a*wi (19*b))=19*(a*b):=by
 have:=zaf ha hb
 have e:a*(19*b)=19*(a*b):=by grind
 rw [wi_id (x:=19*b) (by omega),e,wi_id (by omega)]
theorem mt38 {a b:Int} (ha:Gd a) (hb:Gd b):wi (wi (2*a)*wi (19*b))=38*(a*b):=by
 have:=zaf ha hb
 have e:2*a*(19*b)=38*(a*b):=by grind
 rw [wi_id (x:=2*a) (by omega),wi_id (x:=19*b) (by omega),e,wi_id (by omega)]
theorem znp {a b:Nat→Int} (ha:gd10 (l10 a)=true) (hb:gd10 (l10 b)=true):prRaw a b=prG (l10 a) (l10 b):=by
 obtain ⟨a0,a1,a2,a3,a4,a5,a6,a7,a8,a9⟩:=zbN.1 ha
 obtain ⟨b0,b1,b2,b3,b4,b5,b6,b7,b8,b9⟩:=zbN.1 hb
 have B:∀ (c x y:Int),0≤c∧c≤38→Gd x→Gd y→-171136785840078848≤c*(x*y)∧c*(x*y)≤171136785840078848:=fun c x y hc hx hy=>by
  have h:=zaf hx hy
  have h1:c*(x*y)≤c*4503599627370496:=Int.mul_le_mul_of_nonneg_left h.2 hc.1
  have h2:c*-4503599627370496≤c*(x*y):=Int.mul_le_mul_of_nonneg_left h.1 hc.1
  omega
 unfold prRaw prG
 have e0:wi (wi (wi (wi (wi (wi (wi (wi (wi (wi (a 0*b 0)+wi (wi (2*a 1)*wi (19*b 9)))+wi (a 2*wi (19*b 8)))+wi (wi (2*a 3)*wi (19*b 7)))+wi (a 4*wi (19*b 6)))+wi (wi (2*a 5)*wi (19*b 5)))+wi (a 6*wi (19*b 4)))+wi (wi (2*a 7)*wi (19*b 3)))+wi (a 8*wi (19*b 2)))+wi (wi (2*a 9)*wi (19*b 1)))=1*(a 0*b 0)+38*(a 1*b 9)+19*(a 2*b 8)+38*(a 3*b 7)+19*(a 4*b 6)+38*(a 5*b 5)+19*(a 6*b 4)+38*(a 7*b 3)+19*(a 8*b 2)+38*(a 9*b 1):=by
  rw [mt1 (a:=a 0) (b:=b 0) a0 b0,mt38 (a:=a 1) (b:=b 9) a1 b9,mt19 (a:=a 2) (b:=b 8) a2 b8,mt38 (a:=a 3) (b:=b 7) a3 b7,mt19 (a:=a 4) (b:=b 6) a4 b6,mt38 (a:=a 5) (b:=b 5) a5 b5,mt19 (a:=a 6) (b:=b 4) a6 b4,mt38 (a:=a 7) (b:=b 3) a7 b3,mt19 (a:=a 8) (b:=b 2) a8 b2,mt38 (a:=a 9) (b:=b 1) a9 b1]
  exact sum10 (B 1 (a 0) (b 0) (by decide) a0 b0) (B 38 (a 1) (b 9) (by decide) a1 b9) (B 19 (a 2) (b 8) (by decide) a2 b8) (B 38 (a 3) (b 7) (by decide) a3 b7) (B 19 (a 4) (b 6) (by decide) a4 b6) (B 38 (a 5) (b 5) (by decide) a5 b5) (B 19 (a 6) (b 4) (by decide) a6 b4) (B 38 (a 7) (b 3) (by decide) a7 b3) (B 19 (a 8) (b 2) (by decide) a8 b2) (B 38 (a 9) (b 1) (by decide) a9 b1)
 have e1:wi (wi (wi (wi (wi (wi (wi (wi (wi (wi (a 0*b 1)+wi (a 1*b 0))+wi (a 2*wi (19*b 9)))+wi (a 3*wi (19*b 8)))+wi (a 4*wi (19*b 7)))+wi (a 5*wi (19*b 6)))+wi (a 6*wi (19*b 5)))+wi (a 7*wi (19*b 4)))+wi (a 8*wi (19*b 3)))+wi (a 9*wi (19*b 2)))=1*(a 0*b 1)+1*(a 1*b 0)+19*(a 2*b 9)+19*(a 3*b 8)+19*(a 4*b 7)+19*(a 5*b 6)+19*(a 6*b 5)+19*(a 7*b 4)+19*(a 8*b 3)+19*(a 9*b 2):=by
  rw [mt1 (a:=a 0) (b:=b 1) a0 b1,mt1 (a:=a 1) (b:=b 0) a1 b0,mt19 (a:=a 2) (b:=b 9) a2 b9,mt19 (a:=a 3) (b:=b 8) a3 b8,mt19 (a:=a 4) (b:=b 7) a4 b7,mt19 (a:=a 5) (b:=b 6) a5 b6,mt19 (a:=a 6) (b:=b 5) a6 b5,mt19 (a:=a 7) (b:=b 4) a7 b4,mt19 (a:=a 8) (b:=b 3) a8 b3,mt19 (a:=a 9) (b:=b 2) a9 b2]
  exact sum10 (B 1 (a 0) (b 1) (by decide) a0 b1) (B 1 (a 1) (b 0) (by decide) a1 b0) (B 19 (a 2) (b 9) (by decide) a2 b9) (B 19 (a 3) (b 8) (by decide) a3 b8) (B 19 (a 4) (b 7) (by decide) a4 b7) (B 19 (a 5) (b 6) (by decide) a5 b6) (B 19 (a 6) (b 5) (by decide) a6 b5) (B 19 (a 7) (b 4) (by decide) a7 b4) (B 19 (a 8) (b 3) (by decide) a8 b3) (B 19 (a 9) (b 2) (by decide) a9 b2)
 have e2:wi (wi (wi (wi (wi (wi (wi (wi (wi (wi (a 0*b 2)+wi (wi (2*a 1)*b 1))+wi (a 2*b 0))+wi (wi (2*a 3)*wi (19*b 9)))+wi (a 4*wi (19*b 8)))+wi (wi (2*a 5)*wi (19*b 7)))+wi (a 6*wi (19*b 6)))+wi (wi (2*a 7)*wi (19*b 5)))+wi (a 8*wi (19*b 4)))+wi (wi (2*a 9)*wi (19*b 3)))=1*(a 0*b 2)+2*(a 1*b 1)+1*(a 2*b 0)+38*(a 3*b 9)+19*(a 4*b 8)+38*(a 5*b 7)+19*(a 6*b 6)+38*(a 7*b 5)+19*(a 8*b 4)+38*(a 9*b 3):=by
  rw [mt1 (a:=a 0) (b:=b 2) a0 b2,mt2 (a:=a 1) (b:=b 1) a1 b1,mt1 (a:=a 2) (b:=b 0) a2 b0,mt38 (a:=a 3) (b:=b 9) a3 b9,mt19 (a:=a 4) (b:=b 8) a4 b8,mt38 (a:=a 5) (b:=b 7) a5 b7,mt19 (a:=a 6) (b:=b 6) a6 b6,mt38 (a:=a 7) (b:=b 5) a7 b5,mt19 (a:=a 8) (b:=b 4) a8 b4,mt38 (a:=a 9) (b:=b 3) a9 b3]
  exact sum10 (B 1 (a 0) (b 2) (by decide) a0 b2) (B 2 (a 1) (b 1) (by decide) a1 b1) (B 1 (a 2) (b 0) (by decide) a2 b0) (B 38 (a 3) (b 9) (by decide) a3 b9) (B 19 (a 4) (b 8) (by decide) a4 b8) (B 38 (a 5) (b 7) (by decide) a5 b7) (B 19 (a 6) (b 6) (by decide) a6 b6) (B 38 (a 7) (b 5) (by decide) a7 b5) (B 19 (a 8) (b 4) (by decide) a8 b4) (B 38 (a 9) (b 3) (by decide) a9 b3)
 have e3:wi (wi (wi (wi (wi (wi (wi (wi (wi (wi (a 0*b 3)+wi (a 1*b 2))+wi (a 2*b 1))+wi (a 3*b 0))+wi (a 4*wi (19*b 9)))+wi (a 5*wi (19*b 8)))+wi (a 6*wi (19*b 7)))+wi (a 7*wi (19*b 6)))+wi (a 8*wi (19*b 5)))+wi (a 9*wi (19*b 4)))=1*(a 0*b 3)+1*(a 1*b 2)+1*(a 2*b 1)+1*(a 3*b 0)+19*(a 4*b 9)+19*(a 5*b 8)+19*(a 6*b 7)+19*(a 7*b 6)+19*(a 8*b 5)+19*(a 9*b 4):=by
  rw [mt1 (a:=a 0) (b:=b 3) a0 b3,mt1 (a:=a 1) (b:=b 2) a1 b2,mt1 (a:=a 2) (b:=b 1) a2 b1,mt1 (a:=a 3) (b:=b 0) a3 b0,mt19 (a:=a 4) (b:=b 9) a4 b9,mt19 (a:=a 5) (b:=b 8) a5 b8,mt19 (a:=a 6) (b:=b 7) a6 b7,mt19 (a:=a 7) (b:=b 6) a7 b6,mt19 (a:=a 8) (b:=b 5) a8 b5,mt19 (a:=a 9) (b:=b 4) a9 b4]
  exact sum10 (B 1 (a 0) (b 3) (by decide) a0 b3) (B 1 (a 1) (b 2) (by decide) a1 b2) (B 1 (a 2) (b 1) (by decide) a2 b1) (B 1 (a 3) (b 0) (by decide) a3 b0) (B 19 (a 4) (b 9) (by decide) a4 b9) (B 19 (a 5) (b 8) (by decide) a5 b8) (B 19 (a 6) (b 7) (by decide) a6 b7) (B 19 (a 7) (b 6) (by decide) a7 b6) (B 19 (a 8) (b 5) (by decide) a8 b5) (B 19 (a 9) (b 4) (by decide) a9 b4)
 have e4:wi (wi (wi (wi (wi (wi (wi (wi (wi (wi (a 0*b 4)+wi (wi (2*a 1)*b 3))+wi (a 2*b 2))+wi (wi (2*a 3)*b 1))+wi (a 4*b 0))+wi (wi (2*a 5)*wi (19*b 9)))+wi (a 6*wi (19*b 8)))+wi (wi (2*a 7)*wi (19*b 7)))+wi (a 8*wi (19*b 6)))+wi (wi (2*a 9)*wi (19*b 5)))=1*(a 0*b 4)+2*(a 1*b 3)+1*(a 2*b 2)+2*(a 3*b 1)+1*(a 4*b 0)+38*(a 5*b 9)+19*(a 6*b 8)+38*(a 7*b 7)+19*(a 8*b 6)+38*(a 9*b 5):=by
  rw [mt1 (a:=a 0) (b:=b 4) a0 b4,mt2 (a:=a 1) (b:=b 3) a1 b3,mt1 (a:=a 2) (b:=b 2) a2 b2,mt2 (a:=a 3) (b:=b 1) a3 b1,mt1 (a:=a 4) (b:=b 0) a4 b0,mt38 (a:=a 5) (b:=b 9) a5 b9,mt19 (a:=a 6) (b:=b 8) a6 b8,mt38 (a:=a 7) (b:=b 7) a7 b7,mt19 (a:=a 8) (b:=b 6) a8 b6,mt38 (a:=a 9) (b:=b 5) a9 b5]
  exact sum10 (B 1 (a 0) (b 4) (by decide) a0 b4) (B 2 (a 1) (b 3) (by decide) a1 b3) (B 1 (a 2) (b 2) (by decide) a2 b2) (B 2 (a 3) (b 1) (by decide) a3 b1) (B 1 (a 4) (b 0) (by decide) a4 b0) (B 38 (a 5) (b 9) (by decide) a5 b9) (B 19 (a 6) (b 8) (by decide) a6 b8) (B 38 (a 7) (b 7) (by decide) a7 b7) (B 19 (a 8) (b 6) (by decide) a8 b6) (B 38 (a 9) (b 5) (by decide) a9 b5)
 have e5:wi (wi (wi (wi (wi (wi (wi (wi (wi (wi (a 0*b 5)+wi (a 1*b 4))+wi (a 2*b 3))+wi (a 3*b 2))+wi (a 4*b 1))+wi (a 5*b 0))+wi (a 6*wi (19*b 9)))+wi (a 7*wi (19*b 8)))+wi (a 8*wi (19*b 7)))+wi (a 9*wi (19*b 6)))=1*(a 0*b 5)+1*(a 1*b 4)+1*(a 2*b 3)+1*(a 3*b 2)+1*(a 4*b 1)+1*(a 5*b 0)+19*(a 6*b 9)+19*(a 7*b 8)+19*(a 8*b 7)+19*(a 9*b 6):=by
  rw [mt1 (a:=a 0) (b:=b 5) a0 b5,mt1 (a:=a 1) (b:=b 4) a1 b4,mt1 (a:=a 2) (b:=b 3) a2 b3,mt1 (a:=a 3) (b:=b 2) a3 b2,mt1 (a:=a 4) (b:=b 1) a4 b1,mt1 (a:=a 5) (b:=b 0) a5 b0,mt19 (a:=a 6) (b:=b 9) a6 b9,mt19 (a:=a 7) (b:=b 8) a7 b8,mt19 (a:=a 8) (b:=b 7) a8 b7,mt19 (a:=a 9) (b:=b 6) a9 b6]
  exact sum10 (B 1 (a 0) (b 5) (by decide) a0 b5) (B 1 (a 1) (b 4) (by decide) a1 b4) (B 1 (a 2) (b 3) (by decide) a2 b3) (B 1 (a 3) (b 2) (by decide) a3 b2) (B 1 (a 4) (b 1) (by decide) a4 b1) (B 1 (a 5) (b 0) (by decide) a5 b0) (B 19 (a 6) (b 9) (by decide) a6 b9) (B 19 (a 7) (b 8) (by decide) a7 b8) (B 19 (a 8) (b 7) (by decide) a8 b7) (B 19 (a 9) (b 6) (by decide) a9 b6)
 have e6:wi (wi (wi (wi (wi (wi (wi (wi (wi (wi (a 0*b 6)+wi (wi (2*a 1)*b 5))+wi (a 2*b 4))+wi (wi (2*a 3)*b 3))+wi (a 4*b 2))+wi (wi (2*a 5)*b 1))+wi (a 6*b 0))+wi (wi (2*a 7)*wi (19*b 9)))+wi (a 8*wi (19*b 8)))+wi (wi (2*a 9)*wi (19*b 7)))=1*(a 0*b 6)+2*(a 1*b 5)+1*(a 2*b 4)+2*(a 3*b 3)+1*(a 4*b 2)+2*(a 5*b 1)+1*(a 6*b 0)+38*(a 7*b 9)+19*(a 8*b 8)+38*(a 9*b 7):=by
  rw [mt1 (a:=a 0) (b:=b 6) a0 b6,mt2 (a:=a 1) (b:=b 5) a1 b5,mt1 (a:=a 2) (b:=b 4) a2 b4,mt2 (a:=a 3) (b:=b 3) a3 b3,mt1 (a:=a 4) (b:=b 2) a4 b2,mt2 (a:=a 5) (b:=b 1) a5 b1,mt1 (a:=a 6) (b:=b 0) a6 b0,mt38 (a:=a 7) (b:=b 9) a7 b9,mt19 (a:=a 8) (b:=b 8) a8 b8,mt38 (a:=a 9) (b:=b 7) a9 b7]
  exact sum10 (B 1 (a 0) (b 6) (by decide) a0 b6) (B 2 (a 1) (b 5) (by decide) a1 b5) (B 1 (a 2) (b 4) (by decide) a2 b4) (B 2 (a 3) (b 3) (by decide) a3 b3) (B 1 (a 4) (b 2) (by decide) a4 b2) (B 2 (a 5) (b 1) (by decide) a5 b1) (B 1 (a 6) (b 0) (by decide) a6 b0) (B 38 (a 7) (b 9) (by decide) a7 b9) (B 19 (a 8) (b 8) (by decide) a8 b8) (B 38 (a 9) (b 7) (by decide) a9 b7)
 have e7:wi (wi (wi (wi (wi (wi (wi (wi (wi (wi (a 0*b 7)+wi (a 1*b 6))+wi (a 2*b 5))+wi (a 3*b 4))+wi (a 4*b 3))+wi (a 5*b 2))+wi (a 6*b 1))+wi (a 7*b 0))+wi (a 8*wi (19*b 9)))+wi (a 9*wi (19*b 8)))=1*(a 0*b 7)+1*(a 1*b 6)+1*(a 2*b 5)+1*(a 3*b 4)+1*(a 4*b 3)+1*(a 5*b 2)+1*(a 6*b 1)+1*(a 7*b 0)+19*(a 8*b 9)+19*(a 9*b 8):=by
  rw [mt1 (a:=a 0) (b:=b 7) a0 b7,mt1 (a:=a 1) (b:=b 6) a1 b6,mt1 (a:=a 2) (b:=b 5) a2 b5,mt1 (a:=a 3) (b:=b 4) a3 b4,mt1 (a:=a 4) (b:=b 3) a4 b3,mt1 (a:=a 5) (b:=b 2) a5 b2,mt1 (a:=a 6) (b:=b 1) a6 b1,mt1 (a:=a 7) (b:=b 0) a7 b0,mt19 (a:=a 8) (b:=b 9) a8 b9,mt19 (a:=a 9) (b:=b 8) a9 b8]
  exact sum10 (B 1 (a 0) (b 7) (by decide) a0 b7) (B 1 (a 1) (b 6) (by decide) a1 b6) (B 1 (a 2) (b 5) (by decide) a2 b5) (B 1 (a 3) (b 4) (by decide) a3 b4) (B 1 (a 4) (b 3) (by decide) a4 b3) (B 1 (a 5) (b 2) (by decide) a5 b2) (B 1 (a 6) (b 1) (by decide) a6 b1) (B 1 (a 7) (b 0) (by decide) a7 b0) (B 19 (a 8) (b 9) (by decide) a8 b9) (B 19 (a 9) (b 8) (by decide) a9 b8)
 have e8:wi (wi (wi (wi (wi (wi (wi (wi (wi (wi (a 0*b 8)+wi (wi (2*a 1)*b 7))+wi (a 2*b 6))+wi (wi (2*a 3)*b 5))+wi (a 4*b 4))+wi (wi (2*a 5)*b 3))+wi (a 6*b 2))+wi (wi (2*a 7)*b 1))+wi (a 8*b 0))+wi (wi (2*a 9)*wi (19*b 9)))=1*(a 0*b 8)+2*(a 1*b 7)+1*(a 2*b 6)+2*(a 3*b 5)+1*(a 4*b 4)+2*(a 5*b 3)+1*(a 6*b 2)+2*(a 7*b 1)+1*(a 8*b 0)+38*(a 9*b 9):=by
  rw [mt1 (a:=a 0) (b:=b 8) a0 b8,mt2 (a:=a 1) (b:=b 7) a1 b7,mt1 (a:=a 2) (b:=b 6) a2 b6,mt2 (a:=a 3) (b:=b 5) a3 b5,mt1 (a:=a 4) (b:=b 4) a4 b4,mt2 (a:=a 5) (b:=b 3) a5 b3,mt1 (a:=a 6) (b:=b 2) a6 b2,mt2 (a:=a 7) (b:=b 1) a7 b1,mt1 (a:=a 8) (b:=b 0) a8 b0,mt38 (a:=a 9) (b:=b 9) a9 b9]
  exact sum10 (B 1 (a 0) (b 8) (by decide) a0 b8) (B 2 (a 1) (b 7) (by decide) a1 b7) (B 1 (a 2) (b 6) (by decide) a2 b6) (B 2 (a 3) (b 5) (by decide) a3 b5) (B 1 (a 4) (b 4) (by decide) a4 b4) (B 2 (a 5) (b 3) (by decide) a5 b3) (B 1 (a 6) (b 2) (by decide) a6 b2) (B 2 (a 7) (b 1) (by decide) a7 b1) (B 1 (a 8) (b 0) (by decide) a8 b0) (B 38 (a 9) (b 9) (by decide) a9 b9)
 have e9:wi (wi (wi (wi (wi (wi (wi (wi (wi (wi (a 0*b 9)+wi (a 1*b 8))+wi (a 2*b 7))+wi (a 3*b 6))+wi (a 4*b 5))+wi (a 5*b 4))+wi (a 6*b 3))+wi (a 7*b 2))+wi (a 8*b 1))+wi (a 9*b 0))=1*(a 0*b 9)+1*(a 1*b 8)+1*(a 2*b 7)+1*(a 3*b 6)+1*(a 4*b 5)+1*(a 5*b 4)+1*(a 6*b 3)+1*(a 7*b 2)+1*(a 8*b 1)+1*(a 9*b 0):=by
  rw [mt1 (a:=a 0) (b:=b 9) a0 b9,mt1 (a:=a 1) (b:=b 8) a1 b8,mt1 (a:=a 2) (b:=b 7) a2 b7,mt1 (a:=a 3) (b:=b 6) a3 b6,mt1 (a:=a 4) (b:=b 5) a4 b5,mt1 (a:=a 5) (b:=b 4) a5 b4,mt1 (a:=a 6) (b:=b 3) a6 b3,mt1 (a:=a 7) (b:=b 2) a7 b2,mt1 (a:=a 8) (b:=b 1) a8 b1,mt1 (a:=a 9) (b:=b 0) a9 b0]
  exact sum10 (B 1 (a 0) (b 9) (by decide) a0 b9) (B 1 (a 1) (b 8) (by decide) a1 b8) (B 1 (a 2) (b 7) (by decide) a2 b7) (B 1 (a 3) (b 6) (by decide) a3 b6) (B 1 (a 4) (b 5) (by decide) a4 b5) (B 1 (a 5) (b 4) (by decide) a5 b4) (B 1 (a 6) (b 3) (by decide) a6 b3) (B 1 (a 7) (b 2) (by decide) a7 b2) (B 1 (a 8) (b 1) (by decide) a8 b1) (B 1 (a 9) (b 0) (by decide) a9 b0)
 rw [e0,e1,e2,e3,e4,e5,e6,e7,e8,e9]
 rfl
theorem zma {a b:Nat→Int} (ha:gd10 (l10 a)=true) (hb:gd10 (l10 b)=true):carD (lf (addRaw a b))=addG (l10 a) (l10 b)∧gw10 (lf (addRaw a b))=true:=by
 obtain ⟨h1,h2,h3⟩:=zgE ha hb
 obtain ⟨a0,a1,a2,a3,a4,a5,a6,a7,a8,a9⟩:=zbN.1 ha
 obtain ⟨b0,b1,b2,b3,b4,b5,b6,b7,b8,b9⟩:=zbN.1 hb
 have w:∀ x y:Int,Gd x→Gd y→wi (x+y)=x+y:=fun x y hx hy=>wi_id (by omega)
 have e:addRaw a b=[lf (l10 a) 0+lf (l10 b) 0,lf (l10 a) 1+lf (l10 b) 1,lf (l10 a) 2+lf (l10 b) 2,lf (l10 a) 3+lf (l10 b) 3,lf (l10 a) 4+lf (l10 b) 4,lf (l10 a) 5+lf (l10 b) 5,lf (l10 a) 6+lf (l10 b) 6,lf (l10 a) 7+lf (l10 b) 7,lf (l10 a) 8+lf (l10 b) 8,lf (l10 a) 9+lf (l10 b) 9]:=by
  unfold addRaw
  rw [w (a 0) (b 0) a0 b0,w (a 1) (b 1) a1 b1,w (a 2) (b 2) a2 b2,w (a 3) (b 3) a3 b3,w (a 4) (b 4) a4 b4,w (a 5) (b 5) a5 b5,w (a 6) (b 6) a6 b6,w (a 7) (b 7) a7 b7,w (a 8) (b 8) a8 b8,w (a 9) (b 9) a9 b9]
  rfl
 rw [e]
 exact ⟨rfl,zdz.2 h1⟩
theorem zlE {a b:Nat→Int} (ha:gd10 (l10 a)=true) (hb:gd10 (l10 b)=true):carD (lf (subRaw a b))=subG (l10 a) (l10 b)∧gw10 (lf (subRaw a b))=true:=by
 obtain ⟨h1,h2,h3⟩:=zg1 ha hb
 obtain ⟨a0,a1,a2,a3,a4,a5,a6,a7,a8,a9⟩:=zbN.1 ha
 obtain ⟨b0,b1,b2,b3,b4,b5,b6,b7,b8,b9⟩:=zbN.1 hb
 have w:∀ x y:Int,Gd x→Gd y→wi (x - y)=x - y:=fun x y hx hy=>wi_id (by omega)
 have e:subRaw a b=[lf (l10 a) 0 - lf (l10 b) 0,lf (l10 a) 1 - lf (l10 b) 1,lf (l10 a) 2 - lf (l10 b) 2,lf (l10 a) 3 - lf (l10 b) 3,lf (l10 a) 4 - lf (l10 b) 4,lf (l10 a) 5 - lf (l10 b) 5,lf (l10 a) 6 - lf (l10 b) 6,lf (l10 a) 7 - lf (l10 b) 7,lf (l10 a) 8 - lf (l10 b) 8,lf (l10 a) 9 - lf (l10 b) 9]:=by
  unfold subRaw
  rw [w (a 0) (b 0) a0 b0,w (a 1) (b 1) a1 b1,w (a 2) (b 2) a2 b2,w (a 3) (b 3) a3 b3,w (a 4) (b 4) a4 b4,w (a 5) (b 5) a5 b5,w (a 6) (b 6) a6 b6,w (a 7) (b 7) a7 b7,w (a 8) (b 8) a8 b8,w (a 9) (b 9) a9 b9]
  rfl
 rw [e]
 exact ⟨rfl,zdz.2 h1⟩
end Go.AM
namespace Go.AM
open Go
theorem zbP {low D H:Int} {e o w:Nat} (hl:0≤low∧low<2 ^ e) (ho:o<w):(low+2 ^ e*(D+2 ^ w*H)) / 2 ^ (e+o) % 2=D / 2 ^ o % 2:=by
 have pe:(0:Int)<2 ^ e:=Int.pow_pos (by decide)
 have po:(0:Int)<2 ^ o:=Int.pow_pos (by decide)
 rw [Int.pow_add,← Int.ediv_ediv_of_nonneg (Int.le_of_lt pe),Int.add_mul_ediv_left _ _ (Int.ne_of_gt pe),Int.ediv_eq_zero_of_lt hl.1 hl.2,Int.zero_add]
 have e1:(2:Int) ^ w=2 ^ o*(2*2 ^ (w - o - 1)):=by
  rw [← Int.pow_succ',← Int.pow_add]
  congr 1
  omega
 rw [e1,Int.mul_assoc,Int.add_mul_ediv_left _ _ (Int.ne_of_gt po)]
 generalize D / 2 ^ o=q
 generalize (2:Int) ^ (w - o - 1)=m
 have:2*m*H=2*(m*H):=Int.mul_assoc _ _ _
 rw [this]
 omega
theorem zlo (Y:Int) (r:Nat):Y % 2 ^ (r+1)=Y % 2 ^ r+(Y / 2 ^ r % 2)*2 ^ r:=by
 have pr:(0:Int)<2 ^ r:=Int.pow_pos (by decide)
 have e1:(2:Int) ^ (r+1)=2 ^ r*2:=Int.pow_succ _ _
 have h0:=Int.emod_nonneg Y (Int.ne_of_gt pr)
 have h1:=Int.emod_lt_of_pos Y pr
 have e2:=Int.emod_add_mul_ediv Y (2 ^ r)
 have hu:0≤Y / 2 ^ r % 2∧Y / 2 ^ r % 2≤1:=by omega
 have e3:=Int.emod_add_mul_ediv (Y / 2 ^ r) 2
 rw [e1]
 generalize (2:Int) ^ r=P at *
 generalize Y % P=s at *
 generalize Y / P=q at *
 generalize q % 2=u at *
 generalize q / 2=t at *
 have hY:Y=(s+u*P)+P*2*t:=by rw [← e2,← e3];grind
 rw [hY,Int.add_mul_emod_self_left]
 have hub:0≤u*P:=Int.mul_nonneg hu.1 (Int.le_of_lt pr)
 have hub2:u*P≤1*P:=Int.mul_le_mul_of_nonneg_right hu.2 (Int.le_of_lt pr)
 exact Int.emod_eq_of_lt (by omega) (by omega)
theorem zs7 {x b:Int} {r:Nat} (hx:0≤x∧x<2 ^ r) (hb:b=0 ∨ b=1):(x.toNat ||| (b*2 ^ r).toNat)=(x+b*2 ^ r).toNat:=by
 have hx':x.toNat<2 ^ r:=by
  have:((2 ^ r:Nat):Int)=2 ^ r:=by simp
  omega
 rcases hb with rfl | rfl
 ·simp
 ·have:((2 ^ r:Nat):Int)=2 ^ r:=by simp
  have e1:(1*(2:Int) ^ r).toNat=2 ^ r*1:=by rw [Int.one_mul,← this,Int.toNat_natCast,Nat.mul_one]
  rw [e1,Nat.or_comm,← Nat.two_pow_add_eq_or_of_lt hx']
  omega
theorem zvg {x b:Int} {r:Nat} (hr:r≤30) (hx:0≤x∧x<2 ^ r) (hb:b=0 ∨ b=1):ior .i64 x (ishl .i64 b r)=x+b*2 ^ r:=by
 have hp:(2:Int) ^ r≤1073741824:=by
  have h1:2 ^ r≤2 ^ 30:=Nat.pow_le_pow_right (by decide) hr
  have h2:((2 ^ r:Nat):Int)=2 ^ r:=by simp
  omega
 have hpp:(0:Int)<2 ^ r:=Int.pow_pos (by decide)
 have hbb:0≤b*2 ^ r∧b*2 ^ r≤1073741824:=by rcases hb with rfl | rfl <;> omega
 have e1:ishl .i64 b r=b*2 ^ r:=by
  show wr .i64 (b*2 ^ (min (r:Int).toNat 64))=_
  rw [Int.toNat_natCast,show min r 64=r by omega]
  exact zcz (by omega) (by omega)
 rw [e1]
 have e2:∀ y:Int,0≤y→y≤4611686018427387904→(BitVec.ofInt 64 y)=BitVec.ofNat 64 y.toNat:=fun y h0 h1=>by
  apply BitVec.eq_of_toNat_eq
  simp only [BitVec.toNat_ofInt,BitVec.toNat_ofNat]
  have:(y % (2 ^ 64:Nat)).toNat=y.toNat % 2 ^ 64:=by omega
  exact this
 have e3:(BitVec.ofInt 64 x ||| BitVec.ofInt 64 (b*2 ^ r)).toNat=x.toNat ||| (b*2 ^ r).toNat:=by
  rw [e2 x hx.1 (by omega),e2 _ hbb.1 (by omega),BitVec.toNat_or,BitVec.toNat_ofNat,BitVec.toNat_ofNat,Nat.mod_eq_of_lt (by omega),Nat.mod_eq_of_lt (by omega)]
 show wr .i64 (((BitVec.ofInt 64 x ||| BitVec.ofInt 64 (b*2 ^ r)).toNat:Nat):Int)=_
 rw [e3,zs7 hx hb,Int.toNat_of_nonneg (by omega)]
 exact zcz (by omega) (by omega)
theorem zx1 {x b:Int} {r:Nat} (hr:r≤7) (hx:0≤x∧x<2 ^ r) (hb:b=0 ∨ b=1):ior .u8 x (ishl .u8 b r)=x+b*2 ^ r:=by
 have hp:(2:Int) ^ r≤128:=by
  have h1:2 ^ r≤2 ^ 7:=Nat.pow_le_pow_right (by decide) hr
  have h2:((2 ^ r:Nat):Int)=2 ^ r:=by simp
  omega
 have hpp:(0:Int)<2 ^ r:=Int.pow_pos (by decide)
 have hbb:0≤b*2 ^ r∧b*2 ^ r≤128:=by rcases hb with rfl | rfl <;> omega
 have hsum:x+b*2 ^ r<256:=by rcases hb with rfl | rfl <;> omega
 have e1:ishl .u8 b r=b*2 ^ r:=by
  show wr .u8 (b*2 ^ (min (r:Int).toNat 8))=_
  rw [Int.toNat_natCast,show min r 8=r by omega,wr8]
  omega
 rw [e1]
 have e2:∀ y:Int,0≤y→y<256→(BitVec.ofInt 8 y)=BitVec.ofNat 8 y.toNat:=fun y h0 h1=>by
  apply BitVec.eq_of_toNat_eq
  simp only [BitVec.toNat_ofInt,BitVec.toNat_ofNat]
  have:(y % (2 ^ 8:Nat)).toNat=y.toNat % 2 ^ 8:=by omega
  exact this
 have e3:(BitVec.ofInt 8 x ||| BitVec.ofInt 8 (b*2 ^ r)).toNat=x.toNat ||| (b*2 ^ r).toNat:=by
  rw [e2 x hx.1 (by omega),e2 _ hbb.1 (by omega),BitVec.toNat_or,BitVec.toNat_ofNat,BitVec.toNat_ofNat,Nat.mod_eq_of_lt (by omega),Nat.mod_eq_of_lt (by omega)]
 show wr .u8 (((BitVec.ofInt 8 x ||| BitVec.ofInt 8 (b*2 ^ r)).toNat:Nat):Int)=_
 rw [e3,zs7 hx hb,Int.toNat_of_nonneg (by omega),wr8]
 omega
def bitG (b:Nat→Int) (n:Nat):Int:=wr .i64 (iand .u8 (ishr .u8 (b (n / 8)) ((n % 8:Nat):Int)) 1)
def digG (b:Nat→Int) (at_:Nat):Nat→Int
 | 0=>0
 | k+1=>ior .i64 (digG b at_ k) (ishl .i64 (bitG b (at_+k)) (k:Int))
theorem iand1u8 {x:Int} (h:0≤x∧x<256):iand .u8 x 1=x % 2:=by
 have key:∀ n:Nat,n<256→iand .u8 (n:Int) 1=(n:Int) % 2:=by decide +kernel
 have:=key x.toNat (by omega)
 rwa [Int.toNat_of_nonneg h.1] at this
theorem zrB {b:Nat→Int} (h:areB b 32 0=true) {n:Nat} (hn:n<256):bitG b n=hval b 32 0 / 2 ^ n % 2∧(bitG b n=0 ∨ bitG b n=1):=by
 have hb:=zch h (n / 8) (by omega)
 rw [Nat.zero_add] at hb
 have e1:ishr .u8 (b (n / 8)) ((n % 8:Nat):Int)=b (n / 8) / 2 ^ (n % 8):=by
  unfold ishr
  rw [Int.toNat_natCast,show min (n % 8) IntKind.u8.bits=n % 8 by show min (n % 8) 8=_;omega,Int.fdiv_eq_ediv_of_nonneg _ (Int.le_of_lt (Int.pow_pos (by decide)))]
 have hr:0≤b (n / 8) / 2 ^ (n % 8)∧b (n / 8) / 2 ^ (n % 8)<256:=by
  have pp:(0:Int)<2 ^ (n % 8):=Int.pow_pos (by decide)
  refine ⟨Int.ediv_nonneg hb.1 (Int.le_of_lt pp),Int.lt_of_le_of_lt (Int.ediv_le_self _ hb.1) hb.2⟩
 have e2:bitG b n=b (n / 8) / 2 ^ (n % 8) % 2:=by
  unfold bitG
  rw [e1,iand1u8 hr]
  exact zcz (by omega) (by omega)
 have s1:=za7 b (n / 8) (32 - n / 8) 0
 rw [show n / 8+(32 - n / 8)=32 by omega,Nat.zero_add] at s1
 have s2:=za7 b 1 (31 - n / 8) (n / 8)
 rw [show 1+(31 - n / 8)=32 - n / 8 by omega] at s2
 have s3:hval b 1 (n / 8)=b (n / 8):=by simp [hval]
 rw [s3] at s2
 have hl:=zaQ (zdx (m:=n / 8) (i:=0) h (by omega))
 rw [Nat.zero_add] at hl
 have p1:(256:Int) ^ (n / 8)=2 ^ (8*(n / 8)):=by rw [show (256:Int)=2 ^ 8 by decide,← Int.pow_mul]
 have key:=zbP (low:=hval b (n / 8) 0) (D:=b (n / 8)) (H:=hval b (31 - n / 8) (n / 8+1)) (e:=8*(n / 8)) (o:=n % 8) (w:=8) (by rw [← p1];exact hl) (by omega)
 rw [show 8*(n / 8)+n % 8=n by omega] at key
 have e3:hval b 32 0=hval b (n / 8) 0+2 ^ (8*(n / 8))*(b (n / 8)+2 ^ 8*hval b (31 - n / 8) (n / 8+1)):=by
  rw [s1,s2,p1];simp
 rw [← e3] at key
 exact ⟨by rw [e2,key],by rw [e2];omega⟩
theorem zbp {b:Nat→Int} (h:areB b 32 0=true) (at_:Nat):∀ k,k≤26→at_+k≤256→digG b at_ k=hval b 32 0 / 2 ^ at_ % 2 ^ k
 | 0,_,_=>by simp [digG,Int.emod_one]
 | k+1,hk,ha=>by
  have ih:=zbp h at_ k (by omega) (by omega)
  obtain ⟨e1,e2⟩:=zrB h (n:=at_+k) (by omega)
  have pp:(0:Int)<2 ^ k:=Int.pow_pos (by decide)
  unfold digG
  rw [ih,zvg (by omega) ⟨Int.emod_nonneg _ (Int.ne_of_gt pp),Int.emod_lt_of_pos _ pp⟩ e2,e1,zlo,Int.pow_add,← Int.ediv_ediv_of_nonneg (Int.le_of_lt (Int.pow_pos (by decide)))]
def fromRaw (b:Nat→Int):List Int:=[wi (digG b 0 26+wi (19*wr .i64 (ishr .u8 (b 31) 7))),digG b 26 25,digG b 51 26,digG b 77 25,digG b 102 26,digG b 128 25,digG b 153 26,digG b 179 25,digG b 204 26,digG b 230 25]
def fromL (v:Int):List Int:=[v % 67108864+19*(v / 57896044618658097711785492504343953926634992332820282019728792003956564819968),v / 67108864 % 33554432,v / 2251799813685248 % 67108864,v / 151115727451828646838272 % 33554432,v / 5070602400912917605986812821504 % 67108864,v / 340282366920938463463374607431768211456 % 33554432,v / 11417981541647679048466287755595961091061972992 % 67108864,v / 766247770432944429179173513575154591809369561091801088 % 33554432,v / 25711008708143844408671393477458601640355247900524685364822016 % 67108864,v / 1725436586697640946858688965569256363112777243042596638790631055949824 % 33554432]
theorem zjE {b:Nat→Int} (h:areB b 32 0=true):fromRaw b=fromL (hval b 32 0):=by
 have hr:=zaQ h
 have hv:hval b 32 0<115792089237316195423570985008687907853269984665640564039457584007913129639936:=by have:=hr.2;simpa using this
 have hb:=zch h 31 (by omega)
 rw [Nat.zero_add] at hb
 have s1:=za7 b 31 1 0
 have e1:hval b 1 (0+31)=b 31:=by simp [hval]
 have hl:=zaQ (zdx (m:=31) (i:=0) h (by omega))
 rw [Nat.zero_add] at hl
 rw [e1,show (256:Int) ^ 31=452312848583266388373324160190187140051835877600158453279131187530910662656 by decide,show 31+1=32 from rfl] at s1
 rw [show (256:Int) ^ 31=452312848583266388373324160190187140051835877600158453279131187530910662656 by decide] at hl
 have e7:ishr .u8 (b 31) 7=b 31 / 128:=by
  show (b 31).fdiv (2 ^ (min (7:Int).toNat 8))=_
  rw [Int.fdiv_eq_ediv_of_nonneg _ (by decide)];rfl
 have e8:hval b 32 0 / 57896044618658097711785492504343953926634992332820282019728792003956564819968=b 31 / 128:=by
  rw [s1]
  generalize hval b 31 0=A at *
  generalize b 31=B at *
  clear s1 e1 e7
  omega
 unfold fromRaw fromL
 rw [e7,zcz (x:=b 31 / 128) (by omega) (by omega),wi_id (x:=19*(b 31 / 128)) (by omega),zbp h 0 26 (by omega) (by omega),e8]
 rw [zbp h 26 25 (by omega) (by omega)]
 rw [zbp h 51 26 (by omega) (by omega)]
 rw [zbp h 77 25 (by omega) (by omega)]
 rw [zbp h 102 26 (by omega) (by omega)]
 rw [zbp h 128 25 (by omega) (by omega)]
 rw [zbp h 153 26 (by omega) (by omega)]
 rw [zbp h 179 25 (by omega) (by omega)]
 rw [zbp h 204 26 (by omega) (by omega)]
 rw [zbp h 230 25 (by omega) (by omega)]
 rw [wi_id (by omega)]
 simp only [Int.pow_zero,Int.ediv_one]
 rfl
theorem ziq {v:Int} (hv:0≤v∧v<115792089237316195423570985008687907853269984665640564039457584007913129639936):gw10 (lf (fromL v))=true∧gd10 (carD (lf (fromL v)))=true∧gm (carD (lf (fromL v)))=v % pP:=by
 have hw:∀ i,i<10→gw (lf (fromL v) i):=by
  apply ten <;> (simp only [fromL,lf,gw];omega)
 refine ⟨zdz.2 hw,zcA hw,?_⟩
 obtain ⟨q,e⟩:=zbZ (lf (fromL v))
 have e2:lf (fromL v) 0+lf (fromL v) 1*67108864+lf (fromL v) 2*2251799813685248+lf (fromL v) 3*151115727451828646838272+lf (fromL v) 4*5070602400912917605986812821504+lf (fromL v) 5*340282366920938463463374607431768211456+lf (fromL v) 6*11417981541647679048466287755595961091061972992+lf (fromL v) 7*766247770432944429179173513575154591809369561091801088+lf (fromL v) 8*25711008708143844408671393477458601640355247900524685364822016+lf (fromL v) 9*1725436586697640946858688965569256363112777243042596638790631055949824=v - v / 57896044618658097711785492504343953926634992332820282019728792003956564819968*pP:=by
  simp only [fromL,lf,pP]
  omega
 unfold gm
 rw [e,e2,Int.add_mul_emod_self_right,Int.sub_mul_emod_self_right]
end Go.AM
namespace Go.AM
open Go
def Cn (a:Nat→Int):Prop:=(0≤a 0∧a 0<67108864)∧(0≤a 1∧a 1<33554432)∧(0≤a 2∧a 2<67108864)∧(0≤a 3∧a 3<33554432)∧(0≤a 4∧a 4<67108864)∧(0≤a 5∧a 5<33554432)∧(0≤a 6∧a 6<67108864)∧(0≤a 7∧a 7<33554432)∧(0≤a 8∧a 8<67108864)∧(0≤a 9∧a 9<33554432)
def Cn1 (a:Nat→Int):Prop:=(0≤a 0∧a 0<67108864)∧(-1≤a 1∧a 1≤33554432)∧(0≤a 2∧a 2<67108864)∧(0≤a 3∧a 3<33554432)∧(0≤a 4∧a 4<67108864)∧(0≤a 5∧a 5<33554432)∧(0≤a 6∧a 6<67108864)∧(0≤a 7∧a 7<33554432)∧(0≤a 8∧a 8<67108864)∧(0≤a 9∧a 9<33554432)
theorem zrX {l:List Int} (h:gd10 l=true):Cn1 (lf (carD (lf l))):=by
 obtain ⟨h0,h1,h2,h3,h4,h5,h6,h7,h8,h9⟩:=zbN.1 h
 unfold Cn1
 simp only [carD,lf]
 generalize lf l 0=a0 at *;generalize lf l 1=a1 at *;generalize lf l 2=a2 at *;generalize lf l 3=a3 at *;generalize lf l 4=a4 at *
 generalize lf l 5=a5 at *;generalize lf l 6=a6 at *;generalize lf l 7=a7 at *;generalize lf l 8=a8 at *;generalize lf l 9=a9 at *
 obtain ⟨x1,hx1⟩:∃ x,a1+a0 / 67108864=x:=⟨_,rfl⟩
 rw [hx1]
 have bx1:-262146≤x1∧x1≤67108868:=by omega
 obtain ⟨x2,hx2⟩:∃ x,a2+x1 / 33554432=x:=⟨_,rfl⟩
 rw [hx2]
 have bx2:-262146≤x2∧x2≤67108868:=by omega
 obtain ⟨x3,hx3⟩:∃ x,a3+x2 / 67108864=x:=⟨_,rfl⟩
 rw [hx3]
 have bx3:-262146≤x3∧x3≤67108868:=by omega
 obtain ⟨x4,hx4⟩:∃ x,a4+x3 / 33554432=x:=⟨_,rfl⟩
 rw [hx4]
 have bx4:-262146≤x4∧x4≤67108868:=by omega
 obtain ⟨x5,hx5⟩:∃ x,a5+x4 / 67108864=x:=⟨_,rfl⟩
 rw [hx5]
 have bx5:-262146≤x5∧x5≤67108868:=by omega
 obtain ⟨x6,hx6⟩:∃ x,a6+x5 / 33554432=x:=⟨_,rfl⟩
 rw [hx6]
 have bx6:-262146≤x6∧x6≤67108868:=by omega
 obtain ⟨x7,hx7⟩:∃ x,a7+x6 / 67108864=x:=⟨_,rfl⟩
 rw [hx7]
 have bx7:-262146≤x7∧x7≤67108868:=by omega
 obtain ⟨x8,hx8⟩:∃ x,a8+x7 / 33554432=x:=⟨_,rfl⟩
 rw [hx8]
 have bx8:-262146≤x8∧x8≤67108868:=by omega
 obtain ⟨x9,hx9⟩:∃ x,a9+x8 / 67108864=x:=⟨_,rfl⟩
 rw [hx9]
 have bx9:-262146≤x9∧x9≤67108868:=by omega
 omega
theorem zlm {a:Nat→Int} (h:Cn1 a):Cn (lf (carD a)):=by
 obtain ⟨h0,h1,h2,h3,h4,h5,h6,h7,h8,h9⟩:=h
 unfold Cn
 simp only [carD,lf]
 generalize a 0=a0 at *;generalize a 1=a1 at *;generalize a 2=a2 at *;generalize a 3=a3 at *;generalize a 4=a4 at *
 generalize a 5=a5 at *;generalize a 6=a6 at *;generalize a 7=a7 at *;generalize a 8=a8 at *;generalize a 9=a9 at *
 have hz:a0 / 67108864=0:=by omega
 obtain ⟨x1,hx1⟩:∃ x,a1+a0 / 67108864=x:=⟨_,rfl⟩
 rw [hx1]
 have bx1:x1=a1:=by omega
 obtain ⟨c1,hc1⟩:∃ c,x1 / 33554432=c:=⟨_,rfl⟩
 have b1:(c1=0∧0≤x1) ∨ (c1=-1∧x1=-1) ∨ (c1=1∧x1=33554432):=by omega
 rw [hc1]
 obtain ⟨x2,hx2⟩:∃ x,a2+c1=x:=⟨_,rfl⟩
 obtain ⟨c2,hc2⟩:∃ c,x2 / 67108864=c:=⟨_,rfl⟩
 rw [hx2,hc2]
 have b2:-1≤c2∧c2≤1∧(c1=0→c2=0)∧(c1=1→0≤c2)∧(c1=-1→c2≤0):=by clear hz h0 h1 hx1 bx1 hc1;omega
 obtain ⟨x3,hx3⟩:∃ x,a3+c2=x:=⟨_,rfl⟩
 obtain ⟨c3,hc3⟩:∃ c,x3 / 33554432=c:=⟨_,rfl⟩
 rw [hx3,hc3]
 have b3:-1≤c3∧c3≤1∧(c2=0→c3=0)∧(c2=1→0≤c3)∧(c2=-1→c3≤0):=by clear hz h0 h1 hx1 bx1 hc1 b1;omega
 obtain ⟨x4,hx4⟩:∃ x,a4+c3=x:=⟨_,rfl⟩
 obtain ⟨c4,hc4⟩:∃ c,x4 / 67108864=c:=⟨_,rfl⟩
 rw [hx4,hc4]
 have b4:-1≤c4∧c4≤1∧(c3=0→c4=0)∧(c3=1→0≤c4)∧(c3=-1→c4≤0):=by clear hz h0 h1 hx1 bx1 hc1 b1;omega
 obtain ⟨x5,hx5⟩:∃ x,a5+c4=x:=⟨_,rfl⟩
 obtain ⟨c5,hc5⟩:∃ c,x5 / 33554432=c:=⟨_,rfl⟩
 rw [hx5,hc5]
 have b5:-1≤c5∧c5≤1∧(c4=0→c5=0)∧(c4=1→0≤c5)∧(c4=-1→c5≤0):=by clear hz h0 h1 hx1 bx1 hc1 b1;omega
 obtain ⟨x6,hx6⟩:∃ x,a6+c5=x:=⟨_,rfl⟩
 obtain ⟨c6,hc6⟩:∃ c,x6 / 67108864=c:=⟨_,rfl⟩
 rw [hx6,hc6]
 have b6:-1≤c6∧c6≤1∧(c5=0→c6=0)∧(c5=1→0≤c6)∧(c5=-1→c6≤0):=by clear hz h0 h1 hx1 bx1 hc1 b1;omega
 obtain ⟨x7,hx7⟩:∃ x,a7+c6=x:=⟨_,rfl⟩
 obtain ⟨c7,hc7⟩:∃ c,x7 / 33554432=c:=⟨_,rfl⟩
 rw [hx7,hc7]
 have b7:-1≤c7∧c7≤1∧(c6=0→c7=0)∧(c6=1→0≤c7)∧(c6=-1→c7≤0):=by clear hz h0 h1 hx1 bx1 hc1 b1;omega
 obtain ⟨x8,hx8⟩:∃ x,a8+c7=x:=⟨_,rfl⟩
 obtain ⟨c8,hc8⟩:∃ c,x8 / 67108864=c:=⟨_,rfl⟩
 rw [hx8,hc8]
 have b8:-1≤c8∧c8≤1∧(c7=0→c8=0)∧(c7=1→0≤c8)∧(c7=-1→c8≤0):=by clear hz h0 h1 hx1 bx1 hc1 b1;omega
 obtain ⟨x9,hx9⟩:∃ x,a9+c8=x:=⟨_,rfl⟩
 obtain ⟨c9,hc9⟩:∃ c,x9 / 33554432=c:=⟨_,rfl⟩
 rw [hx9,hc9]
 have b9:-1≤c9∧c9≤1∧(c8=0→c9=0)∧(c8=1→0≤c9)∧(c8=-1→c9≤0):=by clear hz h0 h1 hx1 bx1 hc1 b1;omega
 have hc9:(c1=0→c9=0)∧(c1=1→0≤c9)∧(c1=-1→c9≤0):=by omega
 have r2:0≤x2 % 67108864∧x2 % 67108864<67108864:=by omega
 have b9':=b9
 clear b2 b3 b4 b5 b6 b7 b8 b9 hx2 hx3 hx4 hx5 hx6 hx7 hx8 hx9 h2 h3 h4 h5 h6 h7 h8 h9
 refine ⟨by omega,?_,by omega,by omega,by omega,by omega,by omega,by omega,by omega,by omega⟩
 omega
theorem Cn.one {a:Nat→Int} (h:Cn a):Cn1 a:=by
 obtain ⟨h0,h1,h2,h3,h4,h5,h6,h7,h8,h9⟩:=h
 exact ⟨h0,⟨by omega,by omega⟩,h2,h3,h4,h5,h6,h7,h8,h9⟩
def gvF (a:Nat→Int):Int:=a 0+a 1*67108864+a 2*2251799813685248+a 3*151115727451828646838272+a 4*5070602400912917605986812821504+a 5*340282366920938463463374607431768211456+a 6*11417981541647679048466287755595961091061972992+a 7*766247770432944429179173513575154591809369561091801088+a 8*25711008708143844408671393477458601640355247900524685364822016+a 9*1725436586697640946858688965569256363112777243042596638790631055949824
theorem Cn.range {a:Nat→Int} (h:Cn a):0≤gvF a∧gvF a<57896044618658097711785492504343953926634992332820282019728792003956564819968:=by
 obtain ⟨h0,h1,h2,h3,h4,h5,h6,h7,h8,h9⟩:=h
 unfold gvF
 omega
def eG (i:Nat):Nat:=match i with
 | 0=>0
 | 1=>26
 | 2=>51
 | 3=>77
 | 4=>102
 | 5=>128
 | 6=>153
 | 7=>179
 | 8=>204
 | _=>230
def diG (n:Nat):Nat:=bif Nat.ble (n+1) 26 then 0 else bif Nat.ble (n+1) 51 then 1 else bif Nat.ble (n+1) 77 then 2 else bif Nat.ble (n+1) 102 then 3 else bif Nat.ble (n+1) 128 then 4 else bif Nat.ble (n+1) 153 then 5 else bif Nat.ble (n+1) 179 then 6 else bif Nat.ble (n+1) 204 then 7 else bif Nat.ble (n+1) 230 then 8 else 9
def bitD (D:Nat→Int) (n:Nat):Int:=wr .u8 (iand .i64 (ishr .i64 (D (diG n)) ((n - eG (diG n):Nat):Int)) 1)
def byteG (D:Nat→Int) (j:Nat):Nat→Int
 | 0=>0
 | r+1=>ior .u8 (byteG D j r) (ishl .u8 (bitD D (8*j+r)) (r:Int))
def outG (D:Nat→Int):List Int:=tabL (fun j=>byteG D j (bif Nat.beq j 31 then 7 else 8)) 32 0
theorem ble_n {a b:Nat} (h:b<a):Nat.ble a b=false:=by
 cases hb:Nat.ble a b with
 | false=>rfl
 | true=>have:=Nat.le_of_ble_eq_true hb;omega
theorem zbu {D:Nat→Int} {n i k:Nat} (hi:diG n=i) (he:n - eG i=k) (hk:k<64) (_h0:0≤D i):bitD D n=D i / 2 ^ k % 2:=by
 unfold bitD
 rw [hi,he]
 have e1:ishr .i64 (D i) (k:Int)=D i / 2 ^ k:=by
  unfold ishr
  rw [Int.toNat_natCast,show min k IntKind.i64.bits=k by show min k 64=_;omega,Int.fdiv_eq_ediv_of_nonneg _ (Int.le_of_lt (Int.pow_pos (by decide)))]
 rw [e1,zgv (D i / 2 ^ k) 1 (by decide) 1 (by decide),wr8]
 omega
theorem zqk {D:Nat→Int} (h:Cn D) {n:Nat} (hn:n<255):bitD D n=gvF D / 2 ^ n % 2∧(bitD D n=0 ∨ bitD D n=1):=by
 have hc:=h
 obtain ⟨h0,h1,h2,h3,h4,h5,h6,h7,h8,h9⟩:=h
 have fin:∀ x,bitD D n=x % 2→(bitD D n=0 ∨ bitD D n=1):=fun x hx=>by omega
 by_cases c0:n<26
 ·have hd:diG n=0:=by
   unfold diG
   rw [Nat.ble_eq_true_of_le (show n+1≤26 by omega)]
   rfl
  have hv:=zbu (D:=D) (k:=n - 0) hd rfl (by omega) h0.1
  have key:=zbP (low:=0) (D:=D 0) (H:=D 1*1+D 2*33554432+D 3*2251799813685248+D 4*75557863725914323419136+D 5*5070602400912917605986812821504+D 6*170141183460469231731687303715884105728+D 7*11417981541647679048466287755595961091061972992+D 8*383123885216472214589586756787577295904684780545900544+D 9*25711008708143844408671393477458601640355247900524685364822016) (e:=0) (o:=n - 0) (w:=26) ⟨by omega,by rw [show (2:Int) ^ 0=1 by decide];omega⟩ (by omega)
  rw [show 0+(n - 0)=n by omega,show (2:Int) ^ 0=1 by decide,show (2:Int) ^ 26=67108864 by decide] at key
  have hV:0+1*(D 0+67108864*(D 1*1+D 2*33554432+D 3*2251799813685248+D 4*75557863725914323419136+D 5*5070602400912917605986812821504+D 6*170141183460469231731687303715884105728+D 7*11417981541647679048466287755595961091061972992+D 8*383123885216472214589586756787577295904684780545900544+D 9*25711008708143844408671393477458601640355247900524685364822016))=gvF D:=by unfold gvF;omega
  rw [hV] at key
  exact ⟨hv.trans key.symm,fin _ hv⟩
 by_cases c1:n<51
 ·have hd:diG n=1:=by
   unfold diG
   rw [ble_n (a:=n+1) (b:=26) (by omega),Nat.ble_eq_true_of_le (show n+1≤51 by omega)]
   rfl
  have hv:=zbu (D:=D) (k:=n - 26) hd rfl (by omega) h1.1
  have key:=zbP (low:=D 0) (D:=D 1) (H:=D 2*1+D 3*67108864+D 4*2251799813685248+D 5*151115727451828646838272+D 6*5070602400912917605986812821504+D 7*340282366920938463463374607431768211456+D 8*11417981541647679048466287755595961091061972992+D 9*766247770432944429179173513575154591809369561091801088) (e:=26) (o:=n - 26) (w:=25) ⟨by omega,by rw [show (2:Int) ^ 26=67108864 by decide];omega⟩ (by omega)
  rw [show 26+(n - 26)=n by omega,show (2:Int) ^ 26=67108864 by decide,show (2:Int) ^ 25=33554432 by decide] at key
  have hV:D 0+67108864*(D 1+33554432*(D 2*1+D 3*67108864+D 4*2251799813685248+D 5*151115727451828646838272+D 6*5070602400912917605986812821504+D 7*340282366920938463463374607431768211456+D 8*11417981541647679048466287755595961091061972992+D 9*766247770432944429179173513575154591809369561091801088))=gvF D:=by unfold gvF;omega
  rw [hV] at key
  exact ⟨hv.trans key.symm,fin _ hv⟩
 by_cases c2:n<77
 ·have hd:diG n=2:=by
   unfold diG
   rw [ble_n (a:=n+1) (b:=26) (by omega),ble_n (a:=n+1) (b:=51) (by omega),Nat.ble_eq_true_of_le (show n+1≤77 by omega)]
   rfl
  have hv:=zbu (D:=D) (k:=n - 51) hd rfl (by omega) h2.1
  have key:=zbP (low:=D 0+D 1*67108864) (D:=D 2) (H:=D 3*1+D 4*33554432+D 5*2251799813685248+D 6*75557863725914323419136+D 7*5070602400912917605986812821504+D 8*170141183460469231731687303715884105728+D 9*11417981541647679048466287755595961091061972992) (e:=51) (o:=n - 51) (w:=26) ⟨by omega,by rw [show (2:Int) ^ 51=2251799813685248 by decide];omega⟩ (by omega)
  rw [show 51+(n - 51)=n by omega,show (2:Int) ^ 51=2251799813685248 by decide,show (2:Int) ^ 26=67108864 by decide] at key
  have hV:D 0+D 1*67108864+2251799813685248*(D 2+67108864*(D 3*1+D 4*33554432+D 5*2251799813685248+D 6*75557863725914323419136+D 7*5070602400912917605986812821504+D 8*170141183460469231731687303715884105728+D 9*11417981541647679048466287755595961091061972992))=gvF D:=by unfold gvF;omega
  rw [hV] at key
  exact ⟨hv.trans key.symm,fin _ hv⟩
 by_cases c3:n<102
 ·have hd:diG n=3:=by
   unfold diG
   rw [ble_n (a:=n+1) (b:=26) (by omega),ble_n (a:=n+1) (b:=51) (by omega),ble_n (a:=n+1) (b:=77) (by omega),Nat.ble_eq_true_of_le (show n+1≤102 by omega)]
   rfl
  have hv:=zbu (D:=D) (k:=n - 77) hd rfl (by omega) h3.1
  have key:=zbP (low:=D 0+D 1*67108864+D 2*2251799813685248) (D:=D 3) (H:=D 4*1+D 5*67108864+D 6*2251799813685248+D 7*151115727451828646838272+D 8*5070602400912917605986812821504+D 9*340282366920938463463374607431768211456) (e:=77) (o:=n - 77) (w:=25) ⟨by omega,by rw [show (2:Int) ^ 77=151115727451828646838272 by decide];omega⟩ (by omega)
  rw [show 77+(n - 77)=n by omega,show (2:Int) ^ 77=151115727451828646838272 by decide,show (2:Int) ^ 25=33554432 by decide] at key
  have hV:D 0+D 1*67108864+D 2*2251799813685248+151115727451828646838272*(D 3+33554432*(D 4*1+D 5*67108864+D 6*2251799813685248+D 7*151115727451828646838272+D 8*5070602400912917605986812821504+D 9*340282366920938463463374607431768211456))=gvF D:=by unfold gvF;omega
  rw [hV] at key
  exact ⟨hv.trans key.symm,fin _ hv⟩
 by_cases c4:n<128
 ·have hd:diG n=4:=by
   unfold diG
   rw [ble_n (a:=n+1) (b:=26) (by omega),ble_n (a:=n+1) (b:=51) (by omega),ble_n (a:=n+1) (b:=77) (by omega),ble_n (a:=n+1) (b:=102) (by omega),Nat.ble_eq_true_of_le (show n+1≤128 by omega)]
   rfl
  have hv:=zbu (D:=D) (k:=n - 102) hd rfl (by omega) h4.1
  have key:=zbP (low:=D 0+D 1*67108864+D 2*2251799813685248+D 3*151115727451828646838272) (D:=D 4) (H:=D 5*1+D 6*33554432+D 7*2251799813685248+D 8*75557863725914323419136+D 9*5070602400912917605986812821504) (e:=102) (o:=n - 102) (w:=26) ⟨by omega,by rw [show (2:Int) ^ 102=5070602400912917605986812821504 by decide];omega⟩ (by omega)
  rw [show 102+(n - 102)=n by omega,show (2:Int) ^ 102=5070602400912917605986812821504 by decide,show (2:Int) ^ 26=67108864 by decide] at key
  have hV:D 0+D 1*67108864+D 2*2251799813685248+D 3*151115727451828646838272+5070602400912917605986812821504*(D 4+67108864*(D 5*1+D 6*33554432+D 7*2251799813685248+D 8*75557863725914323419136+D 9*5070602400912917605986812821504))=gvF D:=by unfold gvF;omega
  rw [hV] at key
  exact ⟨hv.trans key.symm,fin _ hv⟩
 by_cases c5:n<153
 ·have hd:diG n=5:=by
   unfold diG
   rw [ble_n (a:=n+1) (b:=26) (by omega),ble_n (a:=n+1) (b:=51) (by omega),ble_n (a:=n+1) (b:=77) (by omega),ble_n (a:=n+1) (b:=102) (by omega),ble_n (a:=n+1) (b:=128) (by omega),Nat.ble_eq_true_of_le (show n+1≤153 by omega)]
   rfl
  have hv:=zbu (D:=D) (k:=n - 128) hd rfl (by omega) h5.1
  have key:=zbP (low:=D 0+D 1*67108864+D 2*2251799813685248+D 3*151115727451828646838272+D 4*5070602400912917605986812821504) (D:=D 5) (H:=D 6*1+D 7*67108864+D 8*2251799813685248+D 9*151115727451828646838272) (e:=128) (o:=n - 128) (w:=25) ⟨by omega,by rw [show (2:Int) ^ 128=340282366920938463463374607431768211456 by decide];omega⟩ (by omega)
  rw [show 128+(n - 128)=n by omega,show (2:Int) ^ 128=340282366920938463463374607431768211456 by decide,show (2:Int) ^ 25=33554432 by decide] at key
  have hV:D 0+D 1*67108864+D 2*2251799813685248+D 3*151115727451828646838272+D 4*5070602400912917605986812821504+340282366920938463463374607431768211456*(D 5+33554432*(D 6*1+D 7*67108864+D 8*2251799813685248+D 9*151115727451828646838272))=gvF D:=by unfold gvF;omega
  rw [hV] at key
  exact ⟨hv.trans key.symm,fin _ hv⟩
 by_cases c6:n<179
 ·have hd:diG n=6:=by
   unfold diG
   rw [ble_n (a:=n+1) (b:=26) (by omega),ble_n (a:=n+1) (b:=51) (by omega),ble_n (a:=n+1) (b:=77) (by omega),ble_n (a:=n+1) (b:=102) (by omega),ble_n (a:=n+1) (b:=128) (by omega),ble_n (a:=n+1) (b:=153) (by omega),Nat.ble_eq_true_of_le (show n+1≤179 by omega)]
   rfl
  have hv:=zbu (D:=D) (k:=n - 153) hd rfl (by omega) h6.1
  have key:=zbP (low:=D 0+D 1*67108864+D 2*2251799813685248+D 3*151115727451828646838272+D 4*5070602400912917605986812821504+D 5*340282366920938463463374607431768211456) (D:=D 6) (H:=D 7*1+D 8*33554432+D 9*2251799813685248) (e:=153) (o:=n - 153) (w:=26) ⟨by omega,by rw [show (2:Int) ^ 153=11417981541647679048466287755595961091061972992 by decide];omega⟩ (by omega)
  rw [show 153+(n - 153)=n by omega,show (2:Int) ^ 153=11417981541647679048466287755595961091061972992 by decide,show (2:Int) ^ 26=67108864 by decide] at key
  have hV:D 0+D 1*67108864+D 2*2251799813685248+D 3*151115727451828646838272+D 4*5070602400912917605986812821504+D 5*340282366920938463463374607431768211456+11417981541647679048466287755595961091061972992*(D 6+67108864*(D 7*1+D 8*33554432+D 9*2251799813685248))=gvF D:=by unfold gvF;omega
  rw [hV] at key
  exact ⟨hv.trans key.symm,fin _ hv⟩
 by_cases c7:n<204
 ·have hd:diG n=7:=by
   unfold diG
   rw [ble_n (a:=n+1) (b:=26) (by omega),ble_n (a:=n+1) (b:=51) (by omega),ble_n (a:=n+1) (b:=77) (by omega),ble_n (a:=n+1) (b:=102) (by omega),ble_n (a:=n+1) (b:=128) (by omega),ble_n (a:=n+1) (b:=153) (by omega),ble_n (a:=n+1) (b:=179) (by omega),Nat.ble_eq_true_of_le (show n+1≤204 by omega)]
   rfl
  have hv:=zbu (D:=D) (k:=n - 179) hd rfl (by omega) h7.1
  have key:=zbP (low:=D 0+D 1*67108864+D 2*2251799813685248+D 3*151115727451828646838272+D 4*5070602400912917605986812821504+D 5*340282366920938463463374607431768211456+D 6*11417981541647679048466287755595961091061972992) (D:=D 7) (H:=D 8*1+D 9*67108864) (e:=179) (o:=n - 179) (w:=25) ⟨by omega,by rw [show (2:Int) ^ 179=766247770432944429179173513575154591809369561091801088 by decide];omega⟩ (by omega)
  rw [show 179+(n - 179)=n by omega,show (2:Int) ^ 179=766247770432944429179173513575154591809369561091801088 by decide,show (2:Int) ^ 25=33554432 by decide] at key
  have hV:D 0+D 1*67108864+D 2*2251799813685248+D 3*151115727451828646838272+D 4*5070602400912917605986812821504+D 5*340282366920938463463374607431768211456+D 6*11417981541647679048466287755595961091061972992+766247770432944429179173513575154591809369561091801088*(D 7+33554432*(D 8*1+D 9*67108864))=gvF D:=by unfold gvF;omega
  rw [hV] at key
  exact ⟨hv.trans key.symm,fin _ hv⟩
 by_cases c8:n<230
 ·have hd:diG n=8:=by
   unfold diG
   rw [ble_n (a:=n+1) (b:=26) (by omega),ble_n (a:=n+1) (b:=51) (by omega),ble_n (a:=n+1) (b:=77) (by omega),ble_n (a:=n+1) (b:=102) (by omega),ble_n (a:=n+1) (b:=128) (by omega),ble_n (a:=n+1) (b:=153) (by omega),ble_n (a:=n+1) (b:=179) (by omega),ble_n (a:=n+1) (b:=204) (by omega),Nat.ble_eq_true_of_le (show n+1≤230 by omega)]
   rfl
  have hv:=zbu (D:=D) (k:=n - 204) hd rfl (by omega) h8.1
  have key:=zbP (low:=D 0+D 1*67108864+D 2*2251799813685248+D 3*151115727451828646838272+D 4*5070602400912917605986812821504+D 5*340282366920938463463374607431768211456+D 6*11417981541647679048466287755595961091061972992+D 7*766247770432944429179173513575154591809369561091801088) (D:=D 8) (H:=D 9*1) (e:=204) (o:=n - 204) (w:=26) ⟨by omega,by rw [show (2:Int) ^ 204=25711008708143844408671393477458601640355247900524685364822016 by decide];omega⟩ (by omega)
  rw [show 204+(n - 204)=n by omega,show (2:Int) ^ 204=25711008708143844408671393477458601640355247900524685364822016 by decide,show (2:Int) ^ 26=67108864 by decide] at key
  have hV:D 0+D 1*67108864+D 2*2251799813685248+D 3*151115727451828646838272+D 4*5070602400912917605986812821504+D 5*340282366920938463463374607431768211456+D 6*11417981541647679048466287755595961091061972992+D 7*766247770432944429179173513575154591809369561091801088+25711008708143844408671393477458601640355247900524685364822016*(D 8+67108864*(D 9*1))=gvF D:=by unfold gvF;omega
  rw [hV] at key
  exact ⟨hv.trans key.symm,fin _ hv⟩
 ·have hd:diG n=9:=by
   unfold diG
   rw [ble_n (a:=n+1) (b:=26) (by omega),ble_n (a:=n+1) (b:=51) (by omega),ble_n (a:=n+1) (b:=77) (by omega),ble_n (a:=n+1) (b:=102) (by omega),ble_n (a:=n+1) (b:=128) (by omega),ble_n (a:=n+1) (b:=153) (by omega),ble_n (a:=n+1) (b:=179) (by omega),ble_n (a:=n+1) (b:=204) (by omega),ble_n (a:=n+1) (b:=230) (by omega)]
   rfl
  have hv:=zbu (D:=D) (k:=n - 230) hd rfl (by omega) h9.1
  have key:=zbP (low:=D 0+D 1*67108864+D 2*2251799813685248+D 3*151115727451828646838272+D 4*5070602400912917605986812821504+D 5*340282366920938463463374607431768211456+D 6*11417981541647679048466287755595961091061972992+D 7*766247770432944429179173513575154591809369561091801088+D 8*25711008708143844408671393477458601640355247900524685364822016) (D:=D 9) (H:=0) (e:=230) (o:=n - 230) (w:=25) ⟨by omega,by rw [show (2:Int) ^ 230=1725436586697640946858688965569256363112777243042596638790631055949824 by decide];omega⟩ (by omega)
  rw [show 230+(n - 230)=n by omega,show (2:Int) ^ 230=1725436586697640946858688965569256363112777243042596638790631055949824 by decide,show (2:Int) ^ 25=33554432 by decide] at key
  have hV:D 0+D 1*67108864+D 2*2251799813685248+D 3*151115727451828646838272+D 4*5070602400912917605986812821504+D 5*340282366920938463463374607431768211456+D 6*11417981541647679048466287755595961091061972992+D 7*766247770432944429179173513575154591809369561091801088+D 8*25711008708143844408671393477458601640355247900524685364822016+1725436586697640946858688965569256363112777243042596638790631055949824*(D 9+33554432*(0))=gvF D:=by unfold gvF;omega
  rw [hV] at key
  exact ⟨hv.trans key.symm,fin _ hv⟩
theorem zeP {D:Nat→Int} (h:Cn D) (j:Nat):∀ r,r≤8→8*j+r≤255→byteG D j r=gvF D / 2 ^ (8*j) % 2 ^ r
 | 0,_,_=>by simp [byteG,Int.emod_one]
 | r+1,hr,hj=>by
  have ih:=zeP h j r (by omega) (by omega)
  obtain ⟨e1,e2⟩:=zqk h (n:=8*j+r) (by omega)
  have pp:(0:Int)<2 ^ r:=Int.pow_pos (by decide)
  unfold byteG
  rw [ih,zx1 (by omega) ⟨Int.emod_nonneg _ (Int.ne_of_gt pp),Int.emod_lt_of_pos _ pp⟩ e2,e1,zlo,Int.pow_add,← Int.ediv_ediv_of_nonneg (Int.le_of_lt (Int.pow_pos (by decide)))]
theorem zhD:∀ (n:Nat) (x:Int) (j:Nat),j<n→lf (byL n x) j=x / 256 ^ j % 256
 | 0,x,j,h=>by omega
 | n+1,x,0,h=>by show x % 256=_;simp
 | n+1,x,j+1,h=>by
  show lf (byL n (x / 256)) j=_
  rw [zhD n (x / 256) j (by omega),Int.pow_succ',← Int.ediv_ediv_of_nonneg (by decide)]
theorem zdc {f g:Nat→Int}:∀ (n j:Nat),(∀ c,c<n→f (j+c)=g (j+c))→tabL f n j=tabL g n j
 | 0,_,_=>rfl
 | n+1,j,h=>by
  simp only [tabL]
  have h0:=h 0 (by omega)
  rw [Nat.add_zero] at h0
  have e:tabL f n (j+1)=tabL g n (j+1):=zdc n (j+1) fun c hc=>by
   have:=h (c+1) (by omega)
   rwa [show j+(c+1)=j+1+c by omega] at this
  rw [h0,e]
theorem zli {D:Nat→Int} (h:Cn D):outG D=byL 32 (gvF D):=by
 obtain ⟨r0,r1⟩:=h.range
 have e:tabL (lf (byL 32 (gvF D))) 32 0=byL 32 (gvF D):=zoW (zb9 _ _)
 rw [← e]
 refine zdc 32 0 fun c hc=>?_
 rw [Nat.zero_add,zhD 32 _ c hc,show (256:Int)=2 ^ 8 by decide,← Int.pow_mul]
 by_cases q:c=31
 ·subst q
  show byteG D 31 7=_
  rw [zeP h 31 7 (by omega) (by omega)]
  have:gvF D / 2 ^ (8*31)<128:=by
   rw [show (2:Int) ^ (8*31)=452312848583266388373324160190187140051835877600158453279131187530910662656 by decide]
   omega
  have h0:0≤gvF D / 2 ^ (8*31):=Int.ediv_nonneg r0 (Int.le_of_lt (Int.pow_pos (by decide)))
  generalize gvF D / 2 ^ (8*31)=y at *
  rw [show (2:Int) ^ 7=128 by decide,show (2:Int) ^ 8=256 by decide]
  omega
 ·have hb:Nat.beq c 31=false:=by
   cases hb:Nat.beq c 31 with
   | false=>rfl
   | true=>exact absurd (Nat.eq_of_beq_eq_true hb) q
  show byteG D c (bif Nat.beq c 31 then 7 else 8)=_
  rw [hb]
  exact zeP h c 8 (by omega) (by omega)
end Go.AM
namespace Go.AM
open Go
def sl26 (x:Int):Int:=wi (x - ishl .i64 (sh26 x) 26)
def sl25 (x:Int):Int:=wi (x - ishl .i64 (sh25 x) 25)
structure XG where
 y:Nat→Int
 g:Bool
def xG (A:Nat→Int):XG :=
 let x0:=wi (A 0+19)
 let x1:=wi (A 1+sh26 x0)
 let x2:=wi (A 2+sh25 x1)
 let x3:=wi (A 3+sh26 x2)
 let x4:=wi (A 4+sh25 x3)
 let x5:=wi (A 5+sh26 x4)
 let x6:=wi (A 6+sh25 x5)
 let x7:=wi (A 7+sh26 x6)
 let x8:=wi (A 8+sh25 x7)
 let x9:=wi (A 9+sh26 x8)
 ⟨lf [sl26 x0,sl25 x1,sl26 x2,sl25 x3,sl26 x4,sl25 x5,sl26 x6,sl25 x7,sl26 x8,mk25 x9],decide (sh25 x9 > 0)⟩
theorem zde {x:Int} (h:0≤x∧x<1073741824):sl26 x=x % 67108864:=by
 have e:ishl .i64 (sh26 x) 26=x / 67108864*67108864:=by
  show wr .i64 (sh26 x*2 ^ (min (26:Int).toNat 64))=_
  rw [zgW]
  exact zcz (x:=x / 67108864*67108864) (by omega) (by omega)
 unfold sl26
 rw [e,wi_id (by omega)]
 omega
theorem zev {x:Int} (h:0≤x∧x<1073741824):sl25 x=x % 33554432:=by
 have e:ishl .i64 (sh25 x) 25=x / 33554432*33554432:=by
  show wr .i64 (sh25 x*2 ^ (min (25:Int).toNat 64))=_
  rw [zgK]
  exact zcz (x:=x / 33554432*33554432) (by omega) (by omega)
 unfold sl25
 rw [e,wi_id (by omega)]
 omega
theorem zv9 {A:Nat→Int} (h:Cn A):(xG A).g=decide (57896044618658097711785492504343953926634992332820282019728792003956564819968≤gvF A+19)∧((xG A).g=true→Cn (xG A).y∧gvF (xG A).y=gvF A % pP)∧((xG A).g=false→gvF A=gvF A % pP):=by
 have hr:=h.range
 obtain ⟨h0,h1,h2,h3,h4,h5,h6,h7,h8,h9⟩:=h
 unfold xG
 dsimp only
 unfold gvF at *
 simp only [zgW,zgK]
 generalize A 0=a0 at *
 generalize A 1=a1 at *
 generalize A 2=a2 at *
 generalize A 3=a3 at *
 generalize A 4=a4 at *
 generalize A 5=a5 at *
 generalize A 6=a6 at *
 generalize A 7=a7 at *
 generalize A 8=a8 at *
 generalize A 9=a9 at *
 have w0:wi (a0+19)=a0+19:=wi_id (by omega)
 rw [w0]
 obtain ⟨x0,e0⟩:∃ x,a0+19=x:=⟨_,rfl⟩
 rw [e0]
 have b0:0≤x0∧x0<67108864+19:=by omega
 obtain ⟨c0,r0,f0,g0,k0⟩:∃ c r,x0 / 67108864=c∧x0 % 67108864=r∧x0=67108864*c+r:=⟨_,_,rfl,rfl,by omega⟩
 have bc0:0≤c0∧c0≤1∧0≤r0∧r0<67108864:=by clear hr;omega
 rw [f0]
 rw [wi_id (x:=a1+c0) (by clear hr;omega)]
 obtain ⟨x1,e1⟩:∃ x,a1+c0=x:=⟨_,rfl⟩
 rw [e1]
 have b1:0≤x1∧x1≤33554432:=by clear hr;omega
 obtain ⟨c1,r1,f1,g1,k1⟩:∃ c r,x1 / 33554432=c∧x1 % 33554432=r∧x1=33554432*c+r:=⟨_,_,rfl,rfl,by omega⟩
 have bc1:0≤c1∧c1≤1∧0≤r1∧r1<33554432:=by clear hr;omega
 rw [f1]
 rw [wi_id (x:=a2+c1) (by clear hr;omega)]
 obtain ⟨x2,e2⟩:∃ x,a2+c1=x:=⟨_,rfl⟩
 rw [e2]
 have b2:0≤x2∧x2≤67108864:=by clear hr;omega
 obtain ⟨c2,r2,f2,g2,k2⟩:∃ c r,x2 / 67108864=c∧x2 % 67108864=r∧x2=67108864*c+r:=⟨_,_,rfl,rfl,by omega⟩
 have bc2:0≤c2∧c2≤1∧0≤r2∧r2<67108864:=by clear hr;omega
 rw [f2]
 rw [wi_id (x:=a3+c2) (by clear hr;omega)]
 obtain ⟨x3,e3⟩:∃ x,a3+c2=x:=⟨_,rfl⟩
 rw [e3]
 have b3:0≤x3∧x3≤33554432:=by clear hr;omega
 obtain ⟨c3,r3,f3,g3,k3⟩:∃ c r,x3 / 33554432=c∧x3 % 33554432=r∧x3=33554432*c+r:=⟨_,_,rfl,rfl,by omega⟩
 have bc3:0≤c3∧c3≤1∧0≤r3∧r3<33554432:=by clear hr;omega
 rw [f3]
 rw [wi_id (x:=a4+c3) (by clear hr;omega)]
 obtain ⟨x4,e4⟩:∃ x,a4+c3=x:=⟨_,rfl⟩
 rw [e4]
 have b4:0≤x4∧x4≤67108864:=by clear hr;omega
 obtain ⟨c4,r4,f4,g4,k4⟩:∃ c r,x4 / 67108864=c∧x4 % 67108864=r∧x4=67108864*c+r:=⟨_,_,rfl,rfl,by omega⟩
 have bc4:0≤c4∧c4≤1∧0≤r4∧r4<67108864:=by clear hr;omega
 rw [f4]
 rw [wi_id (x:=a5+c4) (by clear hr;omega)]
 obtain ⟨x5,e5⟩:∃ x,a5+c4=x:=⟨_,rfl⟩
 rw [e5]
 have b5:0≤x5∧x5≤33554432:=by clear hr;omega
 obtain ⟨c5,r5,f5,g5,k5⟩:∃ c r,x5 / 33554432=c∧x5 % 33554432=r∧x5=33554432*c+r:=⟨_,_,rfl,rfl,by omega⟩
 have bc5:0≤c5∧c5≤1∧0≤r5∧r5<33554432:=by clear hr;omega
 rw [f5]
 rw [wi_id (x:=a6+c5) (by clear hr;omega)]
 obtain ⟨x6,e6⟩:∃ x,a6+c5=x:=⟨_,rfl⟩
 rw [e6]
 have b6:0≤x6∧x6≤67108864:=by clear hr;omega
 obtain ⟨c6,r6,f6,g6,k6⟩:∃ c r,x6 / 67108864=c∧x6 % 67108864=r∧x6=67108864*c+r:=⟨_,_,rfl,rfl,by omega⟩
 have bc6:0≤c6∧c6≤1∧0≤r6∧r6<67108864:=by clear hr;omega
 rw [f6]
 rw [wi_id (x:=a7+c6) (by clear hr;omega)]
 obtain ⟨x7,e7⟩:∃ x,a7+c6=x:=⟨_,rfl⟩
 rw [e7]
 have b7:0≤x7∧x7≤33554432:=by clear hr;omega
 obtain ⟨c7,r7,f7,g7,k7⟩:∃ c r,x7 / 33554432=c∧x7 % 33554432=r∧x7=33554432*c+r:=⟨_,_,rfl,rfl,by omega⟩
 have bc7:0≤c7∧c7≤1∧0≤r7∧r7<33554432:=by clear hr;omega
 rw [f7]
 rw [wi_id (x:=a8+c7) (by clear hr;omega)]
 obtain ⟨x8,e8⟩:∃ x,a8+c7=x:=⟨_,rfl⟩
 rw [e8]
 have b8:0≤x8∧x8≤67108864:=by clear hr;omega
 obtain ⟨c8,r8,f8,g8,k8⟩:∃ c r,x8 / 67108864=c∧x8 % 67108864=r∧x8=67108864*c+r:=⟨_,_,rfl,rfl,by omega⟩
 have bc8:0≤c8∧c8≤1∧0≤r8∧r8<67108864:=by clear hr;omega
 rw [f8]
 rw [wi_id (x:=a9+c8) (by clear hr;omega)]
 obtain ⟨x9,e9⟩:∃ x,a9+c8=x:=⟨_,rfl⟩
 rw [e9]
 have b9:0≤x9∧x9≤33554432:=by clear hr;omega
 obtain ⟨c9,r9,f9,g9,k9⟩:∃ c r,x9 / 33554432=c∧x9 % 33554432=r∧x9=33554432*c+r:=⟨_,_,rfl,rfl,by omega⟩
 have bc9:0≤c9∧c9≤1∧0≤r9∧r9<33554432:=by clear hr;omega
 rw [f9]
 rw [zkr,g9]
 rw [zde (x:=x0) (by clear hr;omega),g0]
 rw [zev (x:=x1) (by clear hr;omega),g1]
 rw [zde (x:=x2) (by clear hr;omega),g2]
 rw [zev (x:=x3) (by clear hr;omega),g3]
 rw [zde (x:=x4) (by clear hr;omega),g4]
 rw [zev (x:=x5) (by clear hr;omega),g5]
 rw [zde (x:=x6) (by clear hr;omega),g6]
 rw [zev (x:=x7) (by clear hr;omega),g7]
 rw [zde (x:=x8) (by clear hr;omega),g8]
 have tot:a0+a1*67108864+a2*2251799813685248+a3*151115727451828646838272+a4*5070602400912917605986812821504+a5*340282366920938463463374607431768211456+a6*11417981541647679048466287755595961091061972992+a7*766247770432944429179173513575154591809369561091801088+a8*25711008708143844408671393477458601640355247900524685364822016+a9*1725436586697640946858688965569256363112777243042596638790631055949824+19=(r0+r1*67108864+r2*2251799813685248+r3*151115727451828646838272+r4*5070602400912917605986812821504+r5*340282366920938463463374607431768211456+r6*11417981541647679048466287755595961091061972992+r7*766247770432944429179173513575154591809369561091801088+r8*25711008708143844408671393477458601640355247900524685364822016+r9*1725436586697640946858688965569256363112777243042596638790631055949824)+57896044618658097711785492504343953926634992332820282019728792003956564819968*c9:=by
  clear f0 f1 f2 f3 f4 f5 f6 f7 f8 f9 g0 g1 g2 g3 g4 g5 g6 g7 g8 g9 w0 hr
  omega
 have hR:0≤r0+r1*67108864+r2*2251799813685248+r3*151115727451828646838272+r4*5070602400912917605986812821504+r5*340282366920938463463374607431768211456+r6*11417981541647679048466287755595961091061972992+r7*766247770432944429179173513575154591809369561091801088+r8*25711008708143844408671393477458601640355247900524685364822016+r9*1725436586697640946858688965569256363112777243042596638790631055949824∧r0+r1*67108864+r2*2251799813685248+r3*151115727451828646838272+r4*5070602400912917605986812821504+r5*340282366920938463463374607431768211456+r6*11417981541647679048466287755595961091061972992+r7*766247770432944429179173513575154591809369561091801088+r8*25711008708143844408671393477458601640355247900524685364822016+r9*1725436586697640946858688965569256363112777243042596638790631055949824<57896044618658097711785492504343953926634992332820282019728792003956564819968:=by
  clear tot k0 k1 k2 k3 k4 k5 k6 k7 k8 k9 f0 f1 f2 f3 f4 f5 f6 f7 f8 f9 g0 g1 g2 g3 g4 g5 g6 g7 g8 g9 w0 hr e0 e1 e2 e3 e4 e5 e6 e7 e8 e9
  omega
 have hcn:Cn (lf [r0,r1,r2,r3,r4,r5,r6,r7,r8,r9]):=⟨⟨bc0.2.2.1,bc0.2.2.2⟩,⟨bc1.2.2.1,bc1.2.2.2⟩,⟨bc2.2.2.1,bc2.2.2.2⟩,⟨bc3.2.2.1,bc3.2.2.2⟩,⟨bc4.2.2.1,bc4.2.2.2⟩,⟨bc5.2.2.1,bc5.2.2.2⟩,⟨bc6.2.2.1,bc6.2.2.2⟩,⟨bc7.2.2.1,bc7.2.2.2⟩,⟨bc8.2.2.1,bc8.2.2.2⟩,⟨bc9.2.2.1,bc9.2.2.2⟩⟩
 simp only [lf]
 have bc:0≤c9∧c9≤1:=⟨bc9.1,bc9.2.1⟩
 clear k0 k1 k2 k3 k4 k5 k6 k7 k8 k9 f0 f1 f2 f3 f4 f5 f6 f7 f8 f9 g0 g1 g2 g3 g4 g5 g6 g7 g8 g9 w0 e0 e1 e2 e3 e4 e5 e6 e7 e8 e9 bc0 bc1 bc2 bc3 bc4 bc5 bc6 bc7 bc8 bc9 b0 b1 b2 b3 b4 b5 b6 b7 b8 b9 h0 h1 h2 h3 h4 h5 h6 h7 h8 h9
 generalize a0+a1*67108864+a2*2251799813685248+a3*151115727451828646838272+a4*5070602400912917605986812821504+a5*340282366920938463463374607431768211456+a6*11417981541647679048466287755595961091061972992+a7*766247770432944429179173513575154591809369561091801088+a8*25711008708143844408671393477458601640355247900524685364822016+a9*1725436586697640946858688965569256363112777243042596638790631055949824=v at *
 generalize r0+r1*67108864+r2*2251799813685248+r3*151115727451828646838272+r4*5070602400912917605986812821504+r5*340282366920938463463374607431768211456+r6*11417981541647679048466287755595961091061972992+r7*766247770432944429179173513575154591809369561091801088+r8*25711008708143844408671393477458601640355247900524685364822016+r9*1725436586697640946858688965569256363112777243042596638790631055949824=r at *
 refine ⟨?_,fun hg=>⟨hcn,?_⟩,fun hg=>?_⟩
 ·by_cases q:c9 > 0
  ·rw [decide_eq_true q,decide_eq_true (by omega)]
  ·rw [decide_eq_false q,decide_eq_false (by omega)]
 ·have hg:=of_decide_eq_true hg
  have e:v=r+1*pP:=by unfold pP;omega
  rw [e,Int.add_mul_emod_self_right,Int.emod_eq_of_lt hR.1 (by unfold pP;omega)]
 ·have hg:=of_decide_eq_false hg
  rw [Int.emod_eq_of_lt hr.1 (by unfold pP;omega)]
end Go.AM
namespace Go.AM
theorem zgo:∀ (N:Nat) (f:Nat→Nat),(∀ i,i<N→f i<N)→(∀ i,i<N→∀ j,j<N→f i=f j→i=j)→∀ y,y<N→∃ i,i<N∧f i=y
 | 0,_,_,_,y,hy=>absurd hy (Nat.not_lt_zero y)
 | N+1,f,hr,hi,y,hy=>by
  have hz:∀ i,i<N→f i≠f N:=fun i h e=>by
   have:=hi i (by omega) N (by omega) e
   omega
  have hzN:=hr N (by omega)
  let g:Nat→Nat:=fun i=>if f i=N then f N else f i
  have gr:∀ i,i<N→g i<N:=fun i h=>by
   show (if f i=N then f N else f i)<N
   have h1:=hr i (by omega)
   have h2:=hz i h
   split <;> omega
  have gi:∀ i,i<N→∀ j,j<N→g i=g j→i=j:=fun i h j h' e=>by
   have e:(if f i=N then f N else f i)=(if f j=N then f N else f j):=e
   have h2:=hz i h
   have h3:=hz j h'
   by_cases p:f i=N
   ·by_cases q:f j=N
    ·exact hi i (by omega) j (by omega) (p.trans q.symm)
    ·rw [if_pos p,if_neg q] at e;exact absurd e.symm h3
   ·by_cases q:f j=N
    ·rw [if_neg p,if_pos q] at e;exact absurd e h2
    ·rw [if_neg p,if_neg q] at e;exact hi i (by omega) j (by omega) e
  by_cases hyz:y=f N
  ·exact ⟨N,by omega,hyz.symm⟩
  ·by_cases hyN:y=N
   ·obtain ⟨i,h,e⟩:=zgo N g gr gi (f N) (by omega)
    have e:(if f i=N then f N else f i)=f N:=e
    by_cases p:f i=N
    ·exact ⟨i,by omega,p.trans hyN.symm⟩
    ·rw [if_neg p] at e;exact absurd e (hz i h)
   ·obtain ⟨i,h,e⟩:=zgo N g gr gi y (by omega)
    have e:(if f i=N then f N else f i)=y:=e
    by_cases p:f i=N
    ·rw [if_pos p] at e;exact absurd e.symm hyz
    ·rw [if_neg p] at e;exact ⟨i,by omega,e⟩
def IsPr (n:Nat):Prop:=2≤n∧∀ m,m ∣ n→m=1 ∨ m=n
def prodL:List Nat→Nat
 | []=>1
 | q::l=>q*prodL l
theorem ziu:∀ (L:List Nat),(∀ q ∈ L,IsPr q)→∀ m,1<m→m ∣ prodL L→∃ q ∈ L,q ∣ m
 | [],_,m,hm,hd=>by
  have:=Nat.le_of_dvd (by decide) hd
  simp only [prodL] at this;omega
 | q::L,hL,m,hm,hd=>by
  by_cases hq:q ∣ m
  ·exact ⟨q,by simp,hq⟩
  ·have hg:Nat.gcd m q=1:=by
    rcases (hL q (by simp)).2 _ (Nat.gcd_dvd_right m q) with h | h
    ·exact h
    ·exact absurd (h ▸ Nat.gcd_dvd_left m q) hq
   have hd':m ∣ prodL L:=Nat.Coprime.dvd_of_dvd_mul_left hg hd
   obtain ⟨r,hr,hr'⟩:=ziu L (fun r hr=>hL r (by simp [hr])) m hm hd'
   exact ⟨r,by simp [hr],hr'⟩
theorem zcn (n a u v:Nat):a ^ (u+v) % n=(a ^ u % n)*(a ^ v % n) % n:=by
 rw [Nat.pow_add,Nat.mul_mod]
theorem zc4 {n a u:Nat} (hn:2≤n) (h:a ^ u % n=1) (k:Nat):a ^ (u*k) % n=1:=by
 rw [Nat.pow_mul,Nat.pow_mod,h,Nat.one_pow,Nat.mod_eq_of_lt (by omega)]
theorem zi6 {n a:Nat} (hn:2≤n):∀ u v,a ^ u % n=1→a ^ v % n=1→a ^ (Nat.gcd u v) % n=1:=by
 intro u v
 induction u,v using Nat.gcd.induction with
 | H0 v=>intro _ h;rwa [Nat.gcd_zero_left]
 | H1 u v _ ih =>
  intro hu hv
  rw [Nat.gcd_rec]
  refine ih ?_ hu
  have e:=zcn n a (u*(v / u)) (v % u)
  rw [Nat.div_add_mod,hv,zc4 hn hu,Nat.one_mul,Nat.mod_mod] at e
  exact e.symm
theorem lucas {n a:Nat} {L:List Nat} (hn:2≤n) (hL:∀ q ∈ L,IsPr q) (hp:prodL L=n - 1) (h1:a ^ (n - 1) % n=1) (hq:∀ q ∈ L,a ^ ((n - 1) / q) % n≠1) :
  IsPr n∧(∀ x,x % n≠0→∃ i,i<n - 1∧x % n=a ^ i % n)∧∀ x,x % n≠0→x ^ (n - 1) % n=1:=by
 have ord:∀ k,0<k→k<n - 1→a ^ k % n≠1:=fun k h0 hk h=>by
  have hg:=zi6 hn k (n - 1) h h1
  have hd:=Nat.gcd_dvd_right k (n - 1)
  have hle:Nat.gcd k (n - 1)≤k:=Nat.le_of_dvd h0 (Nat.gcd_dvd_left k (n - 1))
  have hpos:0<Nat.gcd k (n - 1):=Nat.gcd_pos_of_pos_left _ h0
  generalize Nat.gcd k (n - 1)=g at *
  obtain ⟨m,hm⟩:=hd
  have hm1:1<m:=by
   rcases m with _ | _ | m
   ·simp at hm;omega
   ·simp at hm;omega
   ·omega
  obtain ⟨q,hqL,hqm⟩:=ziu L hL m hm1 (by rw [hp,hm];exact Nat.dvd_mul_left m g)
  obtain ⟨r,hr⟩:=hqm
  have hq0:0<q:=by have:=(hL q hqL).1;omega
  have e:(n - 1) / q=g*r:=by
   rw [hm,hr,show g*(q*r)=q*(g*r) by rw [Nat.mul_left_comm],Nat.mul_div_cancel_left _ hq0]
  exact hq q hqL (by rw [e];exact zc4 hn hg r)
 have inv:∀ i,i≤n - 1→(a ^ i % n)*(a ^ (n - 1 - i) % n) % n=1:=fun i hi=>by
  rw [← zcn,show i+(n - 1 - i)=n - 1 by omega,h1]
 have inj:∀ i j,i<j→j<n - 1→a ^ i % n≠a ^ j % n:=fun i j hij hj e=>by
  have e1:=inv i (by omega)
  rw [e,← zcn,show j+(n - 1 - i)=(j - i)+(n - 1) by omega,zcn,h1,Nat.mul_one,Nat.mod_mod] at e1
  exact ord (j - i) (by omega) (by omega) e1
 have nz:∀ i,i<n - 1→0<a ^ i % n:=fun i hi=>by
  rcases Nat.eq_zero_or_pos (a ^ i % n) with h | h
  ·have e1:=inv i (by omega)
   rw [h,Nat.zero_mul,Nat.zero_mod] at e1;omega
  ·exact h
 have sur:∀ x,x % n≠0→∃ i,i<n - 1∧x % n=a ^ i % n:=fun x hx=>by
  have hxn:=Nat.mod_lt x (show 0<n by omega)
  obtain ⟨i,hi,e⟩:=zgo (n - 1) (fun i=>a ^ i % n - 1) (fun i hi=>by
   have:=Nat.mod_lt (a ^ i) (show 0<n by omega)
   have:=nz i hi
   show a ^ i % n - 1<n - 1
   omega) (fun i hi j hj e=>by
   have e:a ^ i % n - 1=a ^ j % n - 1:=e
   have hi':=nz i hi
   have hj':=nz j hj
   rcases Nat.lt_trichotomy i j with h | h | h
   ·exact absurd (by omega) (inj i j h hj)
   ·exact h
   ·exact absurd (by omega) (inj j i h hi)) (x % n - 1) (by omega)
  have e:a ^ i % n - 1=x % n - 1:=e
  have:=nz i hi
  exact ⟨i,hi,by omega⟩
 refine ⟨⟨hn,fun m hm=>?_⟩,sur,fun x hx=>?_⟩
 ·have hle:=Nat.le_of_dvd (by omega) hm
  by_cases hmn:m=n
  ·exact Or.inr hmn
  ·left
   have hm0:m≠0:=fun h=>by rw [h] at hm;have:=Nat.eq_zero_of_zero_dvd hm;omega
   have hmm:m % n=m:=Nat.mod_eq_of_lt (by omega)
   obtain ⟨i,hi,e⟩:=sur m (by omega)
   have e1:=inv i (by omega)
   rw [← e,hmm] at e1
   have e2:m*(a ^ (n - 1 - i) % n)=n*(m*(a ^ (n - 1 - i) % n) / n)+1:=by
    have:=Nat.div_add_mod (m*(a ^ (n - 1 - i) % n)) n
    omega
   have d1:m ∣ n*(m*(a ^ (n - 1 - i) % n) / n):=Nat.dvd_trans hm (Nat.dvd_mul_right _ _)
   have d2:m ∣ n*(m*(a ^ (n - 1 - i) % n) / n)+1:=e2 ▸ Nat.dvd_mul_right _ _
   exact Nat.dvd_one.1 ((Nat.dvd_add_right d1).1 d2)
 ·obtain ⟨i,hi,e⟩:=sur x hx
  rw [Nat.pow_mod,e,← Nat.pow_mod,← Nat.pow_mul,Nat.mul_comm]
  exact zc4 hn h1 i
def pm (n:Nat):Nat→Nat→Nat→Nat
 | 0,_,_=>1
 | f+1,a,e=>bif Nat.beq (e % 2) 1 then a*pm n f (a*a % n) (e / 2) % n else pm n f (a*a % n) (e / 2)
theorem zjZ (n:Nat):∀ (f a e:Nat),e<2 ^ f→pm n f a e % n=a ^ e % n
 | 0,a,e,h=>by
  have:e=0:=by simpa using h
  subst this;rfl
 | f+1,a,e,h=>by
  have ih:=zjZ n f (a*a % n) (e / 2) (by rw [Nat.pow_succ] at h;omega)
  have e1:(a*a % n) ^ (e / 2) % n=a ^ (2*(e / 2)) % n:=by
   rw [← Nat.pow_mod,Nat.pow_mul,Nat.pow_two]
  rw [e1] at ih
  unfold pm
  cases hb:Nat.beq (e % 2) 1 with
  | true =>
   have h2:e % 2=1:=Nat.eq_of_beq_eq_true hb
   show a*pm n f (a*a % n) (e / 2) % n % n=_
   rw [Nat.mod_mod,Nat.mul_mod,ih,← Nat.mul_mod,← Nat.pow_succ',show (2*(e / 2)).succ=e by omega]
  | false =>
   have h2:e % 2≠1:=fun h=>by rw [h] at hb;cases hb
   show pm n f (a*a % n) (e / 2) % n=_
   rw [ih,show 2*(e / 2)=e by omega]
theorem zao {n a:Nat} {L:List Nat} (hL:∀ q ∈ L,IsPr q) (h:(Nat.ble 2 n&&Nat.ble n (2 ^ 256)&&Nat.beq (prodL L) (n - 1)&&Nat.beq (pm n 256 a (n - 1) % n) 1&&L.all fun q=>!Nat.beq (pm n 256 a ((n - 1) / q) % n) 1)=true) :
  IsPr n∧(∀ x,x % n≠0→∃ i,i<n - 1∧x % n=a ^ i % n)∧∀ x,x % n≠0→x ^ (n - 1) % n=1:=by
 simp only [Bool.and_eq_true,Nat.ble_eq,Nat.beq_eq,List.all_eq_true,Bool.not_eq_true'] at h
 obtain ⟨⟨⟨⟨hn,hs⟩,hp⟩,h1⟩,hq⟩:=h
 refine lucas hn hL hp ?_ fun q hqL=>?_
 ·rw [← zjZ n 256 a (n - 1) (by omega)];exact h1
 ·have:=hq q hqL
  rw [← zjZ n 256 a ((n - 1) / q) (by have:=Nat.div_le_self (n - 1) q;omega)]
  exact fun e=>by rw [e] at this;cases this
end Go.AM
namespace Go.AM
def Full (n a:Nat):Prop:=IsPr n∧(∀ x,x % n≠0→∃ i,i<n - 1∧x % n=a ^ i % n)∧∀ x,x % n≠0→x ^ (n - 1) % n=1
theorem zaw {n:Nat} (h:(Nat.ble 2 n&&(List.range (n+1)).all fun m=>!Nat.beq (n % m) 0 || (Nat.beq m 1 || Nat.beq m n))=true):IsPr n:=by
 simp only [Bool.and_eq_true,Nat.ble_eq,List.all_eq_true,Bool.or_eq_true,Bool.not_eq_true',Nat.beq_eq] at h
 obtain ⟨h2,ha⟩:=h
 refine ⟨h2,fun m hm=>?_⟩
 have hle:=Nat.le_of_dvd (by omega) hm
 rcases ha m (List.mem_range.2 (by omega)) with q | q
 ·rw [Nat.mod_eq_zero_of_dvd hm] at q;cases q
 ·exact q
theorem zar:∀ q ∈ ([]:List Nat),IsPr q:=fun q h=>by cases h
theorem zaa {q:Nat} {L:List Nat} (h:IsPr q) (hL:∀ q ∈ L,IsPr q):∀ r ∈ q::L,IsPr r:=fun r hr=>by
 rcases List.mem_cons.1 hr with e | e
 ·rw [e];exact h
 ·exact hL r e
theorem pr_2:IsPr 2:=zaw (by decide +kernel)
theorem pr_3:IsPr 3:=zaw (by decide +kernel)
theorem pr_17:IsPr 17:=zaw (by decide +kernel)
theorem zwO:IsPr 479:=zaw (by decide +kernel)
theorem zrg:IsPr 32573:=(zao (a:=2) (L:=[2,2,17,479]) (zaa pr_2 (zaa pr_2 (zaa pr_17 (zaa zwO (zar))))) (by decide +kernel)).1
theorem zsk:IsPr 65147:=(zao (a:=2) (L:=[2,32573]) (zaa pr_2 (zaa zrg (zar))) (by decide +kernel)).1
theorem zyP:IsPr 353:=zaw (by decide +kernel)
theorem pr_59:IsPr 59:=zaw (by decide +kernel)
theorem zxH:IsPr 487:=zaw (by decide +kernel)
theorem zq9:IsPr 57467:=(zao (a:=2) (L:=[2,59,487]) (zaa pr_2 (zaa pr_59 (zaa zxH (zar)))) (by decide +kernel)).1
theorem pr_7:IsPr 7:=zaw (by decide +kernel)
theorem zze:IsPr 131:=zaw (by decide +kernel)
theorem zn1:IsPr 132049:=(zao (a:=26) (L:=[2,2,2,2,3,3,7,131]) (zaa pr_2 (zaa pr_2 (zaa pr_2 (zaa pr_2 (zaa pr_3 (zaa pr_3 (zaa pr_7 (zaa zze (zar))))))))) (by decide +kernel)).1
theorem pr_43:IsPr 43:=zaw (by decide +kernel)
theorem pr_23:IsPr 23:=zaw (by decide +kernel)
theorem zuy:IsPr 3727:=(zao (a:=3) (L:=[2,3,3,3,3,23]) (zaa pr_2 (zaa pr_3 (zaa pr_3 (zaa pr_3 (zaa pr_3 (zaa pr_23 (zar))))))) (by decide +kernel)).1
theorem zlH:IsPr 1923133:=(zao (a:=2) (L:=[2,2,3,43,3727]) (zaa pr_2 (zaa pr_2 (zaa pr_3 (zaa pr_43 (zaa zuy (zar)))))) (by decide +kernel)).1
theorem pr_31:IsPr 31:=zaw (by decide +kernel)
theorem zwm:IsPr 107:=zaw (by decide +kernel)
theorem zxo:IsPr 223:=zaw (by decide +kernel)
theorem zwn:IsPr 173:=zaw (by decide +kernel)
theorem zu3:IsPr 4153:=(zao (a:=5) (L:=[2,2,2,3,173]) (zaa pr_2 (zaa pr_2 (zaa pr_2 (zaa pr_3 (zaa zwn (zar)))))) (by decide +kernel)).1
theorem pr_5:IsPr 5:=zaw (by decide +kernel)
theorem pr_41:IsPr 41:=zaw (by decide +kernel)
theorem znJ:IsPr 1723:=(zao (a:=3) (L:=[2,3,7,41]) (zaa pr_2 (zaa pr_3 (zaa pr_7 (zaa pr_41 (zar))))) (by decide +kernel)).1
theorem zoH:IsPr 430751:=(zao (a:=17) (L:=[2,5,5,5,1723]) (zaa pr_2 (zaa pr_5 (zaa pr_5 (zaa pr_5 (zaa znJ (zar)))))) (by decide +kernel)).1
theorem zcW:IsPr 31757755568855353:=(zao (a:=10) (L:=[2,2,2,3,31,107,223,4153,430751]) (zaa pr_2 (zaa pr_2 (zaa pr_2 (zaa pr_3 (zaa pr_31 (zaa zwm (zaa zxo (zaa zu3 (zaa zoH (zar)))))))))) (by decide +kernel)).1
theorem pr_19:IsPr 19:=zaw (by decide +kernel)
theorem pr_83:IsPr 83:=zaw (by decide +kernel)
theorem zvK:IsPr 9463:=(zao (a:=3) (L:=[2,3,19,83]) (zaa pr_2 (zaa pr_3 (zaa pr_19 (zaa pr_83 (zar))))) (by decide +kernel)).1
theorem zqu:IsPr 37853:=(zao (a:=2) (L:=[2,2,9463]) (zaa pr_2 (zaa pr_2 (zaa zvK (zar)))) (by decide +kernel)).1
theorem zr6:IsPr 75707:=(zao (a:=2) (L:=[2,37853]) (zaa pr_2 (zaa zqu (zar))) (by decide +kernel)).1
theorem pr_13:IsPr 13:=zaw (by decide +kernel)
theorem pr_29:IsPr 29:=zaw (by decide +kernel)
theorem zuY:IsPr 2437:=(zao (a:=2) (L:=[2,2,3,7,29]) (zaa pr_2 (zaa pr_2 (zaa pr_3 (zaa pr_7 (zaa pr_29 (zar)))))) (by decide +kernel)).1
theorem pr_97:IsPr 97:=zaw (by decide +kernel)
theorem zyB:IsPr 419:=zaw (by decide +kernel)
theorem zoD:IsPr 569003:=(zao (a:=2) (L:=[2,7,97,419]) (zaa pr_2 (zaa pr_7 (zaa pr_97 (zaa zyB (zar))))) (by decide +kernel)).1
theorem zgI:IsPr 2773320623:=(zao (a:=5) (L:=[2,2437,569003]) (zaa pr_2 (zaa zuY (zaa zoD (zar)))) (by decide +kernel)).1
theorem zfF:IsPr 72106336199:=(zao (a:=7) (L:=[2,13,2773320623]) (zaa pr_2 (zaa pr_13 (zaa zgI (zar)))) (by decide +kernel)).1
theorem pr_47:IsPr 47:=zaw (by decide +kernel)
theorem zwE:IsPr 127:=zaw (by decide +kernel)
theorem zx7:IsPr 103:=zaw (by decide +kernel)
theorem zv4:IsPr 991:=zaw (by decide +kernel)
theorem zmm:IsPr 8574133:=(zao (a:=2) (L:=[2,2,3,7,103,991]) (zaa pr_2 (zaa pr_2 (zaa pr_3 (zaa pr_7 (zaa zx7 (zaa zv4 (zar))))))) (by decide +kernel)).1
theorem zcY:IsPr 1919519569386763:=(zao (a:=2) (L:=[2,3,7,19,47,47,127,8574133]) (zaa pr_2 (zaa pr_3 (zaa pr_7 (zaa pr_19 (zaa pr_47 (zaa pr_47 (zaa zwE (zaa zmm (zar))))))))) (by decide +kernel)).1
theorem zpL:IsPr 75445702479781427272750846543864801:=(zao (a:=7) (L:=[2,2,2,2,2,3,3,5,5,75707,72106336199,1919519569386763]) (zaa pr_2 (zaa pr_2 (zaa pr_2 (zaa pr_2 (zaa pr_2 (zaa pr_3 (zaa pr_3 (zaa pr_5 (zaa pr_5 (zaa zr6 (zaa zfF (zaa zcY (zar))))))))))))) (by decide +kernel)).1
theorem zp9:IsPr 74058212732561358302231226437062788676166966415465897661863160754340907:=(zao (a:=2) (L:=[2,3,353,57467,132049,1923133,31757755568855353,75445702479781427272750846543864801]) (zaa pr_2 (zaa pr_3 (zaa zyP (zaa zq9 (zaa zn1 (zaa zlH (zaa zcW (zaa zpL (zar))))))))) (by decide +kernel)).1
theorem zw5:Full 57896044618658097711785492504343953926634992332820282019728792003956564819949 2:=zao (L:=[2,2,3,65147,74058212732561358302231226437062788676166966415465897661863160754340907]) (zaa pr_2 (zaa pr_2 (zaa pr_3 (zaa zsk (zaa zp9 (zar)))))) (by decide +kernel)
end Go.AM
