/- Part A2. -/
import Derived.ProofKit
import Derived.SizedLaws
import Derived.Carry
import Derived.ChangeArms
import Derived.Attr
import Derived.Test.YtebioenemijecaaGreatDoorA1
set_option linter.unusedSimpArgs false
set_option linter.unusedVariables false
namespace Ab
open Go RowKit
structure Z where
 i:Nat
 x:aj
 m:Nat
def iD (o:Oper):List Nat:=(o.after.toList.filter (Region.binds .any)).map (·.on)
def kJ:List Z→Nat→Option Nat
 |[],_=>none
 |z::r,e=>if z.i=e then some z.m else kJ r e
def iZ (acc:List Z):List Nat→Option Nat
 |[]=>some 0
 |e::r=>(kJ acc e).bind fun m=>(iZ acc r).bind fun m'=>some ((m|||2^e)|||m')
def nX (L:Lk) (nt:Nat) (ops:Array Oper):List Nat→List Z→Option (List Z)
 |[],_=>some []
 |i::r,acc=>(ops[i]?).bind fun o=>(bH L nt ops o).bind fun x=>(iZ acc (iD o)).bind fun m=>(nX L nt ops r (⟨i,x,m⟩::acc)).bind fun zs=>some (⟨i,x,m⟩::zs)
def ej:List (Nat×List Nat)→Nat→List Nat
 |[],_=>[]
 |(q,ks)::r,p=>if q=p then ks else ej r p
def bR (fl:List Nat) (z y:Z):Bool:=
 decide (z.i≠y.i)&&((match z.x.dst with|none=>true|some d=>decide (y.x.dst≠some d)&&(!(y.x.tm.contains d)||y.m.testBit z.i))&&
 ((match y.x.dst with|none=>true|some d=> !(z.x.tm.contains d)||(y.m.testBit z.i&&fl.isEmpty))&&(!(z.x.op.aP&&y.x.op.aP)||y.m.testBit z.i)))
def dN (z:Z) (j:Nat):Nat→List Z→Bool
 |_,[]=>true
 |q,y::r=>if y.x.op.aP=true then((!(z.m.testBit y.i)||decide (q<j))&&(!(y.m.testBit z.i)||decide (j≤q)))&&dN z j (q+1) r else dN z j q r
def eG (zs:List Z) (fl:List Nat) (own n:Nat) (z:Z):Bool:=
 ((match z.x.dst with|none=> !z.x.op.aJ&&fl.isEmpty|some d=> !(z.x.tm.contains d)||fl.isEmpty))&&
 (!(z.x.op.aJ||z.x.op.reads)||(List.range (n+1)).all fun j=>j==own|| !dN z j 0 zs||fl.contains j)
def pc (all:List Z) (fl:List (Nat×List Nat)) (n:Nat):Nat→Nat→List Z→Bool
 |_,_,[]=>true
 |p,own,z::r=>eG all (ej fl p) own n z&&(r.all (bR (ej fl p) z)&&pc all fl n (p+1) (if z.x.op.aP=true then own+1 else own) r)
def kH (L:Lk) (nt:Nat) (ops:Array Oper) (ord:List Nat) (fl:List (Nat×List Nat)):Option (List aj):=
 (nX L nt ops ord []).bind fun zs=>
 if ord.length=ops.size∧(List.range ops.size).all (ord.contains ·)=true∧pc zs fl (nl (zs.map (·.x))) 0 0 zs=true then some (zs.map (·.x))else none
theorem eE {L:Lk} {nt:Nat} {ops:Array Oper}:∀{ord:List Nat} {acc zs:List Z},nX L nt ops ord acc=some zs→zs.map (·.i)=ord∧∀z∈zs,∃o,ops[z.i]?=some o∧bH L nt ops o=some z.x
 |[],_,_,h=>by obtain rfl:=uz h;exact⟨rfl,fun z hz=>by simp at hz⟩
 | i :: r, acc, zs, h => by
   simp only[nX,uy]at h
   obtain⟨o,h1,x,h2,m,h3,zs',h4,h5⟩:=h
   obtain rfl:=uz h5
   obtain⟨g1,g2⟩:=eE h4
   refine⟨by simp [g1],fun z hz=> ?_⟩
   rcases u5.1 hz with rfl|hz
   · exact⟨o,h1,h2⟩
   · exact g2 z hz
theorem iL:∀{acc:List Z} {e m:Nat},kJ acc e=some m→∃z∈acc,z.i=e∧z.m=m
 |[],_,_,h=>by cases h
 | z :: r, e, m, h => by
   unfold kJ at h
   split at h
   · rename_i q;exact⟨z,by simp,q,uz h⟩
   · obtain⟨y,hy,q⟩:=iL h;exact⟨y,by simp [hy],q⟩
theorem dz {acc : List Z} : ∀ {es : List Nat} {m : Nat}, iZ acc es = some m → (∀ e ∈ es, ∃ z ∈ acc, z.i = e) ∧ ∀ k, m.testBit k = true → ∃ e ∈ es, k = e ∨ ∃ z ∈ acc, z.i = e ∧ z.m.testBit k = true
 |[],m,h=>by obtain rfl:=uz h;exact⟨fun e he=>by simp at he,fun k hk=>by simp at hk⟩
 | e :: es, m, h => by
   simp only[iZ,uy]at h
   obtain⟨m1,h1,m2,h2,h3⟩:=h
   obtain rfl:=uz h3
   obtain⟨g1,g2⟩:=dz h2
   obtain⟨z,hz,hz1,hz2⟩:=iL h1
   refine⟨fun e' he=> ?_,fun k hk=> ?_⟩
   · rcases u5.1 he with rfl|he
     · exact⟨z,hz,hz1⟩
     · exact g1 e' he
   · rw[Nat.testBit_or,Nat.testBit_or,uX,uX]at hk
     rcases hk with (hk|hk)|hk
     · exact⟨e,List.mem_cons_self,.inr ⟨z,hz,hz1,hz2.symm ▸ hk⟩⟩
     · rw[Nat.testBit_two_pow]at hk
       exact⟨e,List.mem_cons_self,.inl (of_decide_eq_true hk).symm⟩
     · obtain⟨e',he',q⟩:=g2 k hk
       exact⟨e',by simp [he'],q⟩
def Cl (ops:Array Oper) (done:Nat→Prop):Prop:=∀i o,ops[i]?=some o→done i→∀e∈iD o,done e
theorem gU {L : Lk} {nt : Nat} {ops : Array Oper} {done : Nat → Prop} (hcl : Cl ops done) : ∀ {ord : List Nat} {acc zs : List Z}, nX L nt ops ord acc = some zs →
 (∀z∈acc,done z.i→∀k,z.m.testBit k=true→done k)→∀z∈zs,done z.i→∀k,z.m.testBit k=true→done k
 |[],_,_,h,_=>by obtain rfl:=uz h;intro z hz;simp at hz
 | i :: r, acc, zs, h, ha => by
   simp only[nX,uy]at h
   obtain⟨o,h1,x,h2,m,h3,zs',h4,h5⟩:=h
   obtain rfl:=uz h5
   have hz:∀z∈((⟨i,x,m⟩:Z)::acc),done z.i→∀k,z.m.testBit k=true→done k:=by
    intro z hz hd k hk
    rcases u5.1 hz with rfl|hz
    · obtain⟨e,he,q⟩:=(dz h3).2 k hk
      have hde:=hcl i o h1 hd e he
      rcases q with rfl|⟨y,hy,hy1,hy2⟩
      · exact hde
      · exact ha y hy (hy1 ▸ hde) k hy2
    · exact ha z hz hd k hk
   intro z hzm
   rcases u5.1 hzm with rfl|hzm
   · exact hz _ (by simp)
   · exact gU hcl h4 hz z hzm
theorem iN {L : Lk} {nt : Nat} {ops : Array Oper} {done : Nat → Prop} : ∀ {ord : List Nat} {acc zs : List Z}, nX L nt ops ord acc = some zs → (∀ z ∈ acc, done z.i) → (∃ z ∈ zs, ¬ done z.i) → ∃ z ∈ zs, ¬ done z.i ∧ ∃ o, ops[z.i]? = some o ∧ ∀ e ∈ iD o, done e
 |[],_,_,h,_,hx=>by obtain rfl:=uz h;obtain⟨z,hz,_⟩:=hx;simp at hz
 | i :: r, acc, zs, h, ha, hx => by
   simp only[nX,uy]at h
   obtain⟨o,h1,x,h2,m,h3,zs',h4,h5⟩:=h
   obtain rfl:=uz h5
   by_cases hd:done i
   · obtain⟨z,hz,hnd⟩:=hx
     have hz':z∈zs':=by
      rcases u5.1 hz with rfl|hz
      · exact absurd hd hnd
      · exact hz
     obtain⟨y,hy,q⟩:=iN h4 (fun y hy=>by
      rcases u5.1 hy with rfl|hy
      · exact hd
      · exact ha y hy) ⟨z,hz',hnd⟩
     exact⟨y,by simp [hy],q⟩
   · refine⟨⟨i,x,m⟩,by simp,hd,o,h1,fun e he=> ?_⟩
     obtain⟨z,hz,hze⟩:=(dz h3).1 e he
     exact hze ▸ ha z hz
theorem iQ {all : List Z} {fl : List (Nat × List Nat)} {n : Nat} : ∀ {l : List Z} {p0 own : Nat}, pc all fl n p0 own l = true →
 (∀p z,l[p]?=some z→eG all (ej fl (p0+p)) (own+nl ((l.take p).map (·.x))) n z=true)∧∀p q z y,p<q→l[p]?=some z→l[q]?=some y→bR (ej fl (p0+p)) z y=true
 |[],_,_,_=>⟨fun p z h=>by simp at h,fun p q z y _ h=>by simp at h⟩
 | z0 :: l, p0, own, h => by
   simp only[pc,uL,List.all_eq_true]at h
   obtain⟨h1,h2,h3⟩:=h
   obtain⟨g1,g2⟩:=iQ h3
   refine⟨fun p z hz=> ?_,fun p q z y hpq hz hy=> ?_⟩
   · cases p with
     |zero=>simp at hz;subst hz;simpa [nl]using h1
     | succ p =>
       have:=g1 p z (by simpa using hz)
       rw[show p0+1+p=p0+(p+1)by omega]at this
       rw[uR,List.map_cons,nl]
       cases hl:z0.x.op.aP with
       |true=>simp only[hl,if_true]at this ⊢;rw[←uJ own 1];exact this
       |false=>simp only[hl,uH,vh]at this ⊢;rw[uP];exact this
   · cases q with
     |zero=>omega
     | succ q =>
       cases p with
       |zero=>simp at hz;subst hz;exact h2 y (uO (by simpa using hy))
       | succ p =>
         have:=g2 p q z y (by omega) (by simpa using hz) (by simpa using hy)
         rwa [show p0+1+p=p0+(p+1)by omega]at this
theorem dW {z : Z} {j : Nat} : ∀ {l : List Z} {q : Nat}, (∀ p y, l[p]? = some y → y.x.op.aP = true → (z.m.testBit y.i = true → q + nl ((l.take p).map (·.x)) < j) ∧ (y.m.testBit z.i = true → j ≤ q + nl ((l.take p).map (·.x)))) → dN z j q l = true
 |[],_,_=>rfl
 | y :: l, q, h => by
   unfold dN
   split
   · rename_i hl
     have h0:=h 0 y rfl hl
     simp only[List.take_zero,List.map_nil,nl,Nat.add_zero]at h0
     rw[uL,uL,uX,uX]
     refine⟨⟨?_, ?_⟩, ?_⟩
     · cases hb:z.m.testBit y.i with
       |false=>exact .inl rfl
       |true=>exact .inr (decide_eq_true (h0.1 hb))
     · cases hb:y.m.testBit z.i with
       |false=>exact .inl rfl
       |true=>exact .inr (decide_eq_true (h0.2 hb))
     · exact dW fun p x hx hxl=>by
        have:=h (p+1) x (by simpa using hx) hxl
        rw[uR,List.map_cons,nl,if_pos hl,←uJ]at this
        exact this
   · rename_i hl
     exact dW fun p x hx hxl=>by
      have:=h (p+1) x (by simpa using hx) hxl
      rw[uR,List.map_cons,nl,if_neg hl,uP]at this
      exact this
theorem fM {call:ae} {ops:List aj} {e:Env} {gs:List H}:∀{fl:List (Nat×List Nat)},bb call ops e gs fl=true→∀p k,k∈ej fl p→bL call ops e gs p k=true
 |[],_,p,k,hk=>by simp [ej]at hk
 | (q, ks) :: r, h, p, k, hk => by
   simp only[bb,uL,List.all_eq_true]at h
   unfold ej at hk
   split at hk
   · rename_i e;subst e;exact h.1 k hk
   · exact fM h.2 p k hk
theorem bp (t:Nat):∀(l:List Nat) (e0 E:Env),look (l.map (fun s=>(s,look e0 s))++E) t=if t∈l then look e0 t else look E t
 |[],_,_=>by simp
 | s :: l, e0, E => by
   simp only[List.map_cons,List.cons_append,look]
   by_cases hs:s=t
   · subst hs;simp
   · rw[if_neg hs,bp t l e0 E]
     have:t∈s::l↔t∈l:=by simp [Ne.symm hs]
     by_cases ht:t∈l
     · rw[if_pos ht,if_pos (this.2 ht)]
     · rw[if_neg ht,if_neg (fun q=>ht (this.1 q))]
def rl (zs:List Z) (dn:Nat→Bool):List Nat:=zs.filterMap fun z=>if dn z.i then none else z.x.dst
def cut (zs:List Z) (dn:Nat→Bool) (e0 E:Env):Env:=(rl zs dn).map (fun s=>(s,look e0 s))++E
theorem cj {zs:List Z} {dn:Nat→Bool} {t:Nat}:t∈rl zs dn↔∃z∈zs,dn z.i=false∧z.x.dst=some t:=by
 unfold rl
 rw[List.mem_filterMap]
 constructor
 · rintro ⟨z,hz,h⟩
   split at h
   · cases h
   · rename_i q;exact⟨z,hz,by simpa using q,h⟩
 · rintro ⟨z,hz,h1,h2⟩
   exact⟨z,hz,by simp [h1,h2]⟩
end Ab
namespace Ab
open Go RowKit
section
variable {L:Lk} {w0:World}
theorem R.gw {ι:Io} {M:Mm} {h G:H} {w:World} (r:R L w0 ι M h w) (k:Gw h G):R L w0 ι M G w:=by
 have g:∀id cs l,G.get id=some cs→ι id=some l→h.get id=some cs:=fun id cs l a b=>by rw[k.get id (r.j8 id l b)]at a;exact a
 exact⟨r.below,fun id l q=>Nat.lt_of_lt_of_le (r.j8 id l q) k.nx,fun id cs l a b=>r.hH id cs l (g _ _ _ a b) b,fun id cs l a b=>r.own id cs l (g _ _ _ a b) b,fun id cs l a b=>r.val id cs l (g _ _ _ a b) b,
  fun i j cs cs' l l' a b c d=>r.gp i j cs cs' l l' (g _ _ _ a c) (g _ _ _ b d) c d,r.ar,fun b o v id cs l m a c=>r.hX b o v id cs l m (g _ _ _ a c) c⟩
theorem Gr.gw {h h2 G:H} {ι ι':Io} {M M':Mm} (a:Gr h ι M h2 ι' M') (k:Gw h2 G):Gr h ι M G ι' M':=⟨u6 a.nx k.nx,a.io,a.mm,a.iP⟩
theorem kk {ι : Io} {M : Mm} {w : World} {call : ae} {nt : Nat} {ops : Array Oper} {i : Nat} {o : Oper} {x : aj} (hi : ops[i]? = some o) (hc : bH L nt ops o = some x)
 {e:Env} {a:Act} (he:bc L ι M e a.tmps) {h h':H} {v:AV} (hev:ai call x e h=some (v,h')) {K:Act→World→Prop} {Q:Exit→Act→World→Prop}
 (h1:bZ L o.op=some x.op→ah call e h x.op=some (v,h')→o.wp L.P a w K Q) (h2:v=.bS []→h'=h→K (a.put o.dst undef) w):wpOp L.P ops Q i K a w:=by
 obtain⟨hop,hdst,_,hg⟩:=cg hc
 unfold wpOp
 simp only[hi]
 unfold ai at hev
 rcases hg with ⟨hg1,hg2⟩|⟨j,want,t,hg1,ht,hg2⟩
 · rw[hg2]at hev
   have:Region.wanted o (yielded ops a.tmps)=true:=by simp [Region.wanted,hg1]
   rw[if_pos this]
   exact .inl (h1 hop hev)
 · rw [hg2] at hev
   simp only at hev
   split at hev
   · rename_i b hb
     have q1:=he t
     rw[hb]at q1
     have q2:=iJ q1.bY
     have hy:yielded ops a.tmps j=some b:=by simp [yielded,ht,q2]
     split at hev
     · rename_i hbw
       have:Region.wanted o (yielded ops a.tmps)=true:=by simp [Region.wanted,hg1,hy,hbw]
       rw[if_pos this]
       exact .inl (h1 hop hev)
     · rename_i hbw
       have:¬Region.wanted o (yielded ops a.tmps)=true:=by simp [Region.wanted,hg1,hy,hbw]
       rw[if_neg this]
       obtain⟨q3,q4⟩:=uB (uz hev)
       exact h2 q3.symm q4.symm
   · rename_i hb
     have q1:=he t
     rw[hb]at q1
     have:¬Region.wanted o (yielded ops a.tmps)=true:=by simp [Region.wanted,hg1,dP ht q1]
     rw[if_neg this]
     obtain⟨q3,q4⟩:=uB (uz hev)
     exact h2 q3.symm q4.symm
   · cases hev
theorem ef {call:ae} {e:Env} {h h':H} {o:aj} {v:AV} (hl:o.op.aP=false) (hb:o.op.aJ=false) (hev:ai call o e h=some (v,h')):h'=h:=by
 unfold ai at hev
 split at hev
 · exact bP hl hb hev
 · split at hev
   · split at hev
     · exact bP hl hb hev
     · exact(uB (uz hev)).2.symm
   · exact(uB (uz hev)).2.symm
   · cases hev
structure DH (L:Lk) (nt:Nat) (ops:Array Oper) (call:ae) (ord:List Nat) (zs:List Z) (fl:List (Nat×List Nat)) (e0:Env) (h0:H) (E:Env) (hN:H) (gs:List H):Prop where
 mz:nX L nt ops ord []=some zs
 len:ord.length=ops.size
 all:∀k,k<ops.size→k∈ord
 one:∀(p:Nat) (z:Z),zs[p]?=some z→eG zs (ej fl p) (nl ((zs.map (·.x)).take p)) (nl (zs.map (·.x))) z=true
 pair:∀(p q:Nat) (z y:Z),p<q→zs[p]?=some z→zs[q]?=some y→bR (ej fl p) z y=true
 ev:aO call (zs.map (·.x)) e0 h0=some (E,hN,gs)
 st:bb call (zs.map (·.x)) E gs fl=true
 nm:aR call
variable {nt:Nat} {ops:Array Oper} {call:ae} {ord:List Nat} {zs:List Z} {fl:List (Nat×List Nat)} {e0:Env} {h0:H} {E:Env} {hN:H} {gs:List H}
theorem DH.of {os:List aj} (hc:kH L nt ops ord fl=some os) (hev:aO call os e0 h0=some (E,hN,gs)) (hst:bb call os E gs fl=true) (hn:aR call):∃zs,os=zs.map (·.x)∧DH L nt ops call ord zs fl e0 h0 E hN gs:=by
 unfold kH at hc
 simp only[uy]at hc
 obtain⟨zs,h1,h2⟩:=hc
 split at h2
 · rename_i hq
   obtain rfl:=uz h2
   obtain⟨q1,q2,q3⟩:=hq
   obtain⟨g1,g2⟩:=iQ q3
   refine⟨zs,rfl,h1,q1,fun k hk=> ?_,fun p z hz=> ?_,fun p q z y h a b=>by simpa using g2 p q z y h a b,hev,hst,hn⟩
   · have:=List.all_eq_true.1 q2 k (List.mem_range.2 hk)
     simpa using this
   · have:=g1 p z hz
     simpa [List.map_take]using this
 · cases h2
theorem DH.zx (d:DH L nt ops call ord zs fl e0 h0 E hN gs) {p:Nat} {z:Z} (hz:zs[p]?=some z):(zs.map (·.x))[p]?=some z.x:=by simp [hz]
theorem DH.inj (d:DH L nt ops call ord zs fl e0 h0 E hN gs) {p q:Nat} {z y:Z} (hz:zs[p]?=some z) (hy:zs[q]?=some y) (h:z.i=y.i):p=q:=by
 rcases Nat.lt_trichotomy p q with hlt|rfl|hlt
 · have:=d.pair p q z y hlt hz hy
   simp [bR,h]at this
 · rfl
 · have:=d.pair q p y z hlt hy hz
   simp [bR,h]at this
theorem DH.nM (d:DH L nt ops call ord zs fl e0 h0 E hN gs) {p q:Nat} {z y:Z} (hz:zs[p]?=some z) (hy:zs[q]?=some y) {t:Nat} (h1:z.x.dst=some t) (h2:y.x.dst=some t):p=q:=by
 rcases Nat.lt_trichotomy p q with hlt|rfl|hlt
 · have:=d.pair p q z y hlt hz hy
   simp [bR,h1,h2]at this
 · rfl
 · have:=d.pair q p y z hlt hy hz
   simp [bR,h1,h2]at this
theorem DH.uc (d:DH L nt ops call ord zs fl e0 h0 E hN gs) {i:Nat} (hi:i<ops.size):∃(p:Nat) (z:Z),zs[p]?=some z∧z.i=i:=by
 have:=d.all i hi
 rw[←(eE d.mz).1]at this
 obtain⟨z,hz,rfl⟩:=List.mem_map.1 this
 obtain⟨p,hp⟩:=uW.1 hz
 exact⟨p,z,hp,rfl⟩
theorem DH.take (d:DH L nt ops call ord zs fl e0 h0 E hN gs) {p t:Nat} (h:t∈jt ((zs.map (·.x)).take p)):∃(q:Nat) (y:Z),q<p∧zs[q]?=some y∧y.x.dst=some t:=by
 unfold jt at h
 obtain⟨x,hx,hd⟩:=List.mem_filterMap.1 h
 obtain⟨q,hq⟩:=uW.1 hx
 rw[u9]at hq
 split at hq
 · rename_i hlt
   rw[uT]at hq
   obtain⟨y,hy,rfl⟩:=uA.1 hq
   exact⟨q,y,hlt,hy,hd⟩
 · cases hq
theorem DH.drop (d:DH L nt ops call ord zs fl e0 h0 E hN gs) {p t:Nat} (h:t∈jt ((zs.map (·.x)).drop p)):∃(q:Nat) (y:Z),p≤q∧zs[q]?=some y∧y.x.dst=some t:=by
 unfold jt at h
 obtain⟨x,hx,hd⟩:=List.mem_filterMap.1 h
 obtain⟨q,hq⟩:=uW.1 hx
 rw[uV,uT]at hq
 obtain⟨y,hy,rfl⟩:=uA.1 hq
 exact⟨p+q,y,by omega,hy,hd⟩
theorem dy {d:Option Nat} {v:AV} {e:Env} {t:Nat} (h:d≠some t):look (aN d v e) t=look e t:=by
 cases d with
 |none=>rfl
 |some s=>simp only[aN,look];rw[if_neg (fun q=>h (by rw[q]))]
theorem dx {v:AV} {e:Env} {t:Nat}:look (aN (some t) v e) t=v:=by simp [aN,look]
theorem DH.fh (d:DH L nt ops call ord zs fl e0 h0 E hN gs) {p q:Nat} (hpq:p≤q) {e1 e2:Env} {h1 h2:H} (a:au call ((zs.map (·.x)).take p) e0 h0=some (e1,h1)) (b:au call ((zs.map (·.x)).take q) e0 h0=some (e2,h2)):h1.next≤h2.next:=by
 have:(zs.map (·.x)).take q=(zs.map (·.x)).take p++((zs.map (·.x)).take q).drop p:=by
  have:=(List.take_append_drop p ((zs.map (·.x)).take q)).symm
  rwa [List.take_take,Nat.min_eq_left hpq]at this
 rw[this,dc,a]at b
 exact dd d.nm b
theorem DH.eH (d:DH L nt ops call ord zs fl e0 h0 E hN gs) {p:Nat} {z:Z} (hz:zs[p]?=some z) {e1:Env} {h1 h2:H} {v:AV} (a:au call ((zs.map (·.x)).take p) e0 h0=some (e1,h1)) (b:ai call z.x e1 h1=some (v,h2)):au call ((zs.map (·.x)).take (p+1)) e0 h0=some (aN z.x.dst v e1,h2):=by
 rw[List.take_add_one,d.zx hz,dc,a]
 simp [au,b]
structure Inv (L:Lk) (w0:World) (ops:Array Oper) (call:ae) (zs:List Z) (e0:Env) (h0:H) (E:Env) (gs:List H) (ι0:Io) (M0:Mm) (a0:Act) (listed:Array Bool) (a:Act) (w:World) (ι:Io) (M:Mm) (G:H) (j:Nat):Prop where
 sz:listed.size=ops.size
 cl:Cl ops (fun i=>listed.getD i false=true)
 hG:gs[j]?=some G
 ld:∀(p:Nat) (z:Z),zs[p]?=some z→z.x.op.aP=true→(listed.getD z.i false=true↔nl ((zs.map (·.x)).take p)<j)
 le:j≤nl (zs.map (·.x))
 gr:Gr h0 ι0 M0 G ι M
 r:R L w0 ι M G w
 env:bc L ι M (cut zs (fun i=>listed.getD i false) e0 E) a.tmps
 tG:a.tmps.size=a0.tmps.size
 tV:a.defers=a0.defers
 bi:∀(q:Nat) (y:Z) (eq:Env) (hq:H) (v:AV) (h':H) (id:Nat),zs[q]?=some y→y.x.op.aJ=true→listed.getD y.i false=false→au call ((zs.map (·.x)).take q) e0 h0=some (eq,hq)→ai call y.x eq hq=some (v,h')→v.id?=some id→ι id=none
theorem gI {listed:Array Bool} {i k:Nat} (hi:i<listed.size):(listed.setIfInBounds i true).getD k false=true↔k=i∨listed.getD k false=true:=by
 by_cases h:k=i
 · subst h;simp [hi]
 · rw[getD_set_ne false (fun q=>h q.symm)];simp [h]
theorem Inv.next (d : DH L nt ops call ord zs fl e0 h0 E hN gs) {ι0 : Io} {M0 : Mm} {a0 : Act} {listed : Array Bool} {a : Act} {w : World} {ι : Io} {M : Mm} {G : H} {j : Nat} (inv : Inv L w0 ops call zs e0 h0 E gs ι0 M0 a0 listed a w ι M G j) (hnt : nt ≤ a0.tmps.size)
 {p:Nat} {z:Z} (hz:zs[p]?=some z) (hnd:listed.getD z.i false=false) {o:Oper} (hio:ops[z.i]?=some o) (hc:bH L nt ops o=some z.x) (hed:∀e∈iD o,listed.getD e false=true)
 {e1:Env} {h2:H} {v:AV} (t3:au call ((zs.map (·.x)).drop (p+1)) (aN z.x.dst v e1) h2=some (E,hN))
 {ι':Io} {M':Mm} {G':H} {j':Nat} {v':Value} {w':World} (hG:gs[j']?=some G')
 (hld:∀(q:Nat) (y:Z),zs[q]?=some y→y.x.op.aP=true→(y.i=z.i∨listed.getD y.i false=true↔nl ((zs.map (·.x)).take q)<j')) (hle:j'≤nl (zs.map (·.x))) (hle1:nk ι ι') (hle2:nw M M') (hgr:Gr h0 ι0 M0 G' ι' M') (hr:R L w0 ι' M' G' w') (hv:V L ι' M' v v')
 (hbi:∀(q:Nat) (y:Z) (eq:Env) (hq:H) (u:AV) (h':H) (id:Nat),zs[q]?=some y→y.x.op.aJ=true→q≠p→listed.getD y.i false=false→au call ((zs.map (·.x)).take q) e0 h0=some (eq,hq)→ai call y.x eq hq=some (u,h')→u.id?=some id→ι' id=none):
 Inv L w0 ops call zs e0 h0 E gs ι0 M0 a0 (listed.setIfInBounds z.i true) (a.put o.dst v') w' ι' M' G' j':=by
 obtain⟨_,hdst,hlt,_⟩:=cg hc
 have hi:z.i<listed.size:=by rw[inv.sz];exact(uU.1 hio).1
 have hg:∀k,((listed.setIfInBounds z.i true).getD k false=true↔k=z.i∨listed.getD k false=true):=fun k=>gI hi
 refine⟨by simp [inv.sz], ?_,hG, ?_,hle,hgr,hr, ?_,by rw[g6];exact inv.tG,by rw[put_defers];exact inv.tV, ?_⟩
 · intro k o' hk hd e he
   rw[hg]at hd ⊢
   rcases hd with rfl|hd
   · rw[hio]at hk;obtain rfl:=uz hk
     exact .inr (hed e he)
   · exact .inr (inv.cl k o' hk hd e he)
 · intro q y hy hl
   rw[hg];exact hld q y hy hl
 · have key:∀t,look (cut zs (fun i=>(listed.setIfInBounds z.i true).getD i false) e0 E) t=look (aN z.x.dst v (cut zs (fun i=>listed.getD i false) e0 E)) t:=by
    intro t
    by_cases ht:z.x.dst=some t
    · rw [ht, dx, cut, bp]
      rw[if_neg]
      · rw[bm t3 t (fun q=>by
         obtain⟨s,y,hs,hy,hyd⟩:=d.drop q
         have:=d.nM hz hy ht hyd;omega),ht,dx]
      · intro q
        obtain⟨y,hy,hyu,hyd⟩:=cj.1 q
        obtain⟨s,hs⟩:=uW.1 hy
        obtain rfl:=d.nM hz hs ht hyd
        rw[hz]at hs;obtain rfl:=uz hs
        rw[(hg z.i).2 (.inl rfl)]at hyu;cases hyu
    · rw [dy ht, cut, cut, bp, bp]
      have:t∈rl zs (fun i=>(listed.setIfInBounds z.i true).getD i false)↔t∈rl zs (fun i=>listed.getD i false):=by
       rw[cj,cj]
       constructor
       · rintro ⟨y,hy,hyu,hyd⟩
         refine⟨y,hy, ?_,hyd⟩
         cases hb:listed.getD y.i false with
         |false=>rfl
         |true=>rw[(hg y.i).2 (.inr hb)]at hyu;cases hyu
       · rintro ⟨y,hy,hyu,hyd⟩
         refine⟨y,hy, ?_,hyd⟩
         cases hb:(listed.setIfInBounds z.i true).getD y.i false with
         |false=>rfl
         | true =>
           rcases (hg y.i).1 hb with q|q
           · obtain⟨s,hs⟩:=uW.1 hy
             obtain rfl:=d.inj hs hz q
             rw[hz]at hs;obtain rfl:=uz hs
             exact absurd hyd ht
           · rw[hyu]at q;cases q
      by_cases hu:t∈rl zs (fun i=>listed.getD i false)
      · rw[if_pos hu,if_pos (this.2 hu)]
      · rw[if_neg hu,if_neg (fun q=>hu (this.1 q))]
   intro t
   rw[key t]
   have:=(inv.env.mono hle1 hle2).put (a:=a) (d:=z.x.dst) (v:=v) hv (fun s hs=>by
    rw[inv.tG];exact Nat.lt_of_lt_of_le (hlt s (by rw[←hdst];exact hs)) hnt)
   rw[hdst]at this ⊢
   exact this t
 · intro q y eq hq u h' id hy hb hu hp hev hid
   have hne:q≠p:=fun e=>by
    subst e
    rw[hz]at hy;obtain rfl:=uz hy
    rw[(hg z.i).2 (.inl rfl)]at hu;cases hu
   refine hbi q y eq hq u h' id hy hb hne ?_ hp hev hid
   cases hb:listed.getD y.i false with
   |false=>rfl
   |true=>rw[(hg y.i).2 (.inr hb)]at hu;cases hu
end
end Ab
namespace Ab
open Go RowKit
section
variable {L:Lk} {w0:World}
variable {nt:Nat} {ops:Array Oper} {call:ae} {ord:List Nat} {zs:List Z} {fl:List (Nat×List Nat)} {e0:Env} {h0:H} {E:Env} {hN:H} {gs:List H}
theorem DH.pE (d:DH L nt ops call ord zs fl e0 h0 E hN gs) {done:Nat→Prop} (hcl:Cl ops done) {p:Nat} {z:Z} (hz:zs[p]?=some z) (hd:done z.i) {k:Nat} (hk:z.m.testBit k=true):done k:=
 gU hcl d.mz (fun z hz=>by simp at hz) z (uO hz) hd k hk
theorem lG {f:List Nat} {z y:Z} (h:bR f z y=true) (h1:z.x.op.aP=true) (h2:y.x.op.aP=true):y.m.testBit z.i=true:=by
 simp only[bR,uL,h1,h2,Bool.not_true,Bool.false_or,Bool.true_and]at h
 exact h.2.2.2
theorem mW {f:List Nat} {z y:Z} (h:bR f z y=true) {t:Nat} (h1:z.x.dst=some t) (h2:t∈y.x.tm):y.m.testBit z.i=true:=by
 simp only[bR,uL,h1,uX,Bool.not_eq_true']at h
 rcases h.2.1.2 with q|q
 · rw[List.contains_iff_mem.2 h2]at q;cases q
 · exact q
theorem mV {f:List Nat} {z y:Z} (h:bR f z y=true) {t:Nat} (h1:y.x.dst=some t) (h2:t∈z.x.tm):y.m.testBit z.i=true∧f=[]:=by
 simp only[bR,uL,h1,uX,Bool.not_eq_true']at h
 rcases h.2.2.1 with q|q
 · rw[List.contains_iff_mem.2 h2]at q;cases q
 · exact⟨q.1,by simpa using q.2⟩
theorem mP {l:List Z} {f:List Nat} {own n:Nat} {z:Z} (h:eG l f own n z=true) {t:Nat} (h1:z.x.dst=some t) (h2:t∈z.x.tm):f=[]:=by
 simp only[eG,uL,h1,uX,Bool.not_eq_true']at h
 rcases h.1 with q|q
 · rw[List.contains_iff_mem.2 h2]at q;cases q
 · simpa using q
theorem oi {l:List Z} {f:List Nat} {own n:Nat} {z:Z} (h:eG l f own n z=true) (hf:f≠[]):∃t,z.x.dst=some t:=by
 simp only[eG,uL]at h
 cases hd:z.x.dst with
 |some t=>exact⟨t,rfl⟩
 |none=>rw[hd]at h;simp at h;exact absurd h.1.2 hf
theorem lD {l:List Z} {f:List Nat} {own n:Nat} {z:Z} (h:eG l f own n z=true) (hb:z.x.op.aJ=true∨z.x.op.reads=true) {j:Nat} (hj:j≤n) (hs:dN z j 0 l=true):j=own∨j∈f:=by
 simp only[eG,uL,uX,Bool.not_eq_true',List.all_eq_true,List.mem_range]at h
 have h2:=h.2.resolve_left (by rcases hb with q|q<;>simp [q])
 rcases h2 j (by omega)with (q|q)|q
 · exact .inl (by simpa using q)
 · rw[hs]at q;cases q
 · exact .inr (by simpa using q)
theorem DH.tR (d : DH L nt ops call ord zs fl e0 h0 E hN gs) {dn : Nat → Bool} {p : Nat} {z : Z} (hz : zs[p]? = some z) (hnd : dn z.i = false)
 (anc:∀(q:Nat) (y:Z),zs[q]?=some y→z.m.testBit y.i=true→y.i≠z.i→dn y.i=true) (desc:∀(q:Nat) (y:Z),zs[q]?=some y→y.m.testBit z.i=true→dn y.i=false)
 {e1:Env} {h1 h2:H} {v:AV} (t1:au call ((zs.map (·.x)).take p) e0 h0=some (e1,h1)) (t3:au call ((zs.map (·.x)).drop (p+1)) (aN z.x.dst v e1) h2=some (E,hN)):
 cL e1 (cut zs dn e0 E) z.x.tm∧(ej fl p≠[]→cL e1 E z.x.tm):=by
 have main:∀t∈z.x.tm,look e1 t=look (cut zs dn e0 E) t∧(ej fl p≠[]→look e1 t=look E t):=by
  intro t ht
  rw[cut,bp]
  by_cases hu:∃(q:Nat) (y:Z),zs[q]?=some y∧y.x.dst=some t
  · obtain⟨q,y,hy,hyd⟩:=hu
    have uniq:∀(s:Nat) (u:Z),zs[s]?=some u→u.x.dst=some t→s=q:=fun s u hs hd=>d.nM hs hy hd hyd
    rcases Nat.lt_trichotomy q p with hlt|rfl|hlt
    · have hm:=mW (d.pair q p y z hlt hy hz) hyd ht
      have hne:y.i≠z.i:=fun e=>by have:=d.inj hy hz e;omega
      have hdy:=anc q y hy hm hne
      have hE:look E t=look e1 t:=by
       rw[bm t3 t (fun m=>by obtain⟨s,u,a,b,c⟩:=d.drop m;have:=uniq s u b c;omega)]
       exact dy fun e=>by have:=uniq p z hz e;omega
      rw[if_neg]
      · exact⟨hE.symm,fun _=>hE.symm⟩
      · intro m
        obtain⟨u,hu1,hu2,hu3⟩:=cj.1 m
        obtain⟨s,hs⟩:=uW.1 hu1
        have:=uniq s u hs hu3;subst this
        rw[hy]at hs;obtain rfl:=uz hs
        rw[hdy]at hu2;cases hu2
    · rw[hz]at hy;obtain rfl:=uz hy
      have hf:=mP (d.one q z hz) hyd ht
      rw[if_pos (cj.2 ⟨z,uO hz,hnd,hyd⟩)]
      exact⟨bm t1 t fun m=>by obtain⟨s,u,a,b,c⟩:=d.take m;have:=uniq s u b c;omega,fun q=>absurd hf q⟩
    · obtain⟨hm,hf⟩:=mV (d.pair p q z y hlt hz hy) hyd ht
      have hdy:=desc q y hy hm
      rw[if_pos (cj.2 ⟨y,uO hy,hdy,hyd⟩)]
      exact⟨bm t1 t fun m=>by obtain⟨s,u,a,b,c⟩:=d.take m;have:=uniq s u b c;omega,fun q=>absurd hf q⟩
  · have hE:look E t=look e1 t:=by
     rw[bm t3 t (fun m=>by obtain⟨s,u,a,b,c⟩:=d.drop m;exact hu ⟨s,u,b,c⟩)]
     exact dy fun e=>hu ⟨p,z,hz,e⟩
    rw[if_neg]
    · exact⟨hE.symm,fun _=>hE.symm⟩
    · intro m
      obtain⟨u,hu1,hu2,hu3⟩:=cj.1 m
      obtain⟨s,hs⟩:=uW.1 hu1
      exact hu ⟨s,u,hs,hu3⟩
 exact⟨fun t ht=>(main t ht).1,fun hf t ht=>(main t ht).2 hf⟩
set_option maxHeartbeats 1000000 in
theorem Inv.step (hcal : Callee L w0 call) (hbod : dj L) (d : DH L nt ops call ord zs fl e0 h0 E hN gs) {ι0 : Io} {M0 : Mm} {a0 : Act} {listed : Array Bool} {a : Act} {w : World} {ι : Io} {M : Mm} {G : H} {j : Nat}
 (inv:Inv L w0 ops call zs e0 h0 E gs ι0 M0 a0 listed a w ι M G j) (hnt:nt≤a0.tmps.size) {i:Nat} (hi:i∈Region.ready .any ops listed) {Q:Exit→Act→World→Prop} {K:Act→World→Prop}
 (hK:∀a' w' ι' M' G' j',Inv L w0 ops call zs e0 h0 E gs ι0 M0 a0 (listed.setIfInBounds i true) a' w' ι' M' G' j'→K a' w'):wpOp L.P ops Q i K a w:=by
 obtain⟨hun,o,hio,hed'⟩:=mem_ready.1 hi
 have hin:i<ops.size:=(uU.1 hio).1
 have hnd:listed.getD i false=false:=by
  rw[uM]at hun ⊢
  rw[Array.getElem?_eq_getElem (by rw[inv.sz];exact hin)]at hun ⊢
  exact hun
 have hed:∀e∈iD o,listed.getD e false=true:=by
  intro e he
  unfold iD at he
  obtain⟨x,hx,rfl⟩:=List.mem_map.1 he
  obtain⟨hx1,hx2⟩:=List.mem_filter.1 hx
  exact hed' x (by simpa using hx1) hx2
 obtain⟨p,z,hz,rfl⟩:=d.uc hin
 obtain⟨o',ho',hc⟩:=(eE d.mz).2 z (uO hz)
 rw[hio]at ho';obtain rfl:=uz ho'
 obtain⟨e1,h1,v,h2,G1,t1,t2,t3,t4,t5,t6⟩:=iF d.ev (d.zx hz)
 have hcl':Cl ops (fun k=>k=z.i∨listed.getD k false=true):=by
  intro k o2 hk hd e he
  rcases hd with rfl|hd
  · rw[hio]at hk;obtain rfl:=uz hk;exact .inr (hed e he)
  · exact .inr (inv.cl k o2 hk hd e he)
 have anc:∀(q:Nat) (y:Z),zs[q]?=some y→z.m.testBit y.i=true→y.i≠z.i→listed.getD y.i false=true:=fun q y hy hm hne=>
  (d.pE hcl' hz (.inl rfl) hm).resolve_left hne
 have desc:∀(q:Nat) (y:Z),zs[q]?=some y→y.m.testBit z.i=true→listed.getD y.i false=false:=fun q y hy hm=>by
  cases hb:listed.getD y.i false with
  |false=>rfl
  |true=>have:listed.getD z.i false=true:=d.pE inv.cl hy hb hm;rw[hnd]at this;cases this
 obtain⟨ag,agE⟩:=d.tR (dn:=fun k=>listed.getD k false) hz hnd anc desc t1 t3
 have hev:ai call z.x (cut zs (fun i=>listed.getD i false) e0 E) h1=some (v,h2):=by rw[←db ag];exact t2
 have hlt1:∀(q:Nat) (y:Z),zs[q]?=some y→y.x.op.aP=true→q<p→z.x.op.aP=true→nl ((zs.map (·.x)).take q)<nl ((zs.map (·.x)).take p):=fun q y hy hl hq _=>by
  have:=cm (d.zx hy);rw[if_pos hl]at this
  have:=gX (os:=zs.map (·.x)) (Nat.succ_le_of_lt hq)
  simp only[Nat.succ_eq_add_one]at this;omega
 have hbi0:∀(ι':Io),(∀id l,id<G.next→ι' id=some l→ι id=some l)→(∀id l,ι' id=some l→id<G.next)→
  ∀(q:Nat) (y:Z) (eq:Env) (hq:H) (u:AV) (h':H) (id:Nat),zs[q]?=some y→y.x.op.aJ=true→q≠p→listed.getD y.i false=false→au call ((zs.map (·.x)).take q) e0 h0=some (eq,hq)→ai call y.x eq hq=some (u,h')→u.id?=some id→ι' id=none:=by
  intro ι' hold hdom q y eq hq u h' id hy hb hne hu hp hev' hid
  cases hc:ι' id with
  |none=>rfl
  | some l =>
    have:=hold id l (hdom id l hc) hc
    rw[inv.bi q y eq hq u h' id hy hb hu hp hev' hid]at this;cases this
 have hld0:z.x.op.aP=false→∀(q:Nat) (y:Z),zs[q]?=some y→y.x.op.aP=true→(y.i=z.i∨listed.getD y.i false=true↔nl ((zs.map (·.x)).take q)<j):=by
  intro hzl q y hy hl
  rw[←inv.ld q y hy hl]
  constructor
  · rintro (e|e)
    · have:=d.inj hy hz e;subst this
      rw[hz]at hy;obtain rfl:=uz hy
      rw[hzl]at hl;cases hl
    · exact e
  · exact .inr
 have quiet:z.x.op.aP=false→ai call z.x (cut zs (fun i=>listed.getD i false) e0 E) G=some (v,G)→wpOp L.P ops Q z.i K a w:=by
  intro hzl hq
  refine fg hcal hbod hio hc inv.env inv.r hq fun v' w' hout=> ?_
  obtain⟨ι',M',a1,a2,a3,r',hv'⟩:=hout
  exact hK _ _ _ _ _ _ (inv.next d hnt hz hnd hio hc hed t3 inv.hG (hld0 hzl) inv.le a1 a2 (inv.gr.trans ⟨uK _,a1,a2,a3⟩) r' hv' (hbi0 ι' a3 r'.j8))
 by_cases hzl:z.x.op.aP=true
 ·
  have hjp:nl ((zs.map (·.x)).take p)=j:=by
   have g1:j≤nl ((zs.map (·.x)).take p):=by
    have:=inv.ld p z hz hzl
    rcases Nat.lt_or_ge (nl ((zs.map (·.x)).take p)) j with q|q
    · rw[this.2 q]at hnd;cases hnd
    · exact q
   rcases Nat.lt_or_ge j (nl ((zs.map (·.x)).take p))with q|q
   · obtain⟨s,x,hs,hx,hxl,hxn⟩:=iO _ _ _ q
     rw[uT]at hx
     obtain⟨y,hy,rfl⟩:=uA.1 hx
     have hm:=lG (d.pair s p y z hs hy hz) hxl hzl
     have hne:y.i≠z.i:=fun e=>by have:=d.inj hy hz e;omega
     have:=(inv.ld s y hy hxl).1 (anc s y hy hm hne)
     omega
   · omega
  have hGe:G=h1:=by have:=t6 hzl;rw[hjp,inv.hG]at this;exact uz this
  subst hGe
  rw[if_pos hzl,hjp]at t4
  refine fg hcal hbod hio hc inv.env inv.r hev fun v' w' hout=> ?_
  obtain⟨ι',M',a1,a2,a3,r',hv'⟩:=hout
  have hgr:Gr G ι M h2 ι' M':=⟨cM d.nm t2,a1,a2,a3⟩
  refine hK _ _ _ _ _ _ (inv.next d hnt hz hnd hio hc hed t3 t4 ?_ ?_ a1 a2 (inv.gr.trans (hgr.gw t5)) (r'.gw t5) hv' ?_)
  · intro q y hy hl
    rcases Nat.lt_trichotomy q p with hlt|rfl|hlt
    · have h3:=hlt1 q y hy hl hlt hzl
      have h4:=(inv.ld q y hy hl).2 (by omega)
      exact⟨fun _=>by omega,fun _=>.inr h4⟩
    · rw[hz]at hy;obtain rfl:=uz hy
      exact⟨fun _=>by omega,fun _=>.inl rfl⟩
    · have h3:=cm (d.zx hz);rw[if_pos hzl]at h3
      have h4:=gX (os:=zs.map (·.x)) (Nat.succ_le_of_lt hlt)
      simp only[Nat.succ_eq_add_one]at h4
      constructor
      · rintro (e|e)
        · have:=d.inj hy hz e;omega
        · have:=(inv.ld q y hy hl).1 e;omega
      · intro h5;omega
  · have h3:=cm (d.zx hz);rw[if_pos hzl]at h3
    have:=jH (zs.map (·.x)) (p+1);omega
  · intro q y eq hq u h' id hy hb hne hu hp hev' hid
    cases hcc:ι' id with
    |none=>rfl
    | some l =>
      rcases ch hb hev' with ⟨rfl,_,_⟩|⟨b,_,_,rfl,hid',_⟩
      · cases hid
      · rw[hid]at hid';obtain rfl:=uz hid'
        rcases Nat.lt_or_gt_of_ne hne with hlt|hlt
        · have h3:=d.fh (Nat.succ_le_of_lt hlt) (d.eH hy hp hev') t1
          simp only[bC]at h3
          have:=a3 _ l (by omega) hcc
          rw[inv.bi q y eq hq u _ _ hy hb hu hp hev' hid]at this;cases this
        · have h3:=d.fh (Nat.succ_le_of_lt hlt) (d.eH hz t1 t2) hp
          have:=r'.j8 _ l hcc
          omega
 · have hzl' : z.x.op.aP = false := by simpa using hzl
   rw[if_neg hzl,Nat.add_zero]at t4
   have stage:z.x.op.aJ=true∨z.x.op.reads=true→j=nl ((zs.map (·.x)).take p)∨j∈ej fl p:=by
    intro hbr
    refine lD (d.one p z hz) hbr inv.le (dW fun q y hy hl=> ?_)
    have hne:y.i≠z.i:=fun e=>by
     have:=d.inj hy hz e;subst this
     rw[hz]at hy;obtain rfl:=uz hy
     rw[hzl']at hl;cases hl
    rw[uP,List.map_take]
    refine⟨fun hm=>(inv.ld q y hy hl).1 (anc q y hy hm hne),fun hm=> ?_⟩
    rcases Nat.lt_or_ge (nl ((zs.map (·.x)).take q)) j with h3|h3
    · have:=(inv.ld q y hy hl).2 h3;rw[desc q y hy hm]at this;cases this
    · exact h3
   have stable:j∈ej fl p→∃t,z.x.dst=some t∧look E t=v∧bL call (zs.map (·.x)) E gs p j=true:=by
    intro hj
    obtain⟨t,ht⟩:=oi (d.one p z hz) (fun q=>by rw[q]at hj;simp at hj)
    refine⟨t,ht, ?_,fM d.st p j hj⟩
    rw[bm t3 t (fun m=>by obtain⟨s,u,a,b,c⟩:=d.drop m;have:=d.nM hz b ht c;omega),ht,dx]
   cases hzb:z.x.op.aJ with
   | false =>
     refine quiet hzl' ?_
     cases hzr:z.x.op.reads with
     |false=>exact kb hzl' hzb hzr hev G
     | true =>
       rcases stage (.inr hzr)with hj|hj
       · rw[←hj,inv.hG]at t4;obtain rfl:=uz t4
         obtain rfl:=ef hzl' hzb t2
         exact kd hzl' hzb hev t5
       · obtain⟨t,ht,hE,hst⟩:=stable hj
         have hagE:=agE (fun q=>by rw[q]at hj;simp at hj)
         simp only[bL,d.zx hz,inv.hG,hzb,uH,vh,ht,Option.map_some,hE]at hst
         split at hst
         · rename_i u g' hu
           have:=beq_eq hst;subst this
           obtain rfl:=ef hzl' hzb hu
           rw[←db ag,db hagE];exact hu
         · cases hst
   | true =>
     rcases ch hzb hev with ⟨rfl,rfl,hskip⟩|⟨b,hb1,rfl,rfl,hid,_⟩
     · exact quiet hzl' (hskip G)
     · have hget:G.get h1.next=some b.1:=by
        rcases stage (.inl hzb)with hj|hj
        · rw[←hj,inv.hG]at t4;obtain rfl:=uz t4
          exact t5.some (by simp [H.aX])
        · obtain⟨t,ht,hE,hst⟩:=stable hj
          have hagE:=agE (fun q=>by rw[q]at hj;simp at hj)
          have hbE:aZ E z.x.op=some b:=by
           rw[←hb1,←dp (e:=e1) fun t ht=>hagE t (List.mem_append_right _ ht),dp fun t ht=>ag t (List.mem_append_right _ ht)]
          simp only[bL,d.zx hz,inv.hG,hzb,if_true,ht,Option.map_some,hE,hbE,hid]at hst
          split at hst
          · rename_i q;have:=uz q;rw[this]at hid;cases hid
          · rename_i q;obtain rfl:=uz q
            simp only[hid]at hst
            split at hst
            · rename_i cs hcs;rw[hcs,nG hst]
            · cases hst
          · cases hst
       have hnone:ι h1.next=none:=inv.bi p z e1 h1 _ _ _ hz hzb hnd t1 t2 hid
       refine kk hio hc inv.env hev (fun hop _=> ?_) (fun q _=>by rw[q]at hid;cases hid)
       obtain⟨v',w',g1,hm⟩:=fC inv.env hop (cs:=b.1) (mk:=b.2) hb1
       refine aa g1 ?_
       obtain⟨dr,arr,ty,fz,rfl,hfz,hlen,hval,hv⟩:=hm.ex
       have rn:=(inv.r.drew dr).qD (id:=h1.next) hnone (cs:=b.1) (arr:=arr) (t:=ty) (fz:=fz) (h':=G) hfz (uK _) (G.lt _ _ hget)
        (fun i c q=>by
          by_cases e:i=h1.next
          · subst e;rw[hget]at q;exact .inl ⟨rfl,(uz q).symm⟩
          · exact .inr ⟨e,q⟩) hlen hval
       refine hK _ _ _ _ _ _ (inv.next d hnt hz hnd hio hc hed t3 inv.hG (hld0 hzl') inv.le (Io.eY _ hnone) (fun _ _ _ q=>q) ⟨inv.gr.nx,fun _ _ q=>Io.eY _ hnone _ _ (inv.gr.io _ _ q),inv.gr.mm, ?_⟩ rn (hv _ _ (by simp [Io.put])) ?_)
       · intro id l hid' q
         refine inv.gr.iP id l hid' ?_
         have:=d.fh (Nat.zero_le p) (e1:=e0) (h1:=h0) rfl t1
         simp only[Io.put]at q
         rwa [if_neg (by omega)]at q
       · intro q y eq hq u h' id hy hb hne hu hp hev' hid2
         have h3:=inv.bi q y eq hq u h' id hy hb hu hp hev' hid2
         simp only[Io.put]
         rw[if_neg]
         · exact h3
         · rintro rfl
           rcases ch hb hev' with ⟨rfl,_,_⟩|⟨b',_,_,rfl,hid',_⟩
           · cases hid2
           · rw[hid2]at hid'
             have hid':=uz hid'
             rcases Nat.lt_or_gt_of_ne hne with hlt|hlt
             · have h4:=d.fh (Nat.succ_le_of_lt hlt) (d.eH hy hp hev') t1
               simp only[bC]at h4;omega
             · have h4:=d.fh (Nat.succ_le_of_lt hlt) (d.eH hz t1 t2) hp
               simp only[bC]at h4;omega
end
end Ab
namespace Ab
open Go RowKit
theorem iC {α:Type} {p q:α→Bool}:∀{l:List α},(∀x∈l,q x=true→p x=true)→∀{x:α},x∈l→p x=true→q x=false→l.countP q<l.countP p
 |[],_,x,hx,_,_=>by simp at hx
 | y :: l, h, x, hx, hp, hq => by
   have hle:l.countP q≤l.countP p:=List.countP_mono_left fun z hz=>h z (by simp [hz])
   rw[List.countP_cons,List.countP_cons]
   rcases u5.1 hx with rfl|hx
   · rw[hp,hq];simp;omega
   · have:=iC (fun z hz=>h z (by simp [hz])) hx hp hq
     have h2:=h y (by simp)
     cases hqy:q y with
     |false=>simp;omega
     |true=>rw[h2 hqy];simp;omega
section
variable {L:Lk} {w0:World}
variable {nt:Nat} {ops:Array Oper} {call:ae} {ord:List Nat} {zs:List Z} {fl:List (Nat×List Nat)} {e0:Env} {h0:H} {E:Env} {hN:H} {gs:List H}
theorem Inv.fin (d:DH L nt ops call ord zs fl e0 h0 E hN gs) {ι0:Io} {M0:Mm} {a0:Act} {listed:Array Bool} {a:Act} {w:World} {ι:Io} {M:Mm} {G:H} {j:Nat}
 (inv:Inv L w0 ops call zs e0 h0 E gs ι0 M0 a0 listed a w ι M G j) (hall:∀z∈zs,listed.getD z.i false=true):G=hN∧bc L ι M E a.tmps:=by
 have hj:j=nl (zs.map (·.x)):=by
  rcases Nat.lt_or_ge j (nl (zs.map (·.x)))with h|h
  · obtain⟨q,x,_,hx,hl,hn⟩:=iO (zs.map (·.x)) (zs.map (·.x)).length j (by rw[List.take_length];exact h)
    rw[uT]at hx
    obtain⟨y,hy,rfl⟩:=uA.1 hx
    have:=(inv.ld q y hy hl).1 (hall y (uO hy))
    omega
  · have:=inv.le;omega
 have hG:=inv.hG
 rw[hj,fF d.ev]at hG
 refine⟨(uz hG).symm,fun t=> ?_⟩
 have:=inv.env t
 rw[cut,bp,if_neg]at this
 · exact this
 · intro m
   obtain⟨z,hz,hu,_⟩:=cj.1 m
   simp only[hall z hz]at hu;cases hu
theorem Inv.any (hcal : Callee L w0 call) (hbod : dj L) (d : DH L nt ops call ord zs fl e0 h0 E hN gs) {ι0 : Io} {M0 : Mm} {a0 : Act} (hnt : nt ≤ a0.tmps.size) {Q : Exit → Act → World → Prop}
 (hQ:∀ι' M' a' w',Gr h0 ι0 M0 hN ι' M'→R L w0 ι' M' hN w'→bc L ι' M' E a'.tmps→a'.tmps.size=a0.tmps.size→a'.defers=a0.defers→Q .normal a' w'):
 ∀(fuel:Nat) {listed:Array Bool} {a:Act} {w:World} {ι:Io} {M:Mm} {G:H} {j:Nat},Inv L w0 ops call zs e0 h0 E gs ι0 M0 a0 listed a w ι M G j→(zs.countP fun z=> !listed.getD z.i false)≤fuel→wpAny L.P .any ops Q fuel listed a w:=by
 intro fuel
 have fin:∀{listed:Array Bool} {a:Act} {w:World} {ι:Io} {M:Mm} {G:H} {j:Nat},Inv L w0 ops call zs e0 h0 E gs ι0 M0 a0 listed a w ι M G j→(∀z∈zs,listed.getD z.i false=true)→Q .normal a w:=by
  intro listed a w ι M G j inv hall
  obtain⟨rfl,he⟩:=inv.fin d hall
  exact hQ _ _ _ _ inv.gr inv.r he inv.tG inv.tV
 have mem:∀{listed:Array Bool},∀i∈Region.ready .any ops listed,∃z∈zs,z.i=i∧listed.getD z.i true=false:=by
  intro listed i hi
  obtain⟨hu,o,ho,_⟩:=mem_ready.1 hi
  obtain⟨p,z,hz,rfl⟩:=d.uc (uU.1 ho).1
  exact⟨z,uO hz,rfl,hu⟩
 have tf:∀{listed:Array Bool} {i:Nat},listed.getD i true=false→listed.getD i false=false:=by
  intro listed i h
  rw[uM]at h ⊢
  cases hg:listed[i]? with
  |none=>rfl
  |some b=>rw[hg]at h;exact h
 induction fuel with
 | zero =>
   intro listed a w ι M G j inv hc
   have hall:∀z∈zs,listed.getD z.i false=true:=by
    intro z hz
    have:=List.countP_eq_zero.1 (Nat.le_zero.1 hc) z hz
    simpa using this
   refine⟨?_,fin inv hall⟩
   cases hr:Region.ready .any ops listed with
   |nil=>rfl
   | cons i l =>
     obtain⟨z,hz,rfl,hu⟩:=mem i (by rw[hr];simp)
     have:=tf hu;rw[hall z hz]at this;cases this
 | succ fuel ih =>
   intro listed a w ι M G j inv hc
   refine⟨fun hr=> ?_,fun i hi=> ?_⟩
   · by_cases hall:∀z∈zs,listed.getD z.i false=true
     · exact fin inv hall
     · have:∃z∈zs,¬listed.getD z.i false=true:=by
        by_cases hx:∃z∈zs,¬listed.getD z.i false=true
        · exact hx
        · exact absurd (fun z hz=>by
           cases hb:listed.getD z.i false with
           |true=>rfl
           |false=>exact absurd ⟨z,hz,by simp [hb]⟩ hx) hall
       obtain⟨z,hz,hnd,o,ho,hed⟩:=iN (done:=fun i=>listed.getD i false=true) d.mz (fun z hz=>by simp at hz) this
       have:z.i∈Region.ready .any ops listed:=by
        refine mem_ready.2 ⟨?_,o,ho,fun e he hb=>hed e.on (List.mem_map.2 ⟨e,List.mem_filter.2 ⟨by simpa using he,hb⟩,rfl⟩)⟩
        have hlt:z.i<listed.size:=by rw[inv.sz];exact(uU.1 ho).1
        simp only[Bool.not_eq_true]at hnd
        rw[uM,Array.getElem?_eq_getElem hlt]at hnd ⊢
        exact hnd
       rw[hr]at this;cases this
   · refine inv.step hcal hbod d hnt hi fun a' w' ι' M' G' j' inv'=>ih inv' ?_
     obtain⟨z,hz,rfl,hu⟩:=mem i hi
     have hlt:z.i<listed.size:=by
      obtain⟨_,o,ho,_⟩:=mem_ready.1 hi
      rw[inv.sz];exact(uU.1 ho).1
     have:=iC (l:=zs) (p:=fun z=> !listed.getD z.i false) (q:=fun y=> !(listed.setIfInBounds z.i true).getD y.i false) (fun y hy hq=>by
      cases hb:listed.getD y.i false with
      |false=>rfl
      |true=>rw[(gI hlt).2 (.inr hb)]at hq;cases hq) hz (by simp only[tf hu];rfl) (by simp only[(gI hlt).2 (.inl rfl)];rfl)
     omega
theorem j9 (hm : L.P.follows .mixedOrders = true) (hcal : Callee L w0 call) (hbod : dj L) (hn : aR call) {os : List aj} (hc : kH L nt ops ord fl = some os) {ι : Io} {M : Mm} {w : World} {a : Act} {id : Nat}
 (he:bc L ι M e0 a.tmps) (hnt:nt≤a.tmps.size) (r:R L w0 ι M h0 w) (hev:aO call os e0 h0=some (E,hN,gs)) (hst:bb call os E gs fl=true) {Q:Exit→Act→World→Prop}
 (hQ:∀ι' M' a' w',Gr h0 ι M hN ι' M'→R L w0 ι' M' hN w'→bc L ι' M' E a'.tmps→a'.tmps.size=a.tmps.size→a'.defers=a.defers→Q .normal a' w'):(Code.region id ops true).wp L.P Q a w:=by
 obtain⟨zs,rfl,d⟩:=DH.of hc hev hst hn
 refine wp_region_any hm ?_
 obtain⟨G,hG,hg⟩:=dw hev
 have hf:∀i,(Array.replicate ops.size false).getD i false=false:=fun i=>by
  rw[uM]
  cases h:(Array.replicate ops.size false)[i]? with
  |none=>rfl
  |some b=>obtain⟨hlt,hb⟩:=uU.1 h;simp at hb;simp [←hb]
 have inv:Inv L w0 ops call zs e0 h0 E gs ι M a (Array.replicate ops.size false) a {w with drawn:=w.drawn+1} ι M G 0:=by
  refine⟨by simp,fun i o _ h=>(by have h2:(Array.replicate ops.size false).getD i false=true:=h;rw[hf]at h2;cases h2),hG,fun p z _ _=>⟨fun h=>(by rw[hf]at h;cases h),fun h=>(by omega)⟩,Nat.zero_le _,⟨hg.nx,fun _ _ q=>q,fun _ _ _ q=>q,fun _ _ _ q=>q⟩,(r.drew _).gw hg,fun t=> ?_,rfl,rfl, ?_⟩
  · have hlk:look (cut zs (fun i=>(Array.replicate ops.size false).getD i false) e0 E) t=look e0 t:=by
     rw[cut,bp]
     by_cases hu:t∈rl zs fun i=>(Array.replicate ops.size false).getD i false
     · rw[if_pos hu]
     · rw[if_neg hu]
       refine bm (cH d.ev) t fun m=>hu ?_
       have:t∈jt ((zs.map (·.x)).drop 0):=m
       obtain⟨q,y,_,hy,hd⟩:=d.drop this
       exact cj.2 ⟨y,uO hy,hf _,hd⟩
    rw[hlk];exact he t
  · intro q y eq hq v h' id hy hb _ hp hev' hid
    cases hι:ι id with
    |none=>rfl
    | some l =>
      rcases ch hb hev' with ⟨rfl,_,_⟩|⟨b,_,_,rfl,hid',_⟩
      · cases hid
      · rw[hid]at hid';obtain rfl:=uz hid'
        have h1:=r.j8 _ l hι
        have h2:=d.fh (Nat.zero_le q) (e1:=e0) (h1:=h0) rfl hp
        omega
 refine inv.any hcal hbod d hnt hQ ops.size ?_
 refine u6 List.countP_le_length ?_
 rw[←d.len,←(eE d.mz).1];simp
def comp (L:Lk) (nt:Nat):Code→aH→Option aH
 | .skip,.skip=>some .skip
 | .region _ ops false,.oP _ wW=>(dH L nt ops ops.toList).bind fun os=>some (.oP os wW)
 | .region _ ops true,.iY ord _ fl wW=>(kH L nt ops ord fl).bind fun os=>some (.iY ord os fl wW)
 | .seq a b,.seq x y=>(comp L nt a x).bind fun x'=>(comp L nt b y).bind fun y'=>some (.seq x' y')
 | .cond c a b,.cond _ x y wW=>(cX L c).bind fun c'=>(comp L nt a x).bind fun x'=>(comp L nt b y).bind fun y'=>some (.cond c' x' y' wW)
 | .block id c,.block _ x wW=>(comp L nt c x).bind fun x'=>some (.block id x' wW)
 | .loop c,.loop wW x=>(comp L nt c x).bind fun x'=>some (.loop wW x')
 | .exit id,.exit _=>some (.exit id)
 | .ret,.ret=>some .ret
 |_,_=>none
def mL:Ex→Exit
 | .normal=>.normal
 | .exit id=>.exit id
 | .ret=>.ret
theorem nK (hm : L.P.follows .mixedOrders = true) (hcal : Callee L w0 call) (hbod : dj L) (hn : aR call) (k : Nat) : ∀ (c : Code) (x0 x : aH), comp L nt c x0 = some x → ∀ {e : Env} {a : Act} {ι : Io} {M : Mm} {h : H} {w : World} {ex : Ex} {e' : Env} {h' : H} {Q : Exit → Act → World → Prop},
 bc L ι M e a.tmps→nt≤a.tmps.size→R L w0 ι M h w→aM call (aK k) x e h=some (ex,e',h')→
 (∀ι' M' a' w',Gr h ι M h' ι' M'→R L w0 ι' M' h' w'→bc L ι' M' e' a'.tmps→a'.tmps.size=a.tmps.size→a'.defers=a.defers→Q (mL ex) a' w')→c.wp L.P Q a w:=by
 intro c
 induction c with
 | skip =>
   intro x0 x hx e a ι M h w ex e' h' Q he hnt r hev hQ
   cases x0<;>simp only[comp,reduceCtorEq]at hx
   obtain rfl:=uz hx
   cases hev
   exact wp_skip (hQ _ _ _ _ (.refl _ _ _) r he rfl rfl)
 | region id ops dr =>
   intro x0 x hx e a ι M h w ex e' h' Q he hnt r hev hQ
   cases dr with
   | false =>
     cases x0<;>simp only[comp,reduceCtorEq]at hx
     simp only[uy]at hx
     obtain⟨os,h1,hx⟩:=hx
     obtain rfl:=uz hx
     simp only[aM,uy]at hev
     obtain⟨⟨e1,h2⟩,hv,hev⟩:=hev
     cases hev
     refine wp_region ?_
     have:=mU hcal hbod hn ops.toList 0 (Q:=Q) (fun j=>by simp) h1 he hnt r hv (fun ι' M' a' w' g r' he' hs hd=>hQ _ _ _ _ g r' (he'.ay _) hs hd)
     rwa [←List.range_eq_range',Array.length_toList]at this
   | true =>
     cases x0<;>simp only[comp,reduceCtorEq]at hx
     simp only[uy]at hx
     obtain⟨os,h1,hx⟩:=hx
     obtain rfl:=uz hx
     simp only[aM,uy]at hev
     obtain⟨⟨e1,h2,gs⟩,hv,hev⟩:=hev
     split at hev
     · rename_i hst
       cases hev
       exact j9 hm hcal hbod hn h1 he hnt r hv hst (fun ι' M' a' w' g r' he' hs hd=>hQ _ _ _ _ g r' (he'.ay _) hs hd)
     · cases hev
 | seq c1 c2 i1 i2 =>
   intro x0 x hx e a ι M h w ex e' h' Q he hnt r hev hQ
   cases x0<;>simp only[comp,reduceCtorEq]at hx
   simp only[uy]at hx
   obtain⟨y1,g1,y2,g2,hx⟩:=hx
   obtain rfl:=uz hx
   simp only[aM,uy]at hev
   obtain⟨⟨ex1,e1,h1⟩,hv,hev⟩:=hev
   refine wp_seq (i1 _ _ g1 he hnt r hv fun ι' M' a' w' g r' he' hs hd=> ?_)
   split at hev
   · rename_i q;cases q
     exact i2 _ _ g2 he' (by rw[hs];exact hnt) r' hev fun ι2 M2 a2 w2 gg r2 he2 hs2 hd2=>hQ _ _ _ _ (g.trans gg) r2 he2 (by rw[hs2,hs]) (by rw[hd2,hd])
   · rename_i hne
     cases hev
     have:Q (mL ex) a' w':=hQ _ _ _ _ g r' he' hs hd
     cases ex with
     |normal=>exact absurd rfl (hne _ _)
     |exit id=>exact this
     |ret=>exact this
 | cond cnd c1 c2 i1 i2 =>
   intro x0 x hx e a ι M h w ex e' h' Q he hnt r hev hQ
   cases x0<;>simp only[comp,reduceCtorEq]at hx
   simp only[uy]at hx
   obtain⟨c',g0,y1,g1,y2,g2,hx⟩:=hx
   obtain rfl:=uz hx
   simp only[aM]at hev
   split at hev
   · rename_i t ht
     have hc:=aq he g0
     rw[ht]at hc
     refine wp_cond (t:=t) hc.bY ?_
     simp only[uy]at hev
     obtain⟨⟨ex1,e1,h1⟩,hv,hev⟩:=hev
     have hout:ex1=ex∧h1=h'∧∀ι' M' (tm:Array Value),bc L ι' M' e1 tm→bc L ι' M' e' tm:=by
      split at hev
      · rename_i q;cases q;cases hev;exact⟨rfl,rfl,fun _ _ _ he=>he.ay _⟩
      · cases hev;exact⟨rfl,rfl,fun _ _ _ he=>he⟩
     obtain⟨rfl,rfl,hr⟩:=hout
     cases t with
     |true=>exact i1 _ _ g1 he hnt r hv fun ι' M' a' w' g r' he' hs hd=>hQ _ _ _ _ g r' (hr _ _ _ he') hs hd
     |false=>exact i2 _ _ g2 he hnt r hv fun ι' M' a' w' g r' he' hs hd=>hQ _ _ _ _ g r' (hr _ _ _ he') hs hd
   · cases hev
 | block id c1 i1 =>
   intro x0 x hx e a ι M h w ex e' h' Q he hnt r hev hQ
   cases x0<;>simp only[comp,reduceCtorEq]at hx
   simp only[uy]at hx
   obtain⟨y1,g1,hx⟩:=hx
   obtain rfl:=uz hx
   simp only[aM,uy]at hev
   obtain⟨⟨ex1,e1,h1⟩,hv,hev⟩:=hev
   refine wp_block (i1 _ _ g1 he hnt r hv fun ι' M' a' w' g r' he' hs hd=> ?_)
   split at hev
   · rename_i q;cases q;cases hev;exact hQ _ _ _ _ g r' (he'.ay _) hs hd
   · rename_i j _ _ q;cases q
     simp only[mL,Exit.inBlock]
     split at hev
     · rename_i hj;cases hev;rw[if_pos hj];exact hQ _ _ _ _ g r' (he'.ay _) hs hd
     · rename_i hj;cases hev;rw[if_neg hj];exact hQ _ _ _ _ g r' he' hs hd
   · rename_i q;cases q;cases hev;exact hQ _ _ _ _ g r' he' hs hd
 | loop c1 i1 =>
   intro x0 x hx e a ι M h w ex e' h' Q he hnt r hev hQ
   cases x0<;>simp only[comp,reduceCtorEq]at hx
   rename_i wW y
   simp only[uy]at hx
   obtain⟨y1,g1,hx⟩:=hx
   obtain rfl:=uz hx
   simp only[aM]at hev
   have key:∀(n:Nat) {e:Env} {a:Act} {ι:Io} {M:Mm} {h:H} {w:World},bc L ι M e a.tmps→nt≤a.tmps.size→R L w0 ι M h w→aK n (fun e h=>aM call (aK k) y1 (ay e wW) h) e h=some (ex,e',h')→
    (∀ι' M' a' w',Gr h ι M h' ι' M'→R L w0 ι' M' h' w'→bc L ι' M' e' a'.tmps→a'.tmps.size=a.tmps.size→a'.defers=a.defers→Q (mL ex) a' w')→Code.rounds L.P c1 Q n a w:=by
    intro n
    induction n with
    |zero=>intro e a ι M h w _ _ _ hev;cases hev
    | succ n ih =>
      intro e a ι M h w he hnt r hev hQ
      simp only[aK,uy]at hev
      obtain⟨⟨ex1,e1,h1⟩,hv,hev⟩:=hev
      refine i1 _ _ g1 (he.ay _) hnt r hv fun ι' M' a' w' g r' he' hs hd=> ?_
      split at hev
      · rename_i q;cases q
        exact ih he' (by rw[hs];exact hnt) r' hev fun ι2 M2 a2 w2 gg r2 he2 hs2 hd2=>hQ _ _ _ _ (g.trans gg) r2 he2 (by rw[hs2,hs]) (by rw[hd2,hd])
      · rename_i hne
        cases hev
        have:Q (mL ex) a' w':=hQ _ _ _ _ g r' he' hs hd
        cases ex with
        |normal=>exact absurd rfl (hne _ _)
        |exit id=>exact this
        |ret=>exact this
   exact wp_loop_rounds k (key k he hnt r hev hQ)
 | exit id =>
   intro x0 x hx e a ι M h w ex e' h' Q he hnt r hev hQ
   cases x0<;>simp only[comp,reduceCtorEq]at hx
   obtain rfl:=uz hx
   cases hev
   exact wp_exit (hQ _ _ _ _ (.refl _ _ _) r he rfl rfl)
 | ret =>
   intro x0 x hx e a ι M h w ex e' h' Q he hnt r hev hQ
   cases x0<;>simp only[comp,reduceCtorEq]at hx
   obtain rfl:=uz hx
   cases hev
   exact wp_ret (hQ _ _ _ _ (.refl _ _ _) r he rfl rfl)
 | _ =>
   intro x0 x hx
   cases x0<;>simp only[comp,reduceCtorEq]at hx
end
end Ab
namespace Ab
open Go RowKit
structure Kp (h h':H):Prop where
 fl:h'.floor=h.floor
 get:∀id,id<h.floor→h'.get id=h.get id
theorem Kp.refl (h:H):Kp h h:=⟨rfl,fun _ _=>rfl⟩
theorem Kp.trans {a b c:H} (h:Kp a b) (k:Kp b c):Kp a c:=⟨k.fl.trans h.fl,fun id hi=>by rw[k.get id (by rw[h.fl];exact hi),h.get id hi]⟩
theorem Kp.alloc {h:H} (hf:h.floor≤h.next) (cs:List AV):Kp h (h.alloc cs):=⟨H.jy h cs,fun id hi=>by rw[H.aX];rw[if_neg (by omega)]⟩
theorem Kp.set {h:H} {id:Nat} (hf:h.floor≤id) (cs:List AV):Kp h (h.set id cs):=⟨H.k9 h id cs,fun i hi=>by rw[H.dI];rw[if_neg (by omega)]⟩
theorem Kp.del {h:H} {id:Nat} (hf:h.floor≤id):Kp h (h.del id):=⟨rfl,fun i hi=>by rw[H.ep];rw[if_neg (by omega)]⟩
def rJ (call:ae):Prop:=∀f a h v h',h.floor≤h.next→call f a h=some (v,h')→Kp h h'
theorem lP {h h':H} {sz by_:Nat} {a:AV} {n:Nat} {bs:List AV} {v:AV} (hf:h.floor≤h.next) (hh:dX h sz by_ a n bs=some (v,h')):Kp h h':=by
 unfold dX at hh
 repeat' split at hh
 all_goals first
  |(cases hh;done)
  |(obtain⟨_,rfl⟩:=uB (uz hh);exact .alloc hf _)
  |(obtain⟨_,rfl⟩:=uB (uz hh);exact .refl _)
  |skip
 rename_i hsf
 simp only[uy]at hh
 obtain⟨cs,_,hh⟩:=hh
 repeat' split at hh
 all_goals first
  |(cases hh;done)
  |(obtain⟨_,rfl⟩:=uB (uz hh);exact .set hsf.2 _)
  |(obtain⟨_,rfl⟩:=uB (uz hh);exact(Kp.del hsf.2).trans (Kp.alloc (show(h.del _).floor≤(h.del _).next from hf) _))
theorem nO {call : ae} (hc : rJ call) {e : Env} {h h' : H} {o : cf} {v : AV} (hf : h.floor ≤ h.next) (hev : ah call e h o = some (v, h')) : Kp h h' := by
 by_cases hb:o.aJ=true
 · obtain⟨b,_,_,rfl⟩:=da hb hev
   exact .alloc hf _
 by_cases hl:o.aP=true
 · cases o <;> simp only [cf.aP, uH] at hl <;> simp only [ah] at hev
   case store n p x=>
    simp only[uy,uC,uE]at hev
    obtain⟨h1,hs,_,rfl⟩:=hev
    unfold dm at hs
    split at hs
    · simp only[uy]at hs
      obtain⟨cs,_,hs⟩:=hs
      split at hs
      · rename_i q;obtain rfl:=uz hs;exact .set q.1 _
      · cases hs
    · cases hs
   case call f args=>
    split at hev
    · exact hc _ _ _ _ _ hf hev
    · cases hev
   case inv2=>
    split at hev
    · split at hev
      · simp only[uy]at hev
        obtain⟨_,_,hev⟩:=hev
        exact hc _ _ _ _ _ hf hev
      · cases hev
    · cases hev
   case app=>
    unfold kN at hev
    simp only[uy]at hev
    obtain⟨r,_,hev⟩:=hev
    exact lP hf hev
   case jS=>
    unfold iu at hev
    repeat' split at hev
    all_goals first
     |(cases hev;done)
     |(obtain⟨_,rfl⟩:=uB (uz hev);exact .alloc hf _)
   case copy=>
    unfold iy at hev
    simp only[uy]at hev
    obtain⟨r,_,hev⟩:=hev
    split at hev
    · obtain⟨_,rfl⟩:=uB (uz hev);exact .refl _
    · split at hev
      · rename_i q
        simp only[uy]at hev
        obtain⟨r,_,hev⟩:=hev
        split at hev
        · obtain⟨_,rfl⟩:=uB (uz hev);exact .set q.2.1 _
        · cases hev
      · cases hev
    · cases hev
   case clear=>
    simp only[uy,uC,uE]at hev
    obtain⟨h1,hev,_,rfl⟩:=hev
    unfold eM at hev
    repeat' split at hev
    all_goals first
     |(cases hev;done)
     |(obtain rfl:=uz hev;exact .refl _)
     |skip
    rename_i q
    simp only[uy]at hev
    obtain⟨r,_,hev⟩:=hev
    split at hev
    · obtain rfl:=uz hev;exact .set q.2.1 _
    · cases hev
 · rw[bP (by simpa using hl) (by simpa using hb) hev];exact .refl _
theorem k8 {call:ae} (hc:rJ call) {e:Env} {h h':H} {o:aj} {v:AV} (hf:h.floor≤h.next) (hev:ai call o e h=some (v,h')):Kp h h':=by
 unfold ai at hev
 repeat' split at hev
 all_goals first
  |exact nO hc hf hev
  |(obtain⟨_,rfl⟩:=uB (uz hev);exact .refl _)
  |(cases hev;done)
theorem Kp.fn {h h':H} (k:Kp h h') (hn:h.next≤h'.next) (hf:h.floor≤h.next):h'.floor≤h'.next:=by rw[k.fl];omega
theorem gy {call:ae} (hn:aR call) (hc:rJ call):∀{os:List aj} {e e':Env} {h h':H},h.floor≤h.next→au call os e h=some (e',h')→Kp h h'
 |[],_,_,_,_,_,hev=>by obtain⟨_,rfl⟩:=uB (uz hev);exact .refl _
 | o :: os, _, _, _, _, hf, hev => by
   simp only[au,uy]at hev
   obtain⟨r,h1,h2⟩:=hev
   have k:=k8 hc hf h1
   exact k.trans (gy hn hc (k.fn (cM hn h1) hf) h2)
def tD (F:Env→H→dO):Prop:=∀e h x e' h',h.floor≤h.next→F e h=some (x,e',h')→Kp h h'
theorem jC {F:Env→H→dO} (hN:ku F) (hF:tD F):∀n,tD (aK n F)
 |0,_,_,_,_,_,_,h=>by cases h
 | n + 1, e, h, x, e', h', hf, hev => by
   simp only[aK,uy]at hev
   obtain⟨⟨y,e1,h1⟩,ha,hb⟩:=hev
   have k:=hF _ _ _ _ _ hf ha
   split at hb
   · rename_i q;cases q
     exact k.trans (jC hN hF n _ _ _ _ _ (k.fn (hN _ _ _ _ _ ha) hf) hb)
   · cases hb;exact k
theorem dq {call : ae} (hn : aR call) (hc : rJ call) (d : Nat) : ∀ (x : aH), tD (aM call (aK d) x)
 | .skip,_,_,_,_,_,_,hev=>by cases hev;exact .refl _
 | .exit _,_,_,_,_,_,_,hev=>by cases hev;exact .refl _
 | .ret,_,_,_,_,_,_,hev=>by cases hev;exact .refl _
 | .oP ops wW, _, _, _, _, _, hf, hev => by
   simp only[aM,uy]at hev
   obtain⟨r,h1,h2⟩:=hev
   cases h2;exact gy hn hc hf h1
 | .iY ord ops fl wW, _, _, _, _, _, hf, hev => by
   simp only[aM,uy]at hev
   obtain⟨r,h1,h2⟩:=hev
   split at h2
   · cases h2;exact gy hn hc hf (cH h1)
   · cases h2
 | .seq a b, _, _, _, _, _, hf, hev => by
   simp only[aM,uy]at hev
   obtain⟨⟨y,e1,h1⟩,ha,hb⟩:=hev
   have k:=dq hn hc d a _ _ _ _ _ hf ha
   split at hb
   · rename_i q
     cases q
     exact k.trans (dq hn hc d b _ _ _ _ _ (k.fn (bI hn (cN d) a _ _ _ _ _ ha) hf) hb)
   · cases hb;exact k
 | .cond x a b wW, _, h0, _, _, _, hf, hev => by
   simp only[aM]at hev
   split at hev
   · simp only[uy]at hev
     obtain⟨⟨y,e1,h1⟩,ha,hb⟩:=hev
     have:Kp h0 h1:=by
      split at ha
      · exact dq hn hc d a _ _ _ _ _ hf ha
      · exact dq hn hc d b _ _ _ _ _ hf ha
     split at hb
     · rename_i q;cases q;cases hb;exact this
     · cases hb;exact this
   · cases hev
 | .block id c wW, _, _, _, _, _, hf, hev => by
   simp only[aM,uy]at hev
   obtain⟨⟨y,e1,h1⟩,ha,hb⟩:=hev
   have:=dq hn hc d c _ _ _ _ _ hf ha
   split at hb
   · rename_i q;cases q;cases hb;exact this
   · rename_i q;cases q
     split at hb<;>(cases hb;exact this)
   · rename_i q;cases q;cases hb;exact this
 | .loop wW c,_,_,_,_,_,hf,hev=>jC (fun _ _ _ _ _ h=>bI hn (cN d) c _ _ _ _ _ h) (fun _ _ _ _ _ hf h=>dq hn hc d c _ _ _ _ _ hf h) d _ _ _ _ _ hf hev
theorem jB (A : bg) : ∀ d, rJ (aU A d)
 |0,_,_,_,_,_,_,h=>by cases h
 | d + 1, f, args, h, v, h', hf, hev => by
   simp only[aU,uy]at hev
   obtain⟨fn,_,hr⟩:=hev
   unfold fk at hr
   split at hr
   · simp only[uy]at hr
     obtain⟨⟨y,e1,h1⟩,ha,hb⟩:=hr
     unfold fin at hb
     split at hb
     · cases hb
     · rename_i q;cases q
       simp only[uy]at hb
       obtain⟨vs,_,hb⟩:=hb
       split at hb
       · simp only[uy]at hb
         obtain⟨_,_,hb⟩:=hb
         cases hb;exact .refl _
       · rename_i hp;cases hb
         rw[if_neg hp]at ha
         exact dq (de A d) (jB A d) d _ _ _ _ _ _ hf ha
   · cases hr
end Ab
namespace Ab
open Go RowKit
section
variable {L:Lk} {w0:World} {ι ι1:Io} {M M1:Mm} {h h1:H} {w w1:World}
open Classical in
noncomputable def bJ (M1:Mm) (ι1:Io) (h1:H) (fl:Nat) (w1:World):Mm:=fun b o=>
 match M1 b o with
 |some v=>some v
 |none=>if∃id cs l,fl≤id∧h1.get id=some cs∧ι1 id=some l∧l.block=b∧l.base≤o∧o<l.base+cs.length then w1.cell? (at' b o)else none
theorem er (fl:Nat):nw M1 (bJ M1 ι1 h1 fl w1):=fun b o v q=>by simp only[bJ,q]
theorem kf (r:R L w0 ι1 M1 h1 w1) {fl id:Nat} (hid:fl≤id) {cs:List AV} (hg:h1.get id=some cs) {l:Loc} (hl:ι1 id=some l) {i:Nat} (hi:i<cs.length) {v:Value} (hv:w1.cell? (at' l.block (l.base+i))=some v):bJ M1 ι1 h1 fl w1 l.block (l.base+i)=some v:=by
 simp only[bJ]
 split
 · rename_i u hu;rw[r.ar _ _ _ hu]at hv;exact hv
 · rw[if_pos ⟨id,cs,l,hid,hg,hl,rfl,by omega,by omega⟩];exact hv
theorem gJ {fl b o:Nat} {v:Value} (hv:bJ M1 ι1 h1 fl w1 b o=some v):M1 b o=some v∨(w1.cell? (at' b o)=some v∧∃id cs l,fl≤id∧h1.get id=some cs∧ι1 id=some l∧l.block=b∧l.base≤o∧o<l.base+cs.length):=by
 simp only[bJ]at hv
 split at hv
 · rename_i u hu;obtain rfl:=uz hv;exact .inl hu
 · split at hv
   · rename_i q;exact .inr ⟨hv,q⟩
   · cases hv
theorem R.back (r:R L w0 ι M h w) (r1:R L w0 ι1 M1 h1 w1) (hg:∀id,id<h.next→h1.get id=h.get id) (hι:nk ι ι1) (hM:nw M M1):R L w0 ι (bJ M1 ι1 h1 h.next w1) h w1:=by
 have g:∀id cs l,h.get id=some cs→ι id=some l→h1.get id=some cs∧ι1 id=some l:=fun id cs l a b=>⟨by rw[hg id (r.j8 id l b)];exact a,hι _ _ b⟩
 refine⟨r1.below,r.j8,fun id cs l a b=>r1.hH id cs l (g _ _ _ a b).1 (g _ _ _ a b).2,fun id cs l a b=>r1.own id cs l (g _ _ _ a b).1 (g _ _ _ a b).2,fun id cs l a b i x hx=> ?_,r.gp,fun b o v hv=> ?_,fun b o v id cs l hv a c=> ?_⟩
 · obtain⟨v,q1,q2⟩:=r1.val id cs l (g _ _ _ a b).1 (g _ _ _ a b).2 i x hx
   obtain⟨v0,_,q3⟩:=r.val id cs l a b i x hx
   exact⟨v,q1,(q2.shrink hι q3).mono (fun _ _ q=>q) (er _)⟩
 · rcases gJ hv with q|⟨q,_⟩
   · exact r1.ar b o v q
   · exact q
 · obtain⟨a1,c1⟩:=g _ _ _ a c
   rcases gJ hv with q|⟨_,id',cs',l',q1,q2,q3,q4,q5,q6⟩
   · exact r1.hX b o v id cs l q a1 c1
   · intro hb
     have hne:id≠id':=fun e=>by have:=r.j8 id l c;omega
     have hlen:=(r1.hH id' cs' l' q2 q3)
     rcases r1.gp id id' cs cs' l l' a1 q2 c1 q3 hne (by omega)with hd|hd<;>omega
theorem bE {f:AV→Option AV}:∀{l l':List AV},fP f l=some l'→l'.length=l.length∧∀(i:Nat) (a':AV),l'[i]?=some a'→∃a,l[i]?=some a∧f a=some a'
 |[],l',h=>by obtain rfl:=uz h;exact⟨rfl,fun i a q=>by simp at q⟩
 | v :: r, l', h => by
   simp only[fP,uy]at h
   obtain⟨v',h1,r',h2,h3⟩:=h
   obtain rfl:=uz h3
   obtain⟨g1,g2⟩:=bE h2
   refine⟨by simp [g1],fun i a q=> ?_⟩
   cases i with
   |zero=>simp at q;subst q;exact⟨v,rfl,h1⟩
   |succ i=>simpa using g2 i a (by simpa using q)
theorem kq (r1 : R L w0 ι1 M1 h1 w1) {fl : Nat} (hold : ∀ id l, id < fl → ι1 id = some l → ι id = some l) : ∀ (n : Nat) (top : Bool) (a a' : AV) (v : Value), V L ι1 M1 a v → snap h1.get fl n top a = some a' →
 (top=true→V L ι (bJ M1 ι1 h1 fl w1) a' v)∧(top=false→VI L (bJ M1 ι1 h1 fl w1) a' v):=by
 intro n
 induction n with
 |zero=>intro top a a' v _ hs;cases hs
 | succ n ih =>
   intro top a a' v hV hs
   have ar:∀{x:AV},VI L M1 x v→a'=x→(top=true→V L ι (bJ M1 ι1 h1 fl w1) a' v)∧(top=false→VI L (bJ M1 ι1 h1 fl w1) a' v):=by
    intro x hx e
    subst e
    exact⟨fun _=>.ar (hx.mono (er _)),fun _=>hx.mono (er _)⟩
   have row:∀{t:Bool} {xs ys:List AV} {vs:List Value},fP (snap h1.get fl n t) xs=some ys→(∀(i:Nat) (a:AV) (v:Value),xs[i]?=some a→vs[i]?=some v→V L ι1 M1 a v)→
    (t=true→∀(i:Nat) (a:AV) (v:Value),ys[i]?=some a→vs[i]?=some v→V L ι (bJ M1 ι1 h1 fl w1) a v)∧(t=false→∀(i:Nat) (a:AV) (v:Value),ys[i]?=some a→vs[i]?=some v→VI L (bJ M1 ι1 h1 fl w1) a v):=by
    intro t xs ys vs hm hx
    obtain⟨_,g2⟩:=bE hm
    refine⟨fun ht i a v ha hv=> ?_,fun ht i a v ha hv=> ?_⟩
    · obtain⟨b,hb,hsb⟩:=g2 i a ha
      exact(ih t b a v (hx i b v hb hv) hsb).1 ht
    · obtain⟨b,hb,hsb⟩:=g2 i a ha
      exact(ih t b a v (hx i b v hb hv) hsb).2 ht
   have cells:∀{id:Nat} {cs:List AV} {l:Loc} {off m:Nat} {ys:List AV},¬id<fl→h1.get id=some cs→ι1 id=some l→fP (snap h1.get fl n false) ((cs.drop off).take m)=some ys→
    ∃vs:Nat→Value,(∀(i:Nat) (c:AV),ys[i]?=some c→bJ M1 ι1 h1 fl w1 l.block (l.base+off+i)=some (vs i))∧∀(i:Nat) (c:AV),ys[i]?=some c→VI L (bJ M1 ι1 h1 fl w1) c (vs i):=by
    intro id cs l off m ys hid hg hl hm
    obtain⟨_,g2⟩:=bE hm
    refine⟨fun i=>(w1.cell? (at' l.block (l.base+off+i))).getD undef, ?_⟩
    have key:∀(i:Nat) (c:AV),ys[i]?=some c→∃v,w1.cell? (at' l.block (l.base+off+i))=some v∧off+i<cs.length∧VI L (bJ M1 ι1 h1 fl w1) c v:=by
     intro i c hc
     obtain⟨b,hb,hsb⟩:=g2 i c hc
     have hb':cs[off+i]?=some b:=by
      rw[u9]at hb
      split at hb
      · rwa [uV]at hb
      · cases hb
     obtain⟨v,q1,q2⟩:=r1.val id cs l hg hl (off+i) b hb'
     rw[←uJ]at q1
     exact⟨v,q1,(uF.1 hb').1,(ih false b c v q2 hsb).2 rfl⟩
    refine⟨fun i c hc=> ?_,fun i c hc=> ?_⟩
    · obtain⟨v,q1,q2,_⟩:=key i c hc
      simp only[q1,Option.getD_some]
      rw[uJ]
      exact kf r1 (by omega) hg hl q2 (by rw[←uJ];exact q1)
    · obtain⟨v,q1,_,q3⟩:=key i c hc
      simp only[q1,Option.getD_some];exact q3
   cases a with
   |bot=>cases hV with|ar hx=>exact ar hx (uz hs).symm
   |bool b=>cases hV with|ar hx=>exact ar hx (uz hs).symm
   |int k m=>cases hV with|ar hx=>exact ar hx (uz hs).symm
   |str s=>cases hV with|ar hx=>exact ar hx (uz hs).symm
   |cK=>cases hV with|ar hx=>exact ar hx (uz hs).symm
   |aL c o=>cases hV with|ar hx=>exact ar hx (uz hs).symm
   |aQ=>cases hV with|ar hx=>exact ar hx (uz hs).symm
   |aW t c o l s=>cases hV with|ar hx=>exact ar hx (uz hs).symm
   |eZ=>cases hV with|ar hx=>exact ar hx (uz hs).symm
   |e9=>cases hV with|ar hx=>exact ar hx (uz hs).symm
   | aE id off =>
     obtain⟨l,hl,rfl⟩:=hV.aV
     simp only[snap]at hs
     split at hs
     · rename_i hid
       cases top with
       |false=>cases hs
       |true=>obtain rfl:=uz hs;exact⟨fun _=>.aE (hold id l hid hl),nofun⟩
     · rename_i hid
       simp only[uy]at hs
       obtain⟨cs,hg,ys,hm,hs⟩:=hs
       obtain rfl:=uz hs
       have hm':fP (snap h1.get fl n false) ((cs.drop 0).take cs.length)=some ys:=by simpa using hm
       obtain⟨vs,k1,k2⟩:=cells hid hg hl hm'
       have:VI L (bJ M1 ι1 h1 fl w1) (.aL ys off) (.pointer (some (at' l.block (l.base+off)))):=.aL vs (fun i c hc=>k1 i c hc) k2
       exact⟨fun _=>.ar this,fun _=>this⟩
   | aF id off len sz =>
     obtain⟨l,cap,ad,hl,rfl,c1,c2,c3,c4⟩:=hV.aI
     simp only[snap]at hs
     split at hs
     · rename_i hid
       cases top with
       |false=>cases hs
       |true=>obtain rfl:=uz hs;exact⟨fun _=>.aF (hold id l hid hl) c1 c2 c3 c4,nofun⟩
     · rename_i hid
       simp only[uy]at hs
       obtain⟨cs,hg,hs⟩:=hs
       split at hs
       · rename_i hle
         simp only[uy]at hs
         obtain⟨ys,hm,hs⟩:=hs
         obtain rfl:=uz hs
         obtain⟨vs,k1,k2⟩:=cells hid hg hl hm
         have hlen:=(bE hm).1
         have hmul:len* sz≤cap* sz:=uN sz c1
         have:VI L (bJ M1 ι1 h1 fl w1) (.aW false ys 0 len sz) (.slice (some ad) len cap):=
          .aW (b:=l.block) (base:=l.base+off) vs k1 k2 c1 (fun q=>by rw[c2 q];rfl) (by rw[hlen];simp only[List.length_take,List.length_drop];omega) nofun
         exact⟨fun _=>.ar this,fun _=>this⟩
       · cases hs
   | agg cs =>
     simp only[snap,uy]at hs
     obtain⟨ys,hm,hs⟩:=hs
     obtain rfl:=uz hs
     obtain⟨vs,rfl,q1,q2⟩:=hV.fS
     have hl:=(bE hm).1
     obtain⟨k1,k2⟩:=row hm q2
     exact⟨fun ht=>.agg (by omega) (k1 ht),fun ht=>.agg (by omega) (k2 ht)⟩
   | bS cs =>
     simp only[snap,uy]at hs
     obtain⟨ys,hm,hs⟩:=hs
     obtain rfl:=uz hs
     obtain⟨vs,rfl,q1,q2⟩:=hV.kL
     have hl:=(bE hm).1
     obtain⟨k1,k2⟩:=row hm q2
     exact⟨fun ht=>.bS (by omega) (k1 ht),fun ht=>.bS (by omega) (k2 ht)⟩
   | fn f as cs =>
     simp only[snap,uy]at hs
     obtain⟨ys,hm,zs,hm2,hs⟩:=hs
     obtain rfl:=uz hs
     obtain⟨fid,va,vc,rfl,q0,q1,q2,q3,q4⟩:=hV.eV
     have hl:=(bE hm).1
     have hl2:=(bE hm2).1
     obtain⟨k1,k2⟩:=row hm q3
     obtain⟨k3,k4⟩:=row hm2 q4
     exact⟨fun ht=>.fn q0 (by omega) (by omega) (k1 ht) (k3 ht),fun ht=>.fn q0 (by omega) (by omega) (k2 ht) (k4 ht)⟩
   | iface t x =>
     simp only[snap,uy]at hs
     obtain⟨y,hy,hs⟩:=hs
     obtain rfl:=uz hs
     obtain⟨tid,u,rfl,q1,q2⟩:=hV.bQ
     obtain⟨k1,k2⟩:=ih top x y u q2 hy
     exact⟨fun ht=>.iface q1 (k1 ht),fun ht=>.iface q1 (k2 ht)⟩
def cZ (L:Lk):List ResultVar→Option (List RV)
 |[]=>some []
 | .tmp t::r=>(cZ L r).bind fun rs=>some (.tmp t::rs)
 | .cell t ty::r=>(ir L.P ty).bind fun a=>(cu L.P ty).bind fun n=>(cZ L r).bind fun rs=>some (.cell t a n::rs)
theorem fi (r : R L w0 ι M h w) {e : Env} {tmps : Array Value} (he : bc L ι M e tmps) : ∀ {l : List ResultVar} {rs : List RV} {vs : List AV}, cZ L l = some rs → cO e h rs = some vs →
 ∃ vals : List Value, ((l.mapM fun
   | .tmp t=>pure (tmps.getD t undef)
   | .cell a t=>do loadVar t (←asAddr (tmps.getD a undef)):Sem (List Value)).run L.P w)=.ok vals w∧aw L ι M vs vals
 | [], rs, vs, hc, hr => by
   obtain rfl:=uz hc
   obtain rfl:=uz hr
   exact⟨[],rfl,rfl,fun i a v q=>by simp at q⟩
 | .tmp t :: l, rs, vs, hc, hr => by
   simp only[cZ,uy]at hc
   obtain⟨rs',hc,q⟩:=hc
   obtain rfl:=uz q
   simp only[cO,na,uy]at hr
   obtain⟨v,hv,vs',hr,q⟩:=hr
   obtain rfl:=uz hv
   obtain rfl:=uz q
   obtain⟨vals,g1,g2⟩:=fi r he hc hr
   refine⟨tmps.getD t undef::vals, ?_,by simp [g2.1],fun i a v ha hv=> ?_⟩
   · simp only[List.mapM_cons,Sem.run_bind,Sem.run_pure,Result.andThen_ok,g1]
   · cases i with
     |zero=>simp at ha hv;subst ha;subst hv;rw[←uM];exact he t
     |succ i=>exact g2.2 i a v (by simpa using ha) (by simpa using hv)
 | .cell t ty :: l, rs, vs, hc, hr => by
   simp only[cZ,uy]at hc
   obtain⟨ag,ha,n,hn,rs',hc,q⟩:=hc
   obtain rfl:=uz q
   simp only[cO,na,uy]at hr
   obtain⟨v,hv,vs',hr,q⟩:=hr
   obtain rfl:=uz q
   obtain⟨vals,g1,g2⟩:=fi r he hc hr
   have ht:=he t
   have hload:∃u,((do loadVar ty (←asAddr (tmps.getD t undef)):Sem Value).run L.P w)=.ok u w∧V L ι M v u:=by
    unfold bX at hv
    split at hv
    · rename_i id off q
      rw[q]at ht
      obtain⟨lo,hlo,hp⟩:=ht.aV
      simp only[uy]at hv
      obtain⟨cs,hg,hv⟩:=hv
      obtain⟨u,k1,k2⟩:=dK ha hn (r.row hg hlo) hv
      exact⟨u,by rw[hp];simpa [asAddr]using k1,k2⟩
    · rename_i cs off q
      rw[q]at ht
      obtain⟨b,base,hp,hrow⟩:=V.cJ r ht
      obtain⟨u,k1,k2⟩:=dK ha hn hrow hv
      exact⟨u,by rw[hp];simpa [asAddr]using k1,k2⟩
    · cases hv
   obtain⟨u,k1,k2⟩:=hload
   refine⟨u::vals, ?_,by simp [g2.1],fun i a x hx hy=> ?_⟩
   · simp only[List.mapM_cons,Sem.run_bind,Sem.run_pure,Result.andThen_ok,g1]at k1 ⊢
     rw[k1];simp only[Result.andThen_ok,g1]
   · cases i with
     |zero=>simp at hx hy;subst hx;subst hy;exact k2
     |succ i=>exact g2.2 i a x (by simpa using hx) (by simpa using hy)
theorem ik (r:R L w0 ι M h w) {e:Env} {fn:Func} {tmps:Array Value} (he:bc L ι M e tmps) {rs:List RV} {vs:List AV} (hc:cZ L fn.results.toList=some rs) (hr:cO e h rs=some vs):
 ∃v,(results fn tmps).run L.P w=.ok v w∧V L ι M (dE vs) v:=by
 obtain⟨vals,g1,g2⟩:=fi r he hc hr
 unfold results
 rw[Array.mapM_eq_mapM_toList]
 have:(if hx:vals.toArray.size=1 then vals.toArray[0]else .tuple vals.toArray)=(if hx:vals.toArray.size=1 then vals.toArray[0]else .tuple vals.toArray):=rfl
 refine⟨if hx:vals.toArray.size=1 then vals.toArray[0]else .tuple vals.toArray, ?_, ?_⟩
 · simp only[Sem.run_bind,Sem.run_map,Sem.run_pure]
   erw [g1]
   rfl
 · match vs,vals,g2 with
   |[v],[u],g2=>simpa [dE]using g2.2 0 v u rfl rfl
   |[],[],g2=>simp only[dE];exact .bS g2.1 g2.2
   | a :: b :: vs, x :: y :: vals, g2 =>
     have:¬(x::y::vals).toArray.size=1:=by simp
     rw[dif_neg this]
     exact .bS g2.1 g2.2
   |[],_::_,g2=>cases g2.1
   |_::_,[],g2=>cases g2.1
   |[_],_::_::_,g2=>cases g2.1
   |_::_::_,[_],g2=>cases g2.1
end
end Ab
namespace Ab
open Go RowKit
structure eL (L:Lk) (A:bg):Prop where
 hm:L.P.follows .mixedOrders=true
 fns : ∀ (fid : FuncId) (f : Nat), L.mf fid = some f → ∃ fn c, L.P.funcs[fid]? = some fn ∧ fn.body = some c ∧ (fn.name == "runtime.NumGoroutine") = false ∧
  ∀af,A f=some af→(∃x0,comp L fn.ntmps c x0=some af.body)∧cZ L fn.results.toList=some af.res
 uu:∀name t f d,L.iv name=some (t,f,d)→∀T,L.mt T=t→∃fid,L.mf fid=some f∧lN L.P T name fid d
 uw:∀t k,L.ta t=some k→rG L.P t∧∀T,L.mt T=k→T=t
theorem eL.pW {L:Lk} {A:bg} (lk:eL L A):dj L:=⟨fun fid f h=>let ⟨fn,c,a,b,d,_⟩:=lk.fns fid f h;⟨fn,c,a,b,d⟩,lk.uu,lk.uw⟩
theorem fK : ∀ (args : List AV) (k t : Nat), look (params k args) t = if k ≤ t then (args[t - k]?).getD .bot else .bot
 |[],k,t=>by simp [params,look]
 | v :: r, k, t => by
   simp only[params,look,fK r (k+1) t]
   by_cases h:k=t
   · subst h;simp
   · rw[if_neg h]
     by_cases hk:k≤t
     · have e:t-k=(t-(k+1))+1:=by omega
       rw[if_pos hk,if_pos (by omega),e,uS]
     · rw[if_neg hk,if_neg (by omega)]
section
variable {L:Lk} {w0:World} {ι:Io} {M:Mm} {h:H} {w:World}
theorem bc.params {args:List AV} {vals:List Value} (hr:aw L ι M args vals) (n:Nat):bc L ι M (params 0 args) (vals.toArray++Array.replicate n undef):=by
 intro t
 rw[fK,if_pos (Nat.zero_le _),Nat.sub_zero]
 cases ha:args[t]? with
 |none=>exact .ar (.bot _)
 | some a =>
   obtain⟨hlt,_⟩:=uF.1 ha
   have hlt':t<vals.length:=by rw[←hr.1];exact hlt
   have hv:vals[t]?=some vals[t]:=List.getElem?_eq_getElem hlt'
   have:=hr.2 t a _ ha hv
   rw[uM,Array.getElem?_append_left (by simpa using hlt')]
   simpa [hv]using this
theorem R.eh (r:R L w0 ι M h w):R L w0 ι M h.eh w:=⟨r.below,r.j8,r.hH,r.own,r.val,r.gp,r.ar,r.hX⟩
theorem callee {A : bg} (lk : eL L A) : ∀ d, Callee L w0 (aU A d)
 |0,_,_,_,_,_,_,_,_,_,_,_,hev,_,_=>by cases hev
 | d + 1, f, fid, args, vals, ι, M, h, h', w, v, hmf, hev, r, hrow => by
   have ih:=callee lk d
   obtain⟨fn,c,hf,hb,_,hA⟩:=lk.fns fid f hmf
   simp only[aU,uy]at hev
   obtain⟨af,haf,hev⟩:=hev
   obtain⟨⟨x0,hx⟩,hres⟩:=hA af haf
   unfold fk at hev
   split at hev
   · rename_i hnp
     simp only[uy]at hev
     obtain⟨⟨ex,e1,h1⟩,hv,hfin⟩:=hev
     have hsz:fn.ntmps≤(vals.toArray++Array.replicate (fn.ntmps-vals.toArray.size) undef).size:=by simp;omega
     refine calls_of_wp hf hb ?_
     have hr':R L w0 ι M (if af.pure=true then h.eh else h) w:=by
      split
      · exact r.eh
      · exact r
     refine nK lk.hm ih lk.pW (de A d) d c x0 af.body hx (a:={tmps:=vals.toArray++Array.replicate (fn.ntmps-vals.toArray.size) undef,defers:=[]}) (bc.params hrow _) hsz hr' hv ?_
     intro ι1 M1 a1 w1 g r1 he1 _ hd1
     have post:∀(P:Value→World→Prop) (vs:List AV),cO e1 h1 af.res=some vs→(∀u,V L ι1 M1 (dE vs) u→P u w1)→bodyPost L.P fn (fun e w'=>∃v',e=.returned v'∧P v' w') .normal a1 w1:=by
      intro P vs hvs hP
      obtain⟨u,k1,k2⟩:=ik r1 (fn:=fn) he1 hres hvs
      exact⟨hd1,u,k1,u,rfl,hP u k2⟩
     have main:∀vs,cO e1 h1 af.res=some vs→(if af.pure=true then(snap h1.get h.next g9 true (dE vs)).bind fun v=>some (v,h)else some (dE vs,h1))=some (v,h')→
      bodyPost L.P fn (fun e w'=>∃v',e=.returned v'∧Out L w0 ι M h h' v v' w') .normal a1 w1:=by
      intro vs hvs hfin
      split at hfin
      · rename_i hp
        simp only[uy]at hfin
        obtain⟨v2,hsn,hfin⟩:=hfin
        obtain⟨rfl,rfl⟩:=uB (uz hfin)
        simp only[hp,if_true]at g hv
        have kp:=dq (de A d) (jB A d) d _ _ _ _ _ _ (uK _) hv
        refine post (fun u w'=>Out L w0 ι M h h v2 u w') vs hvs fun u hu=> ?_
        have hold:∀id l,id<h.next→ι1 id=some l→ι id=some l:=fun id l a b=>g.iP id l a b
        exact⟨ι,bJ M1 ι1 h1 h.next w1,fun _ _ q=>q,fun b o x q=>er _ b o x (g.mm _ _ _ q),fun _ _ _ q=>q,r.back r1 (fun id hid=>kp.get id hid) g.io g.mm,(kq r1 hold _ true _ _ _ hu hsn).1 rfl⟩
      · rename_i hp
        obtain⟨rfl,rfl⟩:=uB (uz hfin)
        rw[if_neg hp]at g
        exact post (fun u w'=>Out L w0 ι M h h1 (dE vs) u w') vs hvs fun u hu=>⟨ι1,M1,g.io,g.mm,g.iP,r1,hu⟩
     unfold fin at hfin
     split at hfin
     · cases hfin
     · rename_i hne q
       cases q
       simp only[uy]at hfin
       obtain⟨vs,hvs,hfin⟩:=hfin
       have:=main vs hvs hfin
       cases ex with
       |normal=>exact this
       |ret=>exact this
       |exit id=>exact(hne _ rfl).elim
   · cases hev
theorem jq {A:bg} (lk:eL L A):Callee L w0 (aS A):=by
 intro f fid args vals ι M h h' w v hmf hev r hrow
 obtain⟨n,hn⟩:=eU hev
 exact callee lk n f fid args vals ι M h h' w v hmf hn r hrow
end
end Ab
namespace Ab
open Go RowKit ChangeShapes WideShapes
def tu:Io:=fun _=>none
def ux:Mm:=fun _ _=>none
theorem R.start (L:Lk) (W:World) {M:Mm} (hM:∀b o v,M b o=some v→W.cell? (at' b o)=some v):R L W tu M H.empty W:=
 ⟨Below.refl _ _,fun _ _ h=>(by cases h),fun _ _ _ _ h=>(by cases h),fun _ _ _ _ h=>(by cases h),fun _ _ _ _ h=>(by cases h),fun _ _ _ _ _ _ _ _ h=>(by cases h),hM,fun _ _ _ _ _ _ _ _ h=>(by cases h)⟩
theorem lK {L:Lk} {A:bg} (lk:eL L A) {f:Nat} {fid:FuncId} {args:List AV} {vals:List Value} {M:Mm} {W:World} {h':H} (hm:L.mf fid=some f) (hM:∀b o v,M b o=some v→W.cell? (at' b o)=some v)
 (hc:aS A f args H.empty=some (.bool true,h')) (hr:aw L tu M args vals):Calls L.P fid vals.toArray W fun e W'=>e=.returned (.bool true)∧Below W.heap.size W W':=by
 refine(jq lk f fid args vals tu M H.empty h' W _ hm hc (R.start L W hM) hr).mono fun e W' ⟨v',he,ι',M',_,_,_,r',hv⟩=> ?_
 have:=hv.bY
 subst this
 exact⟨he,r'.below⟩
theorem tr {a:Int} (w:(Lit.int .i64 a).wf=true): -9223372036854775808≤a∧a<9223372036854775808:=by
 simp only[Lit.wf,uL,decide_eq_true_eq]at w
 have h1:IntKind.min .i64= -9223372036854775808:=by decide
 have h2:IntKind.max .i64=9223372036854775807:=by decide
 rw[h1,h2]at w
 omega
theorem tT {s:ByteArray} (w:s.size≤reachBytes):s.size<140737488355328:=by
 unfold reachBytes at w;omega
theorem lH {H:Type} {enc:TypeId×Value→H} {P:Program} {f:Func} {s:ChangeSpec} {apart fresh handsOn:Bool} {W W':World} {args:Array Value} {ds gs:List (DataW H)} {before pa pv:List MemPlace} {t:TypeId}
 (hW:DataW.Whole enc P f.params.toList s.vars apart W args.toList ds gs before) (hb:Below W.heap.size W W')
 (hrt:f.resultTypes= #[t]) (hres:∀(b:Nat) (sp:Nat→Bool) (hd:Bool),DataW.Trod enc P W' b sp hd t (.bool true) (.lit (.bool true)) []) (hsr:(s.fn H (ds++gs)).results=[.lit (.bool true)])
 (hargs:DataW.TrodAll enc P W' 0 (fun b=>decide (b<W.heap.size)) true f.params.toList args.toList (s.fn H (ds++gs)).args pa)
 (hvars:DataW.TrodVars enc P W' (fun b=>decide (b<W.heap.size)) s.vars (s.fn H (ds++gs)).vars pv):
 s.post enc P f apart fresh handsOn false W args (.bool true) W':=by
 refine⟨ds,gs,before,[],pa,pv,hW, ?_,hargs,hvars,hb.frame _,fun h=>by cases h⟩
 rw[hrt,hsr]
 exact trodAll_mk1 (hres _ _ _)
end Ab
namespace Ab
open Go RowKit ChangeShapes WideShapes
inductive Ty where
 |bool
 |int (k:IntKind)
 |str
 |sl (e:Ty) (z b:Nat)
 |st (fs:List Ty)
mutual
inductive Sh (B:Nat):Ty→List AV→Prop where
 |bool (b:Bool):Sh B .bool [.bool b]
 |int {k:IntKind} {n:Int} (h:(Lit.int k n).wf=true):Sh B (.int k) [.int k n]
 |str {s:ByteArray} (h:s.size≤B):Sh B .str [.str s]
 |aQ {e:Ty} {z b:Nat}:Sh B (.sl e z b) [.aQ]
 |aW {e:Ty} {z b:Nat} (ess:List (List AV)) (h:∀es,es∈ess→Sh B e es) (hz:∀es,es∈ess→es.length=z) (hb:ess.length* b≤B):Sh B (.sl e z b) [.aW false ess.flatten 0 ess.length z]
 |st {fs:List Ty} {as:List AV} (h:je B fs as):Sh B (.st fs) as
inductive je (B:Nat):List Ty→List AV→Prop where
 |nil:je B [] []
 |cons {f:Ty} {fs:List Ty} {a r:List AV} (h:Sh B f a) (hr:je B fs r):je B (f::fs) (a++r)
end
def kM (P:Program) (r:TypeId→Option (Ty×Nat)):Nat→List Field→Option (List Ty×Nat)
 |o,[]=>some ([],o)
 |o,f::l=>if f.offset=o then(r f.type).bind fun y=>if P.cellsOf f.type=y.2 then(kM P r (o+y.2) l).map fun x=>(y.1::x.1,x.2)else none else none
def kr (P : Program) : Nat → TypeId → Option (Ty × Nat)
 |0,_=>none
 | n + 1, t => match P.underlying t with
   |some .bool=>some (.bool,1)
   |some (.int k)=>some (.int k,1)
   |some .string=>some (.str,1)
   |some (.slice e)=>(kr P n e).bind fun y=>if 0<y.2∧P.cellsOf e=y.2 then some (.sl y.1 y.2 (P.bytesOf e),1)else none
   |some (.struct fs)=>(kM P (kr P n) 0 fs.toList).bind fun x=>if P.cellsOf t=x.2 then some (.st x.1,x.2)else none
   |_=>none
theorem mN {α : Type} {Q : Nat → α → Prop} : ∀ n : Nat, (∀ i, i < n → ∃ x, Q i x) → ∃ l : List α, l.length = n ∧ ∀ i x, l[i]? = some x → Q i x
 |0,_=>⟨[],rfl,fun i x h=>by simp at h⟩
 | n + 1, h => by
   obtain⟨l,hl,hq⟩:=mN n fun i hi=>h i (by omega)
   obtain⟨x,hx⟩:=h n (by omega)
   refine⟨l++[x],by simp [hl],fun i y hy=> ?_⟩
   by_cases c:i<l.length
   · rw[List.getElem?_append_left c]at hy;exact hq i y hy
   · rw[List.getElem?_append_right (by omega)]at hy
     have hi:i=n:=by
      rcases Nat.lt_or_ge n i with q|q
      · rw[List.getElem?_eq_none (by simp;omega)]at hy;cases hy
      · omega
     subst hi
     rw[hl,Nat.sub_self]at hy
     obtain rfl:=uz hy
     exact hx
theorem fI {α:Type} {z:Nat} (hz:0<z):∀(l:List (List α)) (_:∀x∈l,x.length=z) (i:Nat),l.flatten[i]?=(l[i/z]?).bind (·[i%z]?)
 |[],_,i=>by simp
 | x :: l, h, i => by
   have hx:=h x (by simp)
   rw[List.flatten_cons]
   by_cases c:i<z
   · rw[List.getElem?_append_left (by omega),Nat.div_eq_of_lt c,Nat.mod_eq_of_lt c];rfl
   · rw[List.getElem?_append_right (by omega),fI hz l (fun y hy=>h y (by simp [hy])),hx]
     have e1:i/z=(i-z)/z+1:=by rw[Nat.div_eq i z,if_pos ⟨hz,by omega⟩]
     have e2:i%z=(i-z)%z:=Nat.mod_eq_sub_mod (by omega)
     rw[e1,e2];rfl
theorem fJ {α:Type} {z:Nat}:∀(l:List (List α)) (_:∀x∈l,x.length=z),l.flatten.length=l.length* z
 |[],_=>by simp
 | x :: l, h => by
   rw[List.flatten_cons,vg,fJ l (fun y hy=>h y (by simp [hy])),h x (by simp),List.length_cons,Nat.succ_mul,Nat.add_comm]
def ie (W:World):Mm:=fun b o=>W.cell? (at' b o)
def Rel (L:Lk) (W:World) (as:List AV) (cs:List Value):Prop:=as.length=cs.length∧∀(i:Nat) (a:AV) (v:Value),as[i]?=some a→cs[i]?=some v→VI L (ie W) a v
section
variable {H:Type} {enc:TypeId×Value→H} {P:Program} {W:World} {L:Lk} {B:Nat}
theorem dF {e:TypeId}:∀{l:List (DataW H)} {d:DataW H},d∈l→∀n∈d.weights P e,n∈DataW.weightsAll P e l
 | x :: l, d, hd, n, hn => by
   rw[DataW.weightsAll,List.mem_append]
   rcases u5.1 hd with rfl|hd
   · exact .inl hn
   · exact .inr (dF hd n hn)
theorem iH {n : Nat} {r : TypeId → Option (Ty × Nat)} {cs : List Value}
 (ih:∀(t:TypeId) (y:Ty×Nat),r t=some y→∀(cs:List Value) (x:DataW H×List MemPlace),DataW.trod enc P W 0 (fun _=>true) true n t cs=some x→(∀k∈x.1.weights P t,k≤B)→∃as,Sh B y.1 as∧as.length=y.2∧Rel L W as cs):
 ∀ (fs : List Field) (o : Nat) (xs : List (DataW H × List MemPlace)) (y : List Ty × Nat), kM P r o fs = some y → xs.length = fs.length →
   (∀(i:Nat) (f:Field),fs[i]?=some f→DataW.trod enc P W 0 (fun _=>true) true n f.type ((cs.drop f.offset).take (P.cellsOf f.type))=xs[i]?)→
   (∀k∈DataW.weightsEach P (fs.map (·.type)) (xs.map (·.1)),k≤B)→
   ∃as,je B y.1 as∧o+as.length=y.2∧∀(i:Nat) (a:AV) (v:Value),as[i]?=some a→cs[o+i]?=some v→VI L (ie W) a v
 | [], o, xs, y, hy, hl, ht, hw => by
   obtain rfl:=uz hy
   exact⟨[],.nil,rfl,fun i a v h=>by simp at h⟩
 |f::fs,o,[],y,hy,hl,ht,hw=>by simp at hl
 | f :: fs, o, x :: xs, y, hy, hl, ht, hw => by
   unfold kM at hy
   split at hy
   · rename_i ho
     obtain⟨y1,h1,hy⟩:=uy.1 hy
     split at hy
     · rename_i hc
       obtain⟨y2,h2,rfl⟩:=uA.1 hy
       simp only[List.map_cons,DataW.weightsEach,List.mem_append]at hw
       obtain⟨as,s1,l1,r1,r2⟩:=ih f.type y1 h1 _ x (ht 0 f rfl) (fun k hk=>hw k (.inl hk))
       obtain⟨bs,s2,l2,q2⟩:=iH ih fs (o+y1.2) xs y2 h2 (by simpa using hl) (fun i g hg=>ht (i+1) g hg) (fun k hk=>hw k (.inr hk))
       refine⟨as++bs,.cons s1 s2,by rw[vg];omega,fun i a v ha hv=> ?_⟩
       by_cases c:i<as.length
       · rw[List.getElem?_append_left c]at ha
         refine r2 i a v ha ?_
         rw[u9,if_pos (by omega),uV,ho];exact hv
       · rw[List.getElem?_append_right (by omega)]at ha
         refine q2 _ a v ha ?_
         rw[show o+y1.2+(i-as.length)=o+i by omega];exact hv
     · cases hy
   · cases hy
theorem mb (b o n:Nat):(at' b o).add n=at' b (o+n):=by
 unfold Addr.add at'
 split
 · rename_i h;rw[h];rfl
 · rfl
theorem lL {a:Addr} {v:Value} (h:W.cell? a=some v):a=at' a.block a.off:=by
 unfold World.cell? at h
 cases hs:a.spot with
 |none=>cases a;simp at hs;subst hs;rfl
 | some k =>
   rw[hs]at h
   split at h
   · simp at h
   · cases h
theorem ng : ∀ (m : Nat) (t : TypeId) (y : Ty × Nat), kr P m t = some y → ∀ (n : Nat) (cs : List Value) (x : DataW H × List MemPlace), DataW.trod enc P W 0 (fun _ => true) true n t cs = some x →
 (∀k∈x.1.weights P t,k≤B)→∃as,Sh B y.1 as∧as.length=y.2∧Rel L W as cs
 |0,t,y,hy,n,cs,x,hx,hw=>by cases hy
 | m + 1, t, y, hy, n, cs, x, hx, hw => by
   unfold kr at hy
   split at hy
   · rename_i hu
     obtain rfl:=uz hy
     obtain⟨b,rfl,rfl⟩:=DataW.trod_bool hu hx
     exact⟨_,.bool b,rfl,rfl,fun i a v ha hv=>by
      match i,ha,hv with
      |0,ha,hv=>simp at ha hv;subst ha;subst hv;exact .bool b⟩
   · rename_i k hu
     obtain rfl:=uz hy
     obtain⟨z,rfl,rfl,hz⟩:=DataW.trod_int hu hx
     exact⟨_,.int hz,rfl,rfl,fun i a v ha hv=>by
      match i,ha,hv with
      |0,ha,hv=>simp at ha hv;subst ha;subst hv;exact .int _ _⟩
   · rename_i hu
     obtain rfl:=uz hy
     obtain⟨s,rfl,rfl,hz⟩:=DataW.trod_string hu hx
     refine⟨_,.str (s:=s) (hw _ ?_),rfl,rfl,fun i a v ha hv=>by
      match i,ha,hv with
      |0,ha,hv=>simp at ha hv;subst ha;subst hv;exact .str _⟩
     simp [DataW.weights]
   · rename_i e hu
     obtain⟨y1,h1,hy⟩:=uy.1 hy
     split at hy
     · rename_i hc
       obtain⟨hz,hc⟩:=hc
       obtain rfl:=uz hy
       rcases DataW.trod_slice hu hx with ⟨rfl,rfl⟩|⟨a,len,cap,elems,rest,n',rfl,rfl,rfl,-,hl,hm,hlen,hel,hsp,-⟩
       · exact⟨_,.aQ,rfl,rfl,fun i a v ha hv=>by
          match i,ha,hv with
          |0,ha,hv=>simp at ha hv;subst ha;subst hv;exact .aQ⟩
       · obtain⟨hrl,hr⟩:=hsp rfl
         simp only[DataW.weights,hu,List.length_map,u5,List.mem_append]at hw
         have ha:cap≠0→a=at' a.block a.off:=by
          intro h0
          have:∃cs,W.cells? 0 (a.add (0* P.cellsOf e)) (P.cellsOf e)=some cs:=by
           by_cases c:0<len
           · have:=hel 0 c
             obtain⟨q,hq⟩:∃q,elems[0]?=some q:=⟨elems[0],by simp [hlen,c]⟩
             rw[hq]at this
             obtain⟨c1,c2,_⟩:=uy.1 this
             exact⟨c1,c2⟩
           · have:=hr 0 (by omega)
             obtain⟨q,hq⟩:∃q,rest[0]?=some q:=⟨rest[0]'(by omega),by simp⟩
             rw[hq]at this
             obtain⟨c1,c2,_⟩:=uy.1 this
             exact⟨c1,by rw[show len+0=0 by omega]at c2;exact c2⟩
          obtain⟨c1,c2⟩:=this
          obtain⟨-,k1,k2⟩:=World.cells?_some c2
          have k3:=k2 0 (by omega)
          have:(a.add (0* P.cellsOf e)).add 0=a:=by simp [Addr.add]
          rw[this]at k3
          obtain⟨v,hv⟩:∃v,c1[0]?=some v:=⟨c1[0]'(by omega),by simp⟩
          rw[hv]at k3
          exact lL k3
         have each:∀i,i<len→∃as,(Sh B y1.1 as∧as.length=y1.2)∧∀j,j<y1.2→∃v,W.cell? (at' a.block (a.off+(i* y1.2+j)))=some v∧∀c,as[j]?=some c→VI L (ie W) c v:=by
          intro i hi
          obtain⟨q,hq⟩:∃q,elems[i]?=some q:=⟨elems[i]'(by omega),by simp⟩
          have h2:=hel i hi
          rw[hq]at h2
          obtain⟨c1,c2,c3⟩:=uy.1 h2
          obtain⟨as,s1,l1,r1,r2⟩:=ng m e y1 h1 n' c1 q c3 (fun k hk=>hw k (.inr (.inl (dF (List.mem_map.2 ⟨q,uO hq,rfl⟩) k hk))))
          obtain⟨-,k1,k2⟩:=World.cells?_some c2
          refine⟨as,⟨s1,l1⟩,fun j hj=> ?_⟩
          have k3:=k2 j (by omega)
          have ea:=ha (by omega)
          generalize a.block=ab at *
          generalize a.off=ao at *
          subst ea
          rw[mb,mb,hc]at k3
          obtain⟨v,hv⟩:∃v,c1[j]?=some v:=⟨c1[j]'(by omega),by simp⟩
          rw[hv]at k3
          exact⟨v,by rw[←uJ];exact k3,fun c hcc=>r2 j c v hcc hv⟩
         obtain⟨ess,le,he⟩:=mN len each
         have hzz:∀es∈ess,es.length=y1.2:=fun es hes=>by
          obtain⟨i,hi⟩:=List.getElem?_of_mem hes
          exact(he i es hi).1.2
         refine⟨_,.aW (b:=P.bytesOf e) ess (fun es hes=>by
          obtain⟨i,hi⟩:=List.getElem?_of_mem hes
          exact(he i es hi).1.1) hzz (u6 (uN _ (by omega)) (hw _ (.inl rfl))),rfl,rfl,fun i c v hc' hv=> ?_⟩
         match i,hc',hv with
         | 0, hc', hv =>
           simp only[List.getElem?_cons_zero,uC]at hc' hv
           subst hc';subst hv
           have cell:∀(i:Nat) (c:AV),ess.flatten[i]?=some c→∃v,W.cell? (at' a.block (a.off+i))=some v∧VI L (ie W) c v:=by
            intro i c hi
            rw[fI hz ess hzz]at hi
            obtain⟨es,h3,h4⟩:=uy.1 hi
            obtain⟨v,h5,h6⟩:=(he _ es h3).2 (i%y1.2) (Nat.mod_lt _ hz)
            refine⟨v, ?_,h6 c h4⟩
            rw[Nat.mul_comm (i/y1.2),Nat.div_add_mod]at h5;exact h5
           rw[le]
           refine .aW (b:=a.block) (base:=a.off) (fun i=>(W.cell? (at' a.block (a.off+i))).getD default) (fun i c hi=> ?_) (fun i c hi=> ?_) hl (fun q=>ha q) ?_ (fun q=>by cases q)
           · obtain⟨v,h5,_⟩:=cell i c hi
             show W.cell? _=_
             rw[h5];rfl
           · obtain⟨v,h5,h6⟩:=cell i c hi
             rw[h5];exact h6
           · rw[fJ ess hzz,le,uP];exact uN _ hl
     · cases hy
   · rename_i fs hu
     obtain⟨y1,h1,hy⟩:=uy.1 hy
     split at hy
     · rename_i hc
       obtain rfl:=uz hy
       obtain⟨xs,n',rfl,rfl,hl,hxl,hf⟩:=DataW.trod_struct hu hx
       simp only[DataW.weights,hu]at hw
       obtain⟨as,s1,l1,q1⟩:=iH (cs:=cs) (fun t y h cs x hx hw=>ng m t y h n' cs x hx hw) fs.toList 0 xs y1 h1 (by simpa using hxl) (fun i f h=>hf i f (by simpa using h)) hw
       refine⟨as,.st s1,by show as.length=y1.2;omega,by omega,fun i a v ha hv=>q1 i a v ha (by rw[uP];exact hv)⟩
     · cases hy
   · cases hy
def jW:Ty×List AV→AV
 |(.st _,as)=>.agg as
 |(_,as)=>as.headD .bot
inductive fY (L:Lk) (W:World) (B:Nat):List Value→List (Ty×List AV)→Prop where
 |nil:fY L W B [] []
 |cons {v:Value} {vs:List Value} {x:Ty×List AV} {r:List (Ty×List AV)} (h1:Sh B x.1 x.2) (h2:V L (fun _=>none) (ie W) (jW x) v) (hr:fY L W B vs r):fY L W B (v::vs) (x::r)
def fp (P:Program) (m:Nat):List TypeId→Option (List Ty)
 |[]=>some []
 |t::ts=>(kr P m t).bind fun y=>(fp P m ts).map fun r=>y.1::r
theorem fW {y:Ty} {as:List AV} {v:Value} (hy:∀fs,y≠.st fs) (h1:as.length=1) (hv:v.cells.toList=[v]) (h2:Rel L W as v.cells.toList):VI L (ie W) (jW (y,as)) v:=by
 match as,h1 with
 | [a], _ =>
   have:=h2.2 0 a v rfl (by rw[hv];rfl)
   cases y<;>first|exact this|exact absurd rfl (hy _)
theorem qV {fs:List Ty} {as:List AV} {cs:Array Value} (h2:Rel L W as (Value.agg cs).cells.toList):VI L (ie W) (jW (.st fs,as)) (.agg cs):=by
 have e:(Value.agg cs).cells.toList=cs.toList:=rfl
 rw[e]at h2
 have:Value.agg cs=.agg cs.toList.toArray:=by simp
 rw[this]
 exact .agg h2.1 h2.2
theorem rO {m : Nat} {t : TypeId} {y : Ty × Nat} {as : List AV} {v : Value} {base : Nat} (hy : kr P m t = some y) (hl : as.length = y.2) (hv : Value.okWide P W .any base t v) (h2 : Rel L W as v.cells.toList) : VI L (ie W) (jW (y.1, as)) v := by
 cases m with
 |zero=>cases hy
 | succ m =>
   unfold kr at hy
   unfold Value.okWide at hv
   split at hy
   · rename_i hu
     obtain rfl:=uz hy
     rw[hu]at hv
     unfold Cell.okWide Cell.ok at hv
     rw[hu]at hv
     cases v<;>first|exact hv.elim|exact fW (by intro fs e;cases e) hl rfl h2
   · rename_i k hu
     obtain rfl:=uz hy
     rw[hu]at hv
     unfold Cell.okWide Cell.ok at hv
     rw[hu]at hv
     cases v<;>first|exact hv.elim|exact fW (by intro fs e;cases e) hl rfl h2
   · rename_i hu
     obtain rfl:=uz hy
     rw[hu]at hv
     unfold Cell.okWide Cell.ok at hv
     rw[hu]at hv
     cases v<;>first|exact hv.elim|exact fW (by intro fs e;cases e) hl rfl h2
   · rename_i e hu
     obtain⟨y1,h1,hy⟩:=uy.1 hy
     split at hy
     · obtain rfl:=uz hy
       rw[hu]at hv
       unfold Cell.okWide Cell.ok at hv
       rw[hu]at hv
       cases v<;>first|exact hv.elim|exact fW (by intro fs e;cases e) hl rfl h2
     · cases hy
   · rename_i fs hu
     obtain⟨y1,h1,hy⟩:=uy.1 hy
     split at hy
     · obtain rfl:=uz hy
       rw[hu]at hv
       obtain⟨cs,rfl,_⟩:=hv
       exact qV h2
     · cases hy
   · cases hy
theorem kC {m base:Nat}:∀{ts:List TypeId} {vs:List Value} {ds:List (DataW H)} {ps:List MemPlace} {ys:List Ty},fp P m ts=some ys→DataW.TrodAll enc P W 0 (fun _=>true) true ts vs ds ps→
 (∀(j:Nat) t v,ts[j]?=some t→vs[j]?=some v→Value.okWide P W .any base t v)→(∀k∈DataW.weightsEach P ts ds,k≤B)→∃r:List (Ty×List AV),r.map (·.1)=ys∧fY L W B vs r
 |[],[],[],ps,ys,hy,_,_,_=>by obtain rfl:=uz hy;exact⟨[],rfl,.nil⟩
 | t :: ts, v :: vs, d :: ds, ps, ys, hy, ⟨p, q, ⟨n, h1⟩, h2, _⟩, hv, hw => by
   unfold fp at hy
   obtain⟨y,g1,hy⟩:=uy.1 hy
   obtain⟨r,g2,rfl⟩:=uA.1 hy
   simp only[DataW.weightsEach,List.mem_append]at hw
   obtain⟨as,s1,l1,r1⟩:=ng (L:=L) m t y g1 n _ (d,p) h1 (fun k hk=>hw k (.inl hk))
   obtain⟨r',e,g3⟩:=kC g2 h2 (fun j t v a b=>hv (j+1) t v a b) (fun k hk=>hw k (.inr hk))
   exact⟨(y.1,as)::r',by rw[List.map_cons,e],.cons s1 (.ar (rO g1 l1 (hv 0 t v rfl rfl) r1)) g3⟩
 |[],_::_,_,_,_,_,h,_,_=>h.elim
 |[],[],_::_,_,_,_,h,_,_=>h.elim
 |_::_,[],_,_,_,_,h,_,_=>h.elim
 |_::_,_::_,[],_,_,_,h,_,_=>h.elim
theorem jm:∀{vs:List Value} {r:List (Ty×List AV)},fY L W B vs r→aw L tu (ie W) (r.map jW) vs∧∀x∈r,Sh B x.1 x.2
 |[],[],.nil=>⟨.nil,fun x h=>by cases h⟩
 | v :: vs, x :: r, .cons h1 h2 hr => by
   obtain⟨q1,q2⟩:=jm hr
   exact⟨.cons h2 q1,fun y hy=>by
    rcases u5.1 hy with rfl|hy
    · exact h1
    · exact q2 y hy⟩
theorem jj {W':World} (hl:laidOutB P=true) (hb:Below W.heap.size W W'):∀{ts:List TypeId} {vs:List Value} {ds:List (DataW H)} {ps:List MemPlace},
 ts.all (fun t=>P.readableRec t&&decide (t<P.types.size))=true→DataW.TrodAll enc P W 0 (fun _=>true) true ts vs ds ps→(∀x∈ps,x.block<W.heap.size)→DataW.TrodAll enc P W' 0 (fun b=>decide (b<W.heap.size)) true ts vs ds ps
 |[],[],[],_,_,h,_=>h
 | t :: ts, v :: vs, d :: ds, ps, ht, ⟨p, q, h1, h2, hp⟩, hlt => by
   subst hp
   simp only[List.all_cons,uL,decide_eq_true_eq]at ht
   exact⟨p,q,Below.trod hl ht.1.1 ht.1.2 h1 hb (fun x hx=>hlt x (List.mem_append_left _ hx)),jj hl hb ht.2 h2 (fun x hx=>hlt x (List.mem_append_right _ hx)),rfl⟩
 |[],_::_,_,_,_,h,_=>h.elim
 |[],[],_::_,_,_,h,_=>h.elim
 |_::_,[],_,_,_,h,_=>h.elim
 |_::_,_::_,[],_,_,h,_=>h.elim
end
theorem tt {C : Checked} {L : Lk} {A : bg} (lk : eL L A) (hP : L.P = C.prog) {f : FuncId} {fn : Func} {key : Nat} (hm : L.mf f = some key) {tys : List Ty} {m : Nat} (hty : fp C.prog m fn.params.toList = some tys)
 (hl:laidOutB C.prog=true) (hread:fn.params.toList.all (fun t=>C.prog.readableRec t&&decide (t<C.prog.types.size))=true) {tb:TypeId} (hrt:fn.resultTypes= #[tb]) (hb:C.prog.underlying tb=some .bool)
 {s:ChangeSpec} (hvars:s.vars=[]) (hspec:∀(H:Type) (ds:List (DataW H)),ds.length=tys.length→s.fn H ds={results:=[.lit (.bool true)],args:=ds})
 (law:∀r:List (Ty×List AV),r.map (·.1)=tys→(∀x∈r,Sh reachBytes x.1 x.2)→aS A key (r.map jW) H.empty=some (.bool true,H.empty))
 {H:Type} {enc:TypeId×Value→H} {W:World} {base:Nat} {args:Array Value} {ds gs:List (DataW H)} {before:List MemPlace}
 (hval:∀(j:Nat) t v,fn.params[j]?=some t→args[j]?=some v→Value.okWide C.prog W .any base t v)
 (hW:DataW.Whole enc C.prog fn.params.toList s.vars false W args.toList ds gs before)
 (hsz:(DataW.weightsEach C.prog (fn.params.toList++s.plain.varTypes C.prog) (ds++gs)).all (· ≤reachBytes)=true):
 Calls C.prog f args W fun e W'=>∃v,e=.returned v∧s.post enc C.prog fn false true false false W args v W':=by
 have hW':=hW
 obtain⟨p,q,hA,hV,rfl,hfz,hnd⟩:=hW
 rw[hvars]at hV
 obtain⟨rfl,rfl⟩:=trodVars_none hV
 have hw:∀k∈DataW.weightsEach C.prog fn.params.toList ds,k≤reachBytes:=by
  intro k hk
  have hv0:s.plain.varTypes C.prog=[]:=by
   have:s.plain.vars=[]:=hvars
   unfold DataSpec.varTypes;rw[this];rfl
  rw[hv0,List.append_nil,List.append_nil]at hsz
  simpa using List.all_eq_true.1 hsz k hk
 obtain⟨r,hr,hs⟩:=kC (L:=L) (base:=base) hty hA (fun j t v a b=>hval j t v (by simpa using a) (by simpa using b)) hw
 obtain⟨hrow,hsh⟩:=jm hs
 have hlen:ds.length=tys.length:=by
  have a1:∀{ts:List TypeId} {vs:List Value} {ds:List (DataW H)} {ps:List MemPlace},DataW.TrodAll enc C.prog W 0 (fun _=>true) true ts vs ds ps→ds.length=ts.length:=by
   intro ts
   induction ts with
   |nil=>intro vs ds ps h;cases vs<;>cases ds<;>first|rfl|exact h.elim
   |cons t ts ih=>intro vs ds ps h;cases vs<;>cases ds<;>first|exact h.elim|(obtain⟨_,_,_,h2,_⟩:=h;simp [ih h2])
  have a2:∀{ts:List TypeId} {ys:List Ty},fp C.prog m ts=some ys→ys.length=ts.length:=by
   intro ts
   induction ts with
   |nil=>intro ys h;obtain rfl:=uz h;rfl
   | cons t ts ih =>
     intro ys h
     unfold fp at h
     obtain⟨y,_,h⟩:=uy.1 h
     obtain⟨z,g2,rfl⟩:=uA.1 h
     simp [ih g2]
  rw[a1 hA,a2 hty]
 have key:=lK lk (f:=key) (fid:=f) (args:=r.map jW) (vals:=args.toList) (M:=ie W) (W:=W) hm (fun _ _ _ h=>h) (law r hr hsh) hrow
 rw[hP]at key
 have ea:args.toList.toArray=args:=by simp
 rw[ea]at key
 simp only[List.append_nil]at hW'
 refine key.mono fun e W' ⟨he,hb'⟩=> ?_
 subst he
 have e1:=hspec H (ds++[]) (by simpa using hlen)
 refine⟨_,rfl,lH (pa:=p) (pv:=[]) hW' hb' hrt (fun _ _ _=>shut_bool hb true) (by rw[e1]) (by rw[e1];simpa using jj hl hb' hread hA (fun x hx=>by simpa using hW'.lt x hx)) ?_⟩
 rw[e1,hvars];rfl
theorem te {α β:Type} {x y:Option α} (f:α→Option β) (h:x=y):x.bind f=y.bind f:=by rw[h]
@[simp] theorem sK (t : Nat) : look [] t = .bot := rfl
@[simp] theorem rC (s t : Nat) (v : AV) (r : Env) : look ((s, v) :: r) t = if s = t then v else look r t := rfl
@[simp] theorem rD (e : Env) : ay e [] = [] := rfl
@[simp] theorem qW (e : Env) (t : Nat) (r : List Nat) : ay e (t :: r) = (t, look e t) :: ay e r := rfl
@[simp] theorem ur (e : Env) (n : Nat) : (X.t n).ev e = look e n := rfl
@[simp] theorem uq (e : Env) (v : AV) : (X.c v).ev e = v := rfl
@[simp] theorem pU (agg : Bool) (n id off : Nat) (h : H) : bX agg n (.aE id off) h = (h.get id).bind fun cs => ij agg n cs off := rfl
@[simp] theorem pT (agg : Bool) (n off : Nat) (cs : List AV) (h : H) : bX agg n (.aL cs off) h = ij agg n cs off := rfl
@[simp] theorem po (n id off : Nat) (v : AV) (h : H) : dm n (.aE id off) v h = (h.get id).bind fun cs =>
 if h.floor≤id∧v.cells.length=n∧off+n≤cs.length∧AV.aD v.cells=true then some (h.set id (setFrom cs off v.cells))else none:=rfl
@[simp] theorem ug (n : Nat) (cs : List AV) (off : Nat) : ij false n cs off = cs[off]? := rfl
section
variable (k:IntKind) (a b:Int)
@[simp] theorem lQ : br .add (.int k a) (.int k b) = some (.int k (k.wrap (a + b))) := by simp [br, bh]
@[simp] theorem lZ : br .sub (.int k a) (.int k b) = some (.int k (k.wrap (a - b))) := by simp [br, bh]
@[simp] theorem lX : br .mul (.int k a) (.int k b) = some (.int k (k.wrap (a * b))) := by simp [br, bh]
@[simp] theorem lW : br .lss (.int k a) (.int k b) = some (.bool (decide (a < b))) := by simp [br, bh]
@[simp] theorem lV : br .leq (.int k a) (.int k b) = some (.bool (decide (a ≤ b))) := by simp [br, bh]
@[simp] theorem lU : br .gtr (.int k a) (.int k b) = some (.bool (decide (a > b))) := by simp [br, bh]
@[simp] theorem lT : br .geq (.int k a) (.int k b) = some (.bool (decide (a ≥ b))) := by simp [br, bh]
@[simp] theorem lS : br .eql (.int k a) (.int k b) = some (.bool (a == b)) := by simp [br, bh]
@[simp] theorem lY : br .neq (.int k a) (.int k b) = some (.bool (a != b)) := by simp [br, bh]
@[simp] theorem lR : br .and (.int k a) (.int k b) = some (.int k (bits .and k a b)) := by simp [br, bh]
@[simp] theorem ny : br .or (.int k a) (.int k b) = some (.int k (bits .or k a b)) := by simp [br, bh]
@[simp] theorem ma : br .xor (.int k a) (.int k b) = some (.int k (bits .xor k a b)) := by simp [br, bh]
theorem rK (h:b≠0):br .quo (.int k a) (.int k b)=some (.int k (k.wrap (a.tdiv b))):=by simp [br,bh,h]
theorem rL (h:b≠0):br .rem (.int k a) (.int k b)=some (.int k (a.tmod b)):=by simp [br,bh,h]
end
@[simp] theorem kU (k : IntKind) (n : Int) : (AV.int k n).cells = [.int k n] := rfl
@[simp] theorem jZ (b : Bool) : (AV.bool b).cells = [.bool b] := rfl
@[simp] theorem kV (b : ByteArray) : (AV.str b).cells = [.str b] := rfl
@[simp] theorem j5 (i o : Nat) : (AV.aE i o).cells = [.aE i o] := rfl
@[simp] theorem j6 (i o l z : Nat) : (AV.aF i o l z).cells = [.aF i o l z] := rfl
@[simp] theorem j4 : AV.aQ.cells = [.aQ] := rfl
@[simp] theorem j0 : AV.cK.cells = [.cK] := rfl
@[simp] theorem kT (c : List AV) : (AV.agg c).cells = c := rfl
@[simp] theorem ru : AV.aD [] = true := rfl
@[simp] theorem pS (v : AV) (r : List AV) : AV.aD (v :: r) = (v.sc && AV.aD r) := rfl
@[simp] theorem pK (cs : List AV) (off : Nat) : setFrom cs off [] = cs := rfl
@[simp] theorem o0 (cs : List AV) (off : Nat) (v : AV) (r : List AV) : setFrom cs off (v :: r) = setFrom (cs.set off v) (off + 1) r := rfl
@[simp] theorem ri (k : IntKind) (n : Int) : (AV.int k n).sc = true := rfl
@[simp] theorem oV (b : Bool) : (AV.bool b).sc = true := rfl
@[simp] theorem rj (b : ByteArray) : (AV.str b).sc = true := rfl
@[simp] theorem oY (i o : Nat) : (AV.aE i o).sc = true := rfl
@[simp] theorem oZ (i o l z : Nat) : (AV.aF i o l z).sc = true := rfl
@[simp] theorem oX : AV.aQ.sc = true := rfl
@[simp] theorem oW : AV.cK.sc = true := rfl
@[simp] theorem pH (d : Nat) (v : AV) (e : Env) : aN (some d) v e = (d, v) :: e := rfl
@[simp] theorem pG (v : AV) (e : Env) : aN none v e = e := rfl
@[simp] theorem pL (call : ae) (ops : List aj) (e : Env) (gs : List H) : bb call ops e gs [] = true := rfl
@[simp] theorem pQ (off id o : Nat) : ft off (.aE id o) = some (.aE id (o + off)) := rfl
@[simp] theorem pP (off o : Nat) (c : List AV) : ft off (.aL c o) = some (.aL c (o + off)) := rfl
@[simp] theorem pf (n sz id off : Nat) (i : AV) : dk n sz (.aE id off) i = (di i n).bind fun j => some (.aE id (off + j * sz)) := rfl
@[simp] theorem pd (n sz off : Nat) (c : List AV) (i : AV) : dk n sz (.aL c off) i = (di i n).bind fun j => some (.aL c (off + j * sz)) := rfl
noncomputable def Lp (A:bg) (wW:List Nat) (c:aH) (e:Env) (h:H):dO:=bD (fun e h=>aM (aS A) bD c (ay e wW) h) e h
theorem rV (A:bg) (wW:List Nat) (c:aH) (e:Env) (h:H):aM (aS A) bD (.loop wW c) e h=Lp A wW c e h:=rfl
theorem td {A:bg} {wW:List Nat} {c:aH} {e e':Env} {h h':H} {r} (h1:aM (aS A) bD c (ay e wW) h=some (.normal,e',h')) (h2:Lp A wW c e' h'=some r):Lp A wW c e h=some r:=jD h1 h2
theorem tc {A:bg} {wW:List Nat} {c:aH} {e e':Env} {h h':H} {i:Nat} (h1:aM (aS A) bD c (ay e wW) h=some (.exit i,e',h')):Lp A wW c e h=some (.exit i,e',h'):=kg h1
theorem tF {A:bg} {wW:List Nat} {c:aH} {e e':Env} {h h':H} (h1:aM (aS A) bD c (ay e wW) h=some (.ret,e',h')):Lp A wW c e h=some (.ret,e',h'):=lr h1
theorem uh {c:ae} {l:bN} {a b:aH} {e e1:Env} {h h1:H} {r} (h1':aM c l a e h=some (.normal,e1,h1)) (h2:aM c l b e1 h1=some r):aM c l (.seq a b) e h=some r:=by
 simp only[aM,h1',uG];exact h2
theorem uj {c:ae} {l:bN} {a b:aH} {e e1:Env} {h h1:H} {i:Nat} (h1':aM c l a e h=some (.exit i,e1,h1)):aM c l (.seq a b) e h=some (.exit i,e1,h1):=by
 simp only[aM,h1',uG]
theorem ui {c:ae} {l:bN} {a b:aH} {e e1:Env} {h h1:H} (h1':aM c l a e h=some (.ret,e1,h1)):aM c l (.seq a b) e h=some (.ret,e1,h1):=by
 simp only[aM,h1',uG]
theorem pV {A:bg} {id:Nat} {k wW:List Nat} {c:aH} {e e1:Env} {h h1:H} (hl:Lp A wW c e h=some (.exit id,e1,h1)):aM (aS A) bD (.block id (.loop wW c) k) e h=some (.normal,ay e1 k,h1):=by
 simp only[aM,uy]
 exact⟨_,hl,by simp⟩
theorem tQ {A:bg} {f:Nat} {fn:fq} {args:List AV} {h h2:H} {e:Env} {vs:List AV} {v:AV} (hf:A f=some fn) (hnp:args.length=fn.np) (hp:fn.pure=true)
 (hx:aM (aS A) bD fn.body (params 0 args) h.eh=some (.ret,e,h2)) (hres:cO e h2 fn.res=some vs) (hs:snap h2.get h.next 16 true (dE vs)=some v):aS A f args h=some (v,h):=by
 refine kF hf ?_
 unfold fk
 rw[if_pos hnp]
 simp only[hp,if_true,hx,uG,fin,hres,g9,hs]
theorem tw {A:bg} {f:Nat} {fn:fq} {args:List AV} {h h2:H} {e:Env} {vs:List AV} (hf:A f=some fn) (hnp:args.length=fn.np) (hp:fn.pure=false)
 (hx:aM (aS A) bD fn.body (params 0 args) h=some (.ret,e,h2)) (hres:cO e h2 fn.res=some vs):aS A f args h=some (dE vs,h2):=by
 refine kF hf ?_
 unfold fk
 rw[if_pos hnp]
 simp [hp,hx,fin,hres]
theorem gE {c:ae}:∀(os:List aj) (e:Env) (h:H),au c os e h=(aO c os e h).bind fun r=>some (r.1,r.2.1)
 |[],_,_=>rfl
 | o :: os, e, h => by
   simp only[au,aO]
   cases hv:ai c o e h with
   |none=>rfl
   | some r =>
     simp only[uG]
     rw[gE os]
     cases aO c os (aN o.dst r.1 e) r.2<;>rfl
section
variable (c:ae) (l:bN) (e:Env) (h:H)
theorem th (ops:List aj) (wW:List Nat):aM c l (.oP ops wW) e h=(au c ops e h).bind fun r=>some (.normal,ay r.1 wW,r.2):=by rw[aM]
theorem kX (ord:List Nat) (ops:List aj) (wW:List Nat):aM c l (.iY ord ops [] wW) e h=(au c ops e h).bind fun r=>some (.normal,ay r.1 wW,r.2):=by
 rw[gE]
 simp only[aM]
 cases aO c ops e h<;>simp
theorem tj (a b:aH):aM c l (.seq a b) e h=(aM c l a e h).bind fun r=>match r with|(.normal,e',h')=>aM c l b e' h'|r=>some r:=by rw[aM];rfl
theorem rU (x:X) (a b:aH) (wW:List Nat):aM c l (.cond x a b wW) e h=match x.ev e with
 | .bool t=>(if t then aM c l a e h else aM c l b e h).bind fun r=>match r with|(.normal,e',h')=>some (.normal,ay e' wW,h')|r=>some r
 |_=>none:=by rw[aM];rfl
theorem rz (id:Nat) (x:aH) (wW:List Nat):aM c l (.block id x wW) e h=(aM c l x e h).bind fun r=>match r with
 |(.normal,e',h')=>some (.normal,ay e' wW,h')
 |(.exit j,e',h')=>if j=id then some (.normal,ay e' wW,h')else some (.exit j,e',h')
 |(.ret,e',h')=>some (.ret,e',h'):=by rw[aM];rfl
theorem mJ:aM c l .skip e h=some (.normal,e,h):=by rw[aM]
theorem nN:aM c l .ret e h=some (.ret,e,h):=by rw[aM]
theorem mI (i:Nat):aM c l (.exit i) e h=some (.exit i,e,h):=by rw[aM]
end
def I (n:Int):AV:=.int .i64 n
theorem tC {n:Int} (h1: -9223372036854775808≤n) (h2:n<9223372036854775808):IntKind.wrap .i64 n=n:=by
 have e:IntKind.wrap .i64 n=if n%18446744073709551616≥9223372036854775808 then n%18446744073709551616-18446744073709551616 else n%18446744073709551616:=by
  simp [IntKind.wrap,IntKind.bits,IntKind.signed]
 rw[e];split<;>omega
def nr (n:Nat) (C:Nat→AV):List AV:=(List.range n).map C
def tU (C:Nat→AV) (i:Nat) (v:AV):Nat→AV:=fun j=>if j=i then v else C j
@[simp] theorem rk (n : Nat) (C : Nat → AV) : (nr n C).length = n := by simp [nr]
theorem fX {n:Nat} {C:Nat→AV} {i:Nat} (h:i<n):(nr n C)[i]?=some (C i):=by simp [nr,h]
@[simp] theorem pM {n : Nat} {C : Nat → AV} {i : Nat} (h : i < (nr n C).length) : (nr n C)[i] = C i := by simp [nr]
theorem tB {n:Nat} {C:Nat→AV} {i:Nat} (h:i<n) (v:AV):(nr n C).set i v=nr n (tU C i v):=by
 apply List.ext_getElem?
 intro j
 by_cases hj:j<n
 · by_cases e:j=i
   · subst e;rw[uY (by simpa using hj),fX hj];simp [tU]
   · rw[List.getElem?_set_ne (by omega),fX hj,fX hj];simp [tU,e]
 · rw[List.getElem?_eq_none (by simp;omega),List.getElem?_eq_none (by simp;omega)]
theorem tx {n:Nat} {C:Nat→AV} {i k:Nat} (h:i<n):ij false k (nr n C) i=some (C i):=fX h
def ints (l:List Int):List AV:=l.map I
@[simp] theorem pC (l : List Int) : (ints l).length = l.length := by simp [ints]
theorem sI {l:List Int} {i:Nat} {x:Int} (h:l[i]?=some x):(ints l)[i]?=some (I x):=by simp [ints,h]
theorem jR:∀l:List Int,AV.aD (ints l)=true
 |[]=>rfl
 |x::l=>by simp [ints,AV.aD,I,AV.sc];exact jR l
theorem pB (a b:List Int):ints (a++b)=ints a++ints b:=by simp [ints]
def Rd (h:H) (v:AV) (cs:List AV):Prop:=aT h 1 v=some (cs.length,cs)∧∀s,v≠.str s
theorem Rd.len {h:H} {v:AV} {cs:List AV} (r:Rd h v cs):ji false v=some (I cs.length):=by
 obtain⟨r,hs⟩:=r
 unfold aT at r
 split at r
 · obtain⟨h1,h2⟩:=uB (uz r);subst h2;rfl
 · exact absurd rfl (hs _)
 · split at r
   · simp only[uy]at r
     obtain⟨c,_,r⟩:=r
     split at r
     · obtain⟨h1,h2⟩:=uB (uz r);simp [ji,I,h1]
     · cases r
   · cases r
 · split at r
   · split at r
     · obtain⟨h1,h2⟩:=uB (uz r);simp [ji,I,h1]
     · cases r
   · cases r
 · cases r
theorem Rd.mono {h g:H} {v:AV} {cs:List AV} (r:Rd h v cs) (hg:∀id c,h.get id=some c→g.get id=some c):Rd g v cs:=by
 obtain⟨r,hs⟩:=r
 refine⟨?_,hs⟩
 unfold aT at r ⊢
 split at r
 · exact r
 · exact r
 · split at r
   · rename_i q;simp only[if_pos q,uy]at r ⊢
     obtain⟨c,h1,r⟩:=r
     exact⟨c,hg _ _ h1,r⟩
   · cases r
 · exact r
 · cases r
theorem ky {i n:Nat} (h:i<n):di (I i) n=some i:=by
 simp [di,nE,I];omega
theorem Rd.elem {h : H} {v : AV} {cs : List AV} (r : Rd h v cs) {i : Nat} {c : AV} (hc : cs[i]? = some c) : ∃ p, fZ 1 v (I i) = some p ∧ ∀ g : H, (∀ id c, h.get id = some c → g.get id = some c) → bX false 1 p g = some c := by
 obtain⟨r,hs⟩:=r
 have hi:i<cs.length:=(uF.1 hc).1
 unfold aT at r
 split at r
 · obtain⟨h1,h2⟩:=uB (uz r);subst h2;simp at hi
 · exact absurd rfl (hs _)
 · rename_i id off len s
   split at r
   · rename_i q
     subst q
     simp only[uy]at r
     obtain⟨d,hd,r⟩:=r
     split at r
     · obtain⟨h1,h2⟩:=uB (uz r)
       refine⟨.aE id (off+i),by simp [fZ,ky (h1 ▸ hi)],fun g hg=> ?_⟩
       simp only[bX,hg _ _ hd,uG,ij,uH,vh]
       rw[←h2,u9]at hc
       split at hc
       · rwa [uV]at hc
       · cases hc
     · cases r
   · cases r
 · rename_i t cells off len s
   split at r
   · rename_i q
     subst q
     split at r
     · obtain⟨h1,h2⟩:=uB (uz r)
       refine⟨.aL cells (off+i),by simp [fZ,ky (h1 ▸ hi)],fun g hg=> ?_⟩
       simp only[bX,ij,uH,vh]
       rw[←h2,u9]at hc
       split at hc
       · rwa [uV]at hc
       · cases hc
     · cases r
   · cases r
 · cases r
def nq (h:H) (v:AV) (cs:List AV):Prop:=(v=.aQ∧cs=[])∨∃id,v=.aF id 0 cs.length 1∧h.get id=some cs∧h.floor≤id∧cs≠[]
theorem nq.mono {h g:H} {v:AV} {cs:List AV} (o:nq h v cs) (hf:g.floor=h.floor) (hg:∀i,v.id?=some i→g.get i=h.get i):nq g v cs:=by
 rcases o with o|⟨id,rfl,h1,h2,h3⟩
 · exact .inl o
 · exact .inr ⟨id,rfl,by rw[hg id rfl];exact h1,by rw[hf];exact h2,h3⟩
theorem nq.sc {h:H} {v:AV} {cs:List AV} (o:nq h v cs):v.sc=true:=by
 rcases o with ⟨rfl,_⟩|⟨id,rfl,_⟩<;>rfl
theorem nq.lt {h:H} {v:AV} {cs:List AV} (o:nq h v cs) {i:Nat} (hi:v.id?=some i):i<h.next:=by
 rcases o with ⟨rfl,_⟩|⟨id,rfl,h1,_⟩
 · cases hi
 · obtain rfl:=uz hi;exact h.lt _ _ h1
theorem nq.app {h:H} {v:AV} {cs:List AV} (o:nq h v cs) (hfn:h.floor≤h.next) {z:Nat} (c:AV) (hc:c.sc=true) (hr:roomy z (cs.length+1)=true):
 ∃v' h',dX h 1 z v 1 [c]=some (v',h')∧nq h' v' (cs++[c])∧h'.floor=h.floor∧h.next≤h'.next∧(∀i,v.id?≠some i→i≠h.next→h'.get i=h.get i)∧v'.id?=some h.next:=by
 have ha:AV.aD [c]=true:=by simp [AV.aD,hc]
 rcases o with ⟨rfl,rfl⟩|⟨id,rfl,hg,hf,hne⟩
 · refine⟨.aF h.next 0 1 1,h.alloc [c], ?_,.inr ⟨h.next,rfl,by simp [H.aX], ?_,by simp⟩,by simp,by simp,fun i _ hi=>by rw[H.aX,if_neg hi],rfl⟩
   · unfold dX
     rw[if_neg (by omega),if_neg (by simp [ha])]
     simp only[List.length_nil,uP]at hr
     simp only[hr,if_true]
   · simp;omega
 · refine⟨.aF h.next 0 (cs.length+1) 1,(h.del id).alloc (cs++[c]), ?_,.inr ⟨h.next,by simp,by simp [H.aX], ?_,by simp⟩,by simp,by simp,fun i h1 h2=> ?_,rfl⟩
   · unfold dX
     rw[if_neg (by omega),if_neg (by simp [ha])]
     simp only[hf,and_self,if_true,hg,uG]
     rw[if_neg (by omega),if_pos ⟨by omega,hr⟩]
     simp
   · have:=h.lt id cs hg;simp;omega
   · rw[H.aX,H.jE,if_neg h2,H.ep,if_neg]
     intro e;subst e;exact h1 rfl
def dB (h:H) (p:Option AV):Option (AV×H):=p.bind fun v=>some (v,h)
theorem qX (h:H) (v:AV):dB h (some v)=some (v,h):=uD rfl rfl
def sX (h:H) (neg:Bool) (p:Option Bool):Option (AV×H):=p.bind fun b=>some (pb neg b,h)
theorem qY (h:H) (neg b:Bool):sX h neg (some b)=some (pb neg b,h):=uD rfl rfl
theorem sY (b:Bool):pb false b=.bool b:=uD rfl rfl
theorem sZ (b:Bool):pb true b=.bool (!b):=uD rfl rfl
def qZ (p:Option H):Option (AV×H):=p.bind fun h=>some (.bot,h)
theorem rh (h:H):qZ (some h)=some (.bot,h):=uD rfl rfl
def mZ (h:H) (a b:AV) (c:AV):Option (AV×H):=match c with| .bool t=>some (if t then a else b,h)|_=>none
theorem oN (h:H) (a b:AV):mZ h a b (.bool true)=some (a,h):=uD rfl rfl
theorem oM (h:H) (a b:AV):mZ h a b (.bool false)=some (b,h):=uD rfl rfl
def jG (h:H) (c:AV):Option (AV×H):=match c with| .aE i o=>some (.aE i o,h)| .aL c o=>some (.aL c o,h)| .fn f a b=>some (.fn f a b,h)| .iface t v=>some (.iface t v,h)|_=>none
theorem oh (h:H) (i o:Nat):jG h (.aE i o)=some (.aE i o,h):=uD rfl rfl
theorem ob (h:H) (c:List AV) (o:Nat):jG h (.aL c o)=some (.aL c o,h):=uD rfl rfl
theorem n9 (h:H) (f:Nat) (a b:List AV):jG h (.fn f a b)=some (.fn f a b,h):=uD rfl rfl
theorem oe (h:H) (t:Nat) (v:AV):jG h (.iface t v)=some (.iface t v,h):=uD rfl rfl
def sM (h:H) (c:AV):Option (AV×H):=match c with| .bool b=>some (.bool (!b),h)|_=>none
theorem qF (h:H) (b:Bool):sM h (.bool b)=some (.bool (!b),h):=uD rfl rfl
def sL (h:H) (c:AV):Option (AV×H):=match c with| .int k n=>some (.int k (k.wrap (0-n)),h)|_=>none
theorem tN (h:H) (k:IntKind) (n:Int):sL h (.int k n)=some (.int k (k.wrap (0-n)),h):=uD rfl rfl
def sJ (h:H) (c:AV):Option (AV×H):=match c with| .int k n=>some (.int k (bits .xor k (if k.signed then-1 else k.max) n),h)|_=>none
theorem tM (h:H) (k:IntKind) (n:Int):sJ h (.int k n)=some (.int k (bits .xor k (if k.signed then-1 else k.max) n),h):=uD rfl rfl
def pq (h:H) (k:IntKind) (c:AV):Option (AV×H):=match c with| .int _ n=>some (.int k (k.wrap n),h)|_=>none
theorem nL (h:H) (j k:IntKind) (n:Int):pq h k (.int j n)=some (.int k (k.wrap n),h):=uD rfl rfl
def pJ (h:H) (c:AV):Option (AV×H):=match c with| .str s=>some (.str s,h)|_=>none
theorem oU (h:H) (s:ByteArray):pJ h (.str s)=some (.str s,h):=uD rfl rfl
def rS (h:H) (neg:Bool) (a b:AV):Option (AV×H):=match a,b with| .bool a,.bool b=>some (pb neg (a==b),h)|_,_=>none
theorem tJ (h:H) (neg a b:Bool):rS h neg (.bool a) (.bool b)=some (pb neg (a==b),h):=uD rfl rfl
def py (h:H) (i:Nat) (v:AV):Option (AV×H):=match v with| .bS vs=>dB h (vs[i]?)|_=>none
theorem nQ (h:H) (i:Nat) (vs:List AV):py h i (.bS vs)=dB h (vs[i]?):=uD rfl rfl
def rY (h:H) (agg:Bool) (off n:Nat) (v:AV):Option (AV×H):=match v with| .agg cs=>dB h (ij agg n cs off)|_=>none
theorem qo (h:H) (agg:Bool) (off n:Nat) (cs:List AV):rY h agg off n (.agg cs)=dB h (ij agg n cs off):=uD rfl rfl
def ni (h:H) (t:Nat) (v:AV):Option (AV×H):=match v with| .iface u v=>if u=t then some (v,h)else none|_=>none
theorem o7 (h:H) (t:Nat) (v:AV):ni h t (.iface t v)=some (v,h):=by simp [ni]
def kE (c:ae) (args:List AV) (h:H) (f:AV):Option (AV×H):=match f with| .fn k first captured=>c k (first++args++captured) h|_=>none
theorem nJ (c:ae) (args:List AV) (h:H) (k:Nat):kE c args h (.fn k [] [])=c k args h:=by simp [kE]
theorem mD (c:ae) (args:List AV) (h:H) (k:Nat) (f g:List AV):kE c args h (.fn k f g)=c k (f++args++g) h:=uD rfl rfl
def eP (h:H) (p:Option (List AV×(Nat→AV))):Option (AV×H):=p.bind fun b=>some (b.2 h.next,h.alloc b.1)
theorem mw (h:H) (cs:List AV) (f:Nat→AV):eP h (some (cs,f))=some (f h.next,h.alloc cs):=uD rfl rfl
def rM (h:H) (p:Option (List AV)):Option (AV×H):=p.bind fun cs=>some (.agg cs,h)
theorem pR (h:H) (cs:List AV):rM h (some cs)=some (.agg cs,h):=uD rfl rfl
def tH (h:H) (x:AV) (p:Option (Nat×List AV)):Option (AV×H):=p.bind fun q=>(kQ q.2).bind fun l=>match x with| .str _=>none|_=>some (.str ⟨l.toArray⟩,h)
section
variable (c:ae) (e:Env) (h:H)
theorem sN (x:X):ah c e h (.mv x)=some (x.ev e,h):=uD rfl rfl
theorem oI (x a b:X):ah c e h (.pick x a b)=mZ h (a.ev e) (b.ev e) (x.ev e):=uD rfl rfl
theorem gY (z:List AV):ah c e h (.alloc z)=eP h (aZ e (.alloc z)):=uD rfl rfl
theorem jb (n:Nat) (x:X):ah c e h (.box n x)=eP h (aZ e (.box n x)):=uD rfl rfl
theorem fQ (a b:Nat) (z:List AV) (ps):ah c e h (.cY a b z ps)=eP h (aZ e (.cY a b z ps)):=uD rfl rfl
theorem ig (a b:Nat) (z:List AV) (x y:X):ah c e h (.ja a b z x y)=eP h (aZ e (.ja a b z x y)):=uD rfl rfl
theorem om (x:X):ah c e h (.oT x)=eP h (aZ e (.oT x)):=uD rfl rfl
theorem mQ (z:List AV) (ps:List (Nat×Nat×X)):ah c e h (.build z ps)=rM h (ei z (ps.map fun p=>(p.1,p.2.1,p.2.2.ev e))):=uD rfl rfl
theorem oE (agg:Bool) (n:Nat) (p:X):ah c e h (.load agg n p)=dB h (bX agg n (p.ev e) h):=uD rfl rfl
theorem mT (n:Nat) (p v:X):ah c e h (.store n p v)=qZ (dm n (p.ev e) (v.ev e) h):=uD rfl rfl
theorem oH (x:X):ah c e h (.n8 x)=jG h (x.ev e):=uD rfl rfl
theorem qI (o:Bo) (x y:X):ah c e h (.bin o x y)=dB h (br o (x.ev e) (y.ev e)):=uD rfl rfl
theorem qL (k:Nat) (neg:Bool) (x y:X):ah c e h (.kW k neg x y)=sX h neg (fN k (x.ev e) (y.ev e)):=uD rfl rfl
theorem qK (neg:Bool) (x y:X):ah c e h (.rR neg x y)=rS h neg (x.ev e) (y.ev e):=uD rfl rfl
theorem qR (x:X):ah c e h (.not x)=sM h (x.ev e):=uD rfl rfl
theorem qQ (x:X):ah c e h (.neg x)=sL h (x.ev e):=uD rfl rfl
theorem qN (x:X):ah c e h (.inv x)=sJ h (x.ev e):=uD rfl rfl
theorem oq (k:IntKind) (x:X):ah c e h (.conv k x)=pq h k (x.ev e):=uD rfl rfl
theorem oJ (x:X):ah c e h (.same x)=pJ h (x.ev e):=uD rfl rfl
theorem qH (x:X):ah c e h (.kQ x)=tH h (x.ev e) (aT h 1 (x.ev e)):=uD rfl rfl
theorem oG (t:Nat) (x:X):ah c e h (.nZ t x)=if(x.ev e).sc then some (.iface t (x.ev e),h)else none:=uD rfl rfl
theorem oF (f:Nat) (a b:List X):ah c e h (.nY f a b)=some (.fn f (aY e a) (aY e b),h):=uD rfl rfl
theorem qT (x:X) (lo hi:Option X):ah c e h (.tz x lo hi)=dB h (nF (x.ev e) (lo.map (X.ev e)) (hi.map (X.ev e))):=uD rfl rfl
theorem sP (sz:Nat) (x:X) (lo hi mx:Option X):ah c e h (.sl sz x lo hi mx)=dB h (rP h sz (x.ev e) (lo.map (X.ev e)) (hi.map (X.ev e)) (mx.map (X.ev e))):=uD rfl rfl
theorem qS (n sz:Nat) (x:X) (lo hi:Option X):ah c e h (.rF n sz x lo hi)=dB h (mr h n sz (x.ev e) (lo.map (X.ev e)) (hi.map (X.ev e))):=uD rfl rfl
theorem oz (off:Nat) (x:X):ah c e h (.nR off x)=dB h (ft off (x.ev e)):=uD rfl rfl
theorem qM (agg:Bool) (off n:Nat) (x:X):ah c e h (.tl agg off n x)=rY h agg off n (x.ev e):=uD rfl rfl
theorem oA (sz:Nat) (x i:X):ah c e h (.nS sz x i)=dB h (fZ sz (x.ev e) (i.ev e)):=uD rfl rfl
theorem mS (n sz:Nat) (x i:X):ah c e h (.kI n sz x i)=dB h (dk n sz (x.ev e) (i.ev e)):=uD rfl rfl
theorem oC (x i:X):ah c e h (.idxs x i)=dB h (mg (x.ev e) (i.ev e)):=uD rfl rfl
theorem oB (agg:Bool) (n sz:Nat) (x i:X):ah c e h (.nV agg n sz x i)=dB h (md agg n sz (x.ev e) (i.ev e)):=uD rfl rfl
theorem ou (x:X) (i:Nat):ah c e h (.nP x i)=py h i (x.ev e):=uD rfl rfl
def mM (c:ae) (h:H) (t f:Nat) (d:Bool) (xs:List AV) (v:AV):Option (AV×H):=match v with| .iface u v=>if u=t then(iA d v h).bind fun x=>c f (x::xs) h else none|_=>none
def qz (c:ae) (h:H) (f:Nat) (xs:List AV) (p:Option AV):Option (AV×H):=p.bind fun x=>c f (x::xs) h
theorem qA (c:ae) (h:H) (f:Nat) (xs:List AV) (x:AV):qz c h f xs (some x)=c f (x::xs) h:=rfl
theorem qx (c:ae) (h:H) (t f:Nat) (xs:List AV) (v:AV):mM c h t f false xs (.iface t v)=c f (v::xs) h:=by simp [mM,iA]
theorem qy (c:ae) (h:H) (t f:Nat) (xs:List AV) (v:AV):mM c h t f true xs (.iface t v)=qz c h f xs (bX false 1 v h):=by simp [mM,iA,qz]
theorem oK (x:X) (t:Nat):ah c e h (.o6 x t)=ni h t (x.ev e):=uD rfl rfl
theorem oD (r:X) (t f:Nat) (d:Bool) (xs:List X):ah c e h (.inv2 r t f d xs)=mM c h t f d (aY e xs) (r.ev e):=uD rfl rfl
theorem oo (f:X) (args:List X):ah c e h (.call f args)=kE c (aY e args) h (f.ev e):=uD rfl rfl
theorem qG (a b:Nat) (x y:X):ah c e h (.app a b x y)=kN h a b (x.ev e) (y.ev e):=uD rfl rfl
theorem oj (a b:Nat) (z:List AV) (x y:X):ah c e h (.jS a b z x y)=iu h a b z (x.ev e) (y.ev e):=uD rfl rfl
theorem qP (s:Bool) (x:X):ah c e h (.len s x)=dB h (ji s (x.ev e)):=uD rfl rfl
theorem qJ (x:X):ah c e h (.cap x)=dB h (pO (x.ev e)):=uD rfl rfl
theorem ot (n:Nat) (x y:X):ah c e h (.copy n x y)=iy h n (x.ev e) (y.ev e):=uD rfl rfl
theorem mR (n:Nat) (z:List AV) (x:X):ah c e h (.clear n z x)=qZ (eM h n z (x.ev e)):=uD rfl rfl
end
theorem mq (e:Env):aY e []=[]:=uD rfl rfl
theorem kO (e:Env) (x:X) (r:List X):aY e (x::r)=x.ev e::aY e r:=uD rfl rfl
def tK (c:ae) (d:Option Nat) (r:List aj) (e:Env) (p:Option (AV×H)):Option (Env×H):=p.bind fun q=>au c r (aN d q.1 e) q.2
theorem sA (c:ae) (d:Option Nat) (r:List aj) (e:Env) (v:AV) (h:H):tK c d r e (some (v,h))=au c r (aN d v e) h:=uD rfl rfl
def lg (w:Bool) (c:ae) (e:Env) (h:H) (op:cf) (g:AV):Option (AV×H):=match g with| .bool b=>if b=w then ah c e h op else some (.bS [],h)| .bS []=>some (.bS [],h)|_=>none
theorem qw (c:ae) (e:Env) (h:H) (op:cf):lg true c e h op (.bool true)=ah c e h op:=by simp [lg]
theorem qt (c:ae) (e:Env) (h:H) (op:cf):lg false c e h op (.bool false)=ah c e h op:=by simp [lg]
theorem qv (c:ae) (e:Env) (h:H) (op:cf):lg true c e h op (.bool false)=some (.bS [],h):=by simp [lg]
theorem qu (c:ae) (e:Env) (h:H) (op:cf):lg false c e h op (.bool true)=some (.bS [],h):=by simp [lg]
theorem sh (w:Bool) (c:ae) (e:Env) (h:H) (op:cf):lg w c e h op (.bS [])=some (.bS [],h):=by simp [lg]
theorem mK (c:ae) (d:Option Nat) (op:cf) (g:Nat) (w:Bool) (e:Env) (h:H):ai c ⟨d,op,some (g,w)⟩ e h=lg w c e h op (look e g):=by
 unfold ai lg
 dsimp only
 cases look e g with
 |bS vs=>cases vs<;>rfl
 |_=>rfl
theorem oL (c:ae) (e:Env) (h:H):au c [] e h=some (e,h):=uD rfl rfl
theorem sR (c:ae) (d:Option Nat) (op:cf) (r:List aj) (e:Env) (h:H):au c (⟨d,op,none⟩::r) e h=tK c d r e (ah c e h op):=uD rfl rfl
theorem sQ (c:ae) (d:Option Nat) (op:cf) (g:Nat) (w:Bool) (r:List aj) (e:Env) (h:H):au c (⟨d,op,some (g,w)⟩::r) e h=tK c d r e (lg w c e h op (look e g)):=by
 rw[au,mK];rfl
def tL (wW:List Nat) (p:Option (Env×H)):dO:=p.bind fun q=>some (.normal,ay q.1 wW,q.2)
theorem sC (wW:List Nat) (e:Env) (h:H):tL wW (some (e,h))=some (.normal,ay e wW,h):=uD rfl rfl
def tq (c:ae) (l:bN) (b:aH) (p:dO):dO:=p.bind fun r=>match r with|(.normal,e',h')=>aM c l b e' h'|r=>some r
theorem sD (c:ae) (l:bN) (b:aH) (e:Env) (h:H):tq c l b (some (.normal,e,h))=aM c l b e h:=uD rfl rfl
theorem sF (c:ae) (l:bN) (b:aH) (i:Nat) (e:Env) (h:H):tq c l b (some (.exit i,e,h))=some (.exit i,e,h):=uD rfl rfl
theorem sE (c:ae) (l:bN) (b:aH) (e:Env) (h:H):tq c l b (some (.ret,e,h))=some (.ret,e,h):=uD rfl rfl
def tp (wW:List Nat) (p:dO):dO:=p.bind fun r=>match r with|(.normal,e',h')=>some (.normal,ay e' wW,h')|r=>some r
theorem sm (wW:List Nat) (e:Env) (h:H):tp wW (some (.normal,e,h))=some (.normal,ay e wW,h):=uD rfl rfl
theorem su (wW:List Nat) (i:Nat) (e:Env) (h:H):tp wW (some (.exit i,e,h))=some (.exit i,e,h):=uD rfl rfl
theorem sq (wW:List Nat) (e:Env) (h:H):tp wW (some (.ret,e,h))=some (.ret,e,h):=uD rfl rfl
def tn (c:ae) (l:bN) (a b:aH) (e:Env) (h:H) (t:AV):dO:=match t with| .bool t=>if t then aM c l a e h else aM c l b e h|_=>none
theorem sk (c:ae) (l:bN) (a b:aH) (e:Env) (h:H):tn c l a b e h (.bool true)=aM c l a e h:=uD rfl rfl
theorem sj (c:ae) (l:bN) (a b:aH) (e:Env) (h:H):tn c l a b e h (.bool false)=aM c l b e h:=uD rfl rfl
def qp (id:Nat) (wW:List Nat) (p:dO):dO:=p.bind fun r=>match r with
 |(.normal,e',h')=>some (.normal,ay e' wW,h')
 |(.exit j,e',h')=>if j=id then some (.normal,ay e' wW,h')else some (.exit j,e',h')
 |(.ret,e',h')=>some (.ret,e',h')
theorem rZ (id:Nat) (wW:List Nat) (e:Env) (h:H):qp id wW (some (.normal,e,h))=some (.normal,ay e wW,h):=uD rfl rfl
theorem sf (id:Nat) (wW:List Nat) (e:Env) (h:H):qp id wW (some (.exit id,e,h))=some (.normal,ay e wW,h):=by simp [qp]
theorem sg {id j:Nat} (hj:j≠id) (wW:List Nat) (e:Env) (h:H):qp id wW (some (.exit j,e,h))=some (.exit j,e,h):=by simp [qp,hj]
theorem r0 (id:Nat) (wW:List Nat) (e:Env) (h:H):qp id wW (some (.ret,e,h))=some (.ret,e,h):=uD rfl rfl
section
variable (c:ae) (l:bN) (e:Env) (h:H)
theorem rH (ops:List aj) (wW:List Nat):aM c l (.oP ops wW) e h=tL wW (au c ops e h):=by rw[aM];rfl
theorem nv (ord:List Nat) (ops:List aj) (wW:List Nat):aM c l (.iY ord ops [] wW) e h=tL wW (au c ops e h):=by rw[kX];rfl
theorem rI (a b:aH):aM c l (.seq a b) e h=tq c l b (aM c l a e h):=by rw[aM];rfl
theorem pN (x:X) (a b:aH) (wW:List Nat):aM c l (.cond x a b wW) e h=tp wW (tn c l a b e h (x.ev e)):=by
 rw[aM];unfold tn;cases hx:x.ev e with
 |bool t=>cases t<;>rfl
 |_=>rfl
theorem nu (id:Nat) (x:aH) (wW:List Nat):aM c l (.block id x wW) e h=qp id wW (aM c l x e h):=by rw[aM];rfl
end
theorem mO (t:Nat) (v:AV) (r:Env):look ((t,v)::r) t=v:=if_pos rfl
theorem lq {s t:Nat} (hst:s≠t) (v:AV) (r:Env):look ((s,v)::r) t=look r t:=if_neg hst
theorem rX (e:Env) (n:Nat):(X.t n).ev e=look e n:=uD rfl rfl
theorem rW (e:Env) (v:AV):(X.c v).ev e=v:=uD rfl rfl
theorem oQ (e:Env) (t:Nat) (r:List Nat):ay e (t::r)=(t,look e t)::ay e r:=uD rfl rfl
theorem oR (e:Env):ay e []=[]:=uD rfl rfl
theorem sU (d:Nat) (v:AV) (e:Env):aN (some d) v e=(d,v)::e:=uD rfl rfl
theorem sS (v:AV) (e:Env):aN none v e=e:=uD rfl rfl
theorem mY (i:Nat):params i []=[]:=uD rfl rfl
theorem mX (i:Nat) (v:AV) (r:List AV):params i (v::r)=(i,v)::params (i+1) r:=uD rfl rfl
def ud (id off sz:Nat) (p:Option Nat):Option AV:=p.bind fun j=>some (.aE id (off+j* sz))
def ue (c:List AV) (off sz:Nat) (p:Option Nat):Option AV:=p.bind fun j=>some (.aL c (off+j* sz))
theorem sG (id off sz j:Nat):ud id off sz (some j)=some (.aE id (off+j* sz)):=uD rfl rfl
theorem sH (c:List AV) (off sz j:Nat):ue c off sz (some j)=some (.aL c (off+j* sz)):=uD rfl rfl
theorem nU (n sz id off:Nat) (i:AV):dk n sz (.aE id off) i=ud id off sz (di i n):=uD rfl rfl
theorem nT (n sz off:Nat) (c:List AV) (i:AV):dk n sz (.aL c off) i=ue c off sz (di i n):=uD rfl rfl
theorem qm (off id o:Nat):ft off (.aE id o)=some (.aE id (o+off)):=uD rfl rfl
theorem qk (off o:Nat) (c:List AV):ft off (.aL c o)=some (.aL c (o+off)):=uD rfl rfl
def uf (agg:Bool) (n off:Nat) (p:Option (List AV)):Option AV:=p.bind fun cs=>ij agg n cs off
theorem sV (agg:Bool) (n off:Nat) (cs:List AV):uf agg n off (some cs)=ij agg n cs off:=uD rfl rfl
theorem qC (agg:Bool) (n id off:Nat) (h:H):bX agg n (.aE id off) h=uf agg n off (h.get id):=uD rfl rfl
theorem qB (agg:Bool) (n off:Nat) (cs:List AV) (h:H):bX agg n (.aL cs off) h=ij agg n cs off:=uD rfl rfl
theorem sW (n:Nat) (cs:List AV) (off:Nat):ij false n cs off=cs[off]?:=by simp [ij]
def tS (h:H) (id off n:Nat) (v:List AV) (p:Option (List AV)):Option H:=p.bind fun cs=>if h.floor≤id∧v.length=n∧off+n≤cs.length∧AV.aD v=true then some (h.set id (setFrom cs off v))else none
theorem o5 (n id off:Nat) (v:AV) (h:H):dm n (.aE id off) v h=tS h id off n v.cells (h.get id):=uD rfl rfl
theorem uk {h:H} {id off:Nat} {v:AV} {cs:List AV} (h1:h.floor≤id) (h2:off<cs.length) (h3:v.sc=true):tS h id off 1 [v] (some cs)=some (h.set id (cs.set off v)):=by
 simp only[tS,uG]
 rw[if_pos ⟨h1,rfl,h2,by simp [h3]⟩];rfl
theorem qe (i o:Nat):fN 0 (.aE i o) .cK=some false:=uD rfl rfl
theorem p9 (c:List AV) (o:Nat):fN 0 (.aL c o) .cK=some false:=uD rfl rfl
theorem qb:fN 0 .cK .cK=some true:=uD rfl rfl
theorem qi (i o l z:Nat):fN 1 (.aF i o l z) .aQ=some false:=uD rfl rfl
theorem qg (t:Bool) (c:List AV) (o l z:Nat):fN 1 (.aW t c o l z) .aQ=some false:=uD rfl rfl
theorem qh:fN 1 .aQ .aQ=some true:=uD rfl rfl
theorem tY {a b:Int} (h:a=b):(a==b)=true:=by simp [h]
theorem tW {a b:Int} (h:a≠b):(a==b)=false:=by simp [h]
theorem ua {a b:Int} (h:a≠b):(a !=b)=true:=by simp [h]
theorem tZ {a b:Int} (h:a=b):(a !=b)=false:=by simp [h]
theorem uo (n:Int):I n=.int .i64 n:=rfl
theorem nW (s:ByteArray):ji true (.str s)=some (.int .i64 s.size):=uD rfl rfl
theorem uv (n:Int):(I n).sc=true:=rfl
attribute [go_sem] qA qx qy oD sA qw qt qv qu sh oL sR sQ sC sD sF sE sm su sq sk sj rZ sf r0 sg rH nv rI pN nu mJ nN mI mO lq rX rW oQ oR sU sS mY mX qX qY sY sZ rh oN oM oh ob n9 oe qF nL oU nQ qo o7 nJ mD mw pR sN oI gY jb fQ ig mQ oE mT oH qI qL qK qR qQ qN oq oJ qH oG oF qT sP qS oz qM oA mS oC oB ou oK oo qG oj qP qJ ot mR mq kO sG sH nU nT qm qk sV qC qB sW o5 kU jZ kV j5 j6 j4 j0 kT ri oV rj oY oZ oX oW ne_eq not_false_eq_true Nat.zero_add Nat.add_zero Nat.mul_one Bool.not_true Bool.not_false lQ lZ lX lW lV lU lT lS lY lR ny ma gt_iff_lt ge_iff_le List.cons_append List.nil_append List.append_nil List.append_assoc qe p9 qb qi qg qh nW decide_true decide_false List.length_cons List.length_nil List.set_cons_zero List.set_cons_succ List.getElem?_cons_zero List.getElem?_cons_succ
attribute [go_sem] Nat.reduceEqDiff reduceIte Nat.reduceAdd Nat.reduceMul Nat.reduceLT Nat.reduceLeDiff Int.reduceBEq Int.reduceBNe Int.reduceLT Int.reduceLE Int.reduceEq
end Ab
