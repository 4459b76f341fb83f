/- Part A2. -/
import Derived.ProofKit
import Derived.SizedLaws
import Derived.Carry
import Derived.ChangeArms
import Derived.Attr
import Derived.Test.YtcpjlemfholepaaGreatA1
set_option linter.unusedSimpArgs false
set_option linter.unusedVariables false
namespace Ab
open Go RowKit
structure Z where
 i:Nat
 x:ak
 m:Nat
def hZ (o:Oper):List Nat:=(o.after.toList.filter (Region.binds .any)).map (·.on)
def kI:List Z→Nat→Option Nat
 |[],_=>none
 |z::r,e=>if z.i=e then some z.m else kI r e
def iQ (acc:List Z):List Nat→Option Nat
 |[]=>some 0
 |e::r=>(kI acc e).bind fun m=>(iQ acc r).bind fun m'=>some ((m|||2^e)|||m')
def ou (L:Lk) (nt:Nat) (ops:Array Oper):List Nat→List Z→Option (List Z)
 |[],_=>some []
 |i::r,acc=>(ops[i]?).bind fun o=>(bw L nt ops o).bind fun x=>(iQ acc (hZ o)).bind fun m=>(ou L nt ops r (⟨i,x,m⟩::acc)).bind fun zs=>some (⟨i,x,m⟩::zs)
def dP:List (Nat×List Nat)→Nat→List Nat
 |[],_=>[]
 |(q,ks)::r,p=>if q=p then ks else dP r p
def bL (fl:List Nat) (z y:Z):Bool:=
 decide (z.i≠y.i)&&((match z.x.dst with|none=>true|some d=>decide (y.x.dst≠some d)&&(!(y.x.tm.contains d)||y.m.testBit z.i))&&
 ((match y.x.dst with|none=>true|some d=> !(z.x.tm.contains d)||(y.m.testBit z.i&&fl.isEmpty))&&(!(z.x.op.aO&&y.x.op.aO)||y.m.testBit z.i)))
def dy (z:Z) (j:Nat):Nat→List Z→Bool
 |_,[]=>true
 |q,y::r=>if y.x.op.aO=true then((!(z.m.testBit y.i)||decide (q<j))&&(!(y.m.testBit z.i)||decide (j≤q)))&&dy z j (q+1) r else dy z j q r
def dX (zs:List Z) (fl:List Nat) (own n:Nat) (z:Z):Bool:=
 ((match z.x.dst with|none=> !z.x.op.aI&&fl.isEmpty|some d=> !(z.x.tm.contains d)||fl.isEmpty))&&
 (!(z.x.op.aI||z.x.op.reads)||(List.range (n+1)).all fun j=>j==own|| !dy z j 0 zs||fl.contains j)
def pM (all:List Z) (fl:List (Nat×List Nat)) (n:Nat):Nat→Nat→List Z→Bool
 |_,_,[]=>true
 |p,own,z::r=>dX all (dP fl p) own n z&&(r.all (bL (dP fl p) z)&&pM all fl n (p+1) (if z.x.op.aO=true then own+1 else own) r)
def kG (L:Lk) (nt:Nat) (ops:Array Oper) (ord:List Nat) (fl:List (Nat×List Nat)):Option (List ak):=
 (ou L nt ops ord []).bind fun zs=>
 if ord.length=ops.size∧(List.range ops.size).all (ord.contains ·)=true∧pM zs fl (nl (zs.map (·.x))) 0 0 zs=true then some (zs.map (·.x))else none
theorem dW {L:Lk} {nt:Nat} {ops:Array Oper}:∀{ord:List Nat} {acc zs:List Z},ou L nt ops ord acc=some zs→zs.map (·.i)=ord∧∀z∈zs,∃o,ops[z.i]?=some o∧bw L nt ops o=some z.x
 |[],_,_,h=>by obtain rfl:=u6 h;exact⟨rfl,fun z hz=>by simp at hz⟩
 | i :: r, acc, zs, h => by
   simp only[ou,u5]at h
   obtain⟨o,h1,x,h2,m,h3,zs',h4,h5⟩:=h
   obtain rfl:=u6 h5
   obtain⟨g1,g2⟩:=dW h4
   refine⟨by simp [g1],fun z hz=> ?_⟩
   rcases vF.1 hz with rfl|hz
   · exact⟨o,h1,h2⟩
   · exact g2 z hz
theorem iA:∀{acc:List Z} {e m:Nat},kI acc e=some m→∃z∈acc,z.i=e∧z.m=m
 |[],_,_,h=>by cases h
 | z :: r, e, m, h => by
   unfold kI at h
   split at h
   · rename_i q;exact⟨z,by simp,q,u6 h⟩
   · obtain⟨y,hy,q⟩:=iA h;exact⟨y,by simp [hy],q⟩
theorem c9 {acc : List Z} : ∀ {es : List Nat} {m : Nat}, iQ acc es = some m → (∀ e ∈ es, ∃ z ∈ acc, z.i = e) ∧ ∀ k, m.testBit k = true → ∃ e ∈ es, k = e ∨ ∃ z ∈ acc, z.i = e ∧ z.m.testBit k = true
 |[],m,h=>by obtain rfl:=u6 h;exact⟨fun e he=>by simp at he,fun k hk=>by simp at hk⟩
 | e :: es, m, h => by
   simp only[iQ,u5]at h
   obtain⟨m1,h1,m2,h2,h3⟩:=h
   obtain rfl:=u6 h3
   obtain⟨g1,g2⟩:=c9 h2
   obtain⟨z,hz,hz1,hz2⟩:=iA h1
   refine⟨fun e' he=> ?_,fun k hk=> ?_⟩
   · rcases vF.1 he with rfl|he
     · exact⟨z,hz,hz1⟩
     · exact g1 e' he
   · rw[Nat.testBit_or,Nat.testBit_or,vB,vB]at hk
     rcases hk with (hk|hk)|hk
     · exact⟨e,List.mem_cons_self,.inr ⟨z,hz,hz1,hz2.symm ▸ hk⟩⟩
     · rw[Nat.testBit_two_pow]at hk
       exact⟨e,List.mem_cons_self,.inl (of_decide_eq_true hk).symm⟩
     · obtain⟨e',he',q⟩:=g2 k hk
       exact⟨e',by simp [he'],q⟩
def Cl (ops:Array Oper) (done:Nat→Prop):Prop:=∀i o,ops[i]?=some o→done i→∀e∈hZ o,done e
theorem gE {L : Lk} {nt : Nat} {ops : Array Oper} {done : Nat → Prop} (hcl : Cl ops done) : ∀ {ord : List Nat} {acc zs : List Z}, ou L nt ops ord acc = some zs →
 (∀z∈acc,done z.i→∀k,z.m.testBit k=true→done k)→∀z∈zs,done z.i→∀k,z.m.testBit k=true→done k
 |[],_,_,h,_=>by obtain rfl:=u6 h;intro z hz;simp at hz
 | i :: r, acc, zs, h, ha => by
   simp only[ou,u5]at h
   obtain⟨o,h1,x,h2,m,h3,zs',h4,h5⟩:=h
   obtain rfl:=u6 h5
   have hz:∀z∈((⟨i,x,m⟩:Z)::acc),done z.i→∀k,z.m.testBit k=true→done k:=by
    intro z hz hd k hk
    rcases vF.1 hz with rfl|hz
    · obtain⟨e,he,q⟩:=(c9 h3).2 k hk
      have hde:=hcl i o h1 hd e he
      rcases q with rfl|⟨y,hy,hy1,hy2⟩
      · exact hde
      · exact ha y hy (hy1 ▸ hde) k hy2
    · exact ha z hz hd k hk
   intro z hzm
   rcases vF.1 hzm with rfl|hzm
   · exact hz _ (by simp)
   · exact gE hcl h4 hz z hzm
theorem iC {L : Lk} {nt : Nat} {ops : Array Oper} {done : Nat → Prop} : ∀ {ord : List Nat} {acc zs : List Z}, ou L nt ops ord acc = some zs → (∀ z ∈ acc, done z.i) → (∃ z ∈ zs, ¬ done z.i) → ∃ z ∈ zs, ¬ done z.i ∧ ∃ o, ops[z.i]? = some o ∧ ∀ e ∈ hZ o, done e
 |[],_,_,h,_,hx=>by obtain rfl:=u6 h;obtain⟨z,hz,_⟩:=hx;simp at hz
 | i :: r, acc, zs, h, ha, hx => by
   simp only[ou,u5]at h
   obtain⟨o,h1,x,h2,m,h3,zs',h4,h5⟩:=h
   obtain rfl:=u6 h5
   by_cases hd:done i
   · obtain⟨z,hz,hnd⟩:=hx
     have hz':z∈zs':=by
      rcases vF.1 hz with rfl|hz
      · exact absurd hd hnd
      · exact hz
     obtain⟨y,hy,q⟩:=iC h4 (fun y hy=>by
      rcases vF.1 hy with rfl|hy
      · exact hd
      · exact ha y hy) ⟨z,hz',hnd⟩
     exact⟨y,by simp [hy],q⟩
   · refine⟨⟨i,x,m⟩,by simp,hd,o,h1,fun e he=> ?_⟩
     obtain⟨z,hz,hze⟩:=(c9 h3).1 e he
     exact hze ▸ ha z hz
theorem iG {all : List Z} {fl : List (Nat × List Nat)} {n : Nat} : ∀ {l : List Z} {p0 own : Nat}, pM all fl n p0 own l = true →
 (∀p z,l[p]?=some z→dX all (dP fl (p0+p)) (own+nl ((l.take p).map (·.x))) n z=true)∧∀p q z y,p<q→l[p]?=some z→l[q]?=some y→bL (dP fl (p0+p)) z y=true
 |[],_,_,_=>⟨fun p z h=>by simp at h,fun p q z y _ h=>by simp at h⟩
 | z0 :: l, p0, own, h => by
   simp only[pM,vn,List.all_eq_true]at h
   obtain⟨h1,h2,h3⟩:=h
   obtain⟨g1,g2⟩:=iG h3
   refine⟨fun p z hz=> ?_,fun p q z y hpq hz hy=> ?_⟩
   · cases p with
     |zero=>simp at hz;subst hz;simpa [nl]using h1
     | succ p =>
       have:=g1 p z (by simpa using hz)
       rw[show p0+1+p=p0+(p+1)by omega]at this
       rw[vu,List.map_cons,nl]
       cases hl:z0.x.op.aO with
       |true=>simp only[hl,if_true]at this ⊢;rw[←vk own 1];exact this
       |false=>simp only[hl,vj,vJ]at this ⊢;rw[vr];exact this
   · cases q with
     |zero=>omega
     | succ q =>
       cases p with
       |zero=>simp at hz;subst hz;exact h2 y (vq (by simpa using hy))
       | succ p =>
         have:=g2 p q z y (by omega) (by simpa using hz) (by simpa using hy)
         rwa [show p0+1+p=p0+(p+1)by omega]at this
theorem dI {z : Z} {j : Nat} : ∀ {l : List Z} {q : Nat}, (∀ p y, l[p]? = some y → y.x.op.aO = true → (z.m.testBit y.i = true → q + nl ((l.take p).map (·.x)) < j) ∧ (y.m.testBit z.i = true → j ≤ q + nl ((l.take p).map (·.x)))) → dy z j q l = true
 |[],_,_=>rfl
 | y :: l, q, h => by
   unfold dy
   split
   · rename_i hl
     have h0:=h 0 y rfl hl
     simp only[List.take_zero,List.map_nil,nl,Nat.add_zero]at h0
     rw[vn,vn,vB,vB]
     refine⟨⟨?_, ?_⟩, ?_⟩
     · cases hb:z.m.testBit y.i with
       |false=>exact .inl rfl
       |true=>exact .inr (decide_eq_true (h0.1 hb))
     · cases hb:y.m.testBit z.i with
       |false=>exact .inl rfl
       |true=>exact .inr (decide_eq_true (h0.2 hb))
     · exact dI fun p x hx hxl=>by
        have:=h (p+1) x (by simpa using hx) hxl
        rw[vu,List.map_cons,nl,if_pos hl,←vk]at this
        exact this
   · rename_i hl
     exact dI fun p x hx hxl=>by
      have:=h (p+1) x (by simpa using hx) hxl
      rw[vu,List.map_cons,nl,if_neg hl,vr]at this
      exact this
theorem fB {call:ah} {ops:List ak} {e:Env} {gs:List H}:∀{fl:List (Nat×List Nat)},aZ call ops e gs fl=true→∀p k,k∈dP fl p→bF call ops e gs p k=true
 |[],_,p,k,hk=>by simp [dP]at hk
 | (q, ks) :: r, h, p, k, hk => by
   simp only[aZ,vn,List.all_eq_true]at h
   unfold dP at hk
   split at hk
   · rename_i e;subst e;exact h.1 k hk
   · exact fB h.2 p k hk
theorem bg (t:Nat):∀(l:List Nat) (e0 E:Env),look (l.map (fun s=>(s,look e0 s))++E) t=if t∈l then look e0 t else look E t
 |[],_,_=>by simp
 | s :: l, e0, E => by
   simp only[List.map_cons,List.cons_append,look]
   by_cases hs:s=t
   · subst hs;simp
   · rw[if_neg hs,bg t l e0 E]
     have:t∈s::l↔t∈l:=by simp [Ne.symm hs]
     by_cases ht:t∈l
     · rw[if_pos ht,if_pos (this.2 ht)]
     · rw[if_neg ht,if_neg (fun q=>ht (this.1 q))]
def rP (zs:List Z) (dn:Nat→Bool):List Nat:=zs.filterMap fun z=>if dn z.i then none else z.x.dst
def cut (zs:List Z) (dn:Nat→Bool) (e0 E:Env):Env:=(rP zs dn).map (fun s=>(s,look e0 s))++E
theorem bX {zs:List Z} {dn:Nat→Bool} {t:Nat}:t∈rP zs dn↔∃z∈zs,dn z.i=false∧z.x.dst=some t:=by
 unfold rP
 rw[List.mem_filterMap]
 constructor
 · rintro ⟨z,hz,h⟩
   split at h
   · cases h
   · rename_i q;exact⟨z,hz,by simpa using q,h⟩
 · rintro ⟨z,hz,h1,h2⟩
   exact⟨z,hz,by simp [h1,h2]⟩
end Ab
namespace Ab
open Go RowKit
section
variable {L:Lk} {w0:World}
theorem R.gw {ι:Io} {M:Mm} {h G:H} {w:World} (r:R L w0 ι M h w) (k:Gw h G):R L w0 ι M G w:=by
 have g:∀id cs l,G.get id=some cs→ι id=some l→h.get id=some cs:=fun id cs l a b=>by rw[k.get id (r.jY id l b)]at a;exact a
 exact⟨r.below,fun id l q=>Nat.lt_of_lt_of_le (r.jY id l q) k.nx,fun id cs l a b=>r.gP id cs l (g _ _ _ a b) b,fun id cs l a b=>r.own id cs l (g _ _ _ a b) b,fun id cs l a b=>r.val id cs l (g _ _ _ a b) b,
  fun i j cs cs' l l' a b c d=>r.fR i j cs cs' l l' (g _ _ _ a c) (g _ _ _ b d) c d,r.au,fun b o v id cs l m a c=>r.gQ b o v id cs l m (g _ _ _ a c) c⟩
theorem Gr.gw {h h2 G:H} {ι ι':Io} {M M':Mm} (a:Gr h ι M h2 ι' M') (k:Gw h2 G):Gr h ι M G ι' M':=⟨vG a.nx k.nx,a.io,a.mm,a.iF⟩
theorem j7 {ι : Io} {M : Mm} {w : World} {call : ah} {nt : Nat} {ops : Array Oper} {i : Nat} {o : Oper} {x : ak} (hi : ops[i]? = some o) (hc : bw L nt ops o = some x)
 {e:Env} {a:Act} (he:a7 L ι M e a.tmps) {h h':H} {v:AV} (hev:aj call x e h=some (v,h')) {K:Act→World→Prop} {Q:Exit→Act→World→Prop}
 (h1:bS L o.op=some x.op→ai call e h x.op=some (v,h')→o.wp L.P a w K Q) (h2:v=.bM []→h'=h→K (a.put o.dst undef) w):wpOp L.P ops Q i K a w:=by
 obtain⟨hop,hdst,_,hg⟩:=bV hc
 unfold wpOp
 simp only[hi]
 unfold aj at hev
 rcases hg with ⟨hg1,hg2⟩|⟨j,want,t,hg1,ht,hg2⟩
 · rw[hg2]at hev
   have:Region.wanted o (yielded ops a.tmps)=true:=by simp [Region.wanted,hg1]
   rw[if_pos this]
   exact .inl (h1 hop hev)
 · rw [hg2] at hev
   simp only at hev
   split at hev
   · rename_i b hb
     have q1:=he t
     rw[hb]at q1
     have q2:=iy q1.bR
     have hy:yielded ops a.tmps j=some b:=by simp [yielded,ht,q2]
     split at hev
     · rename_i hbw
       have:Region.wanted o (yielded ops a.tmps)=true:=by simp [Region.wanted,hg1,hy,hbw]
       rw[if_pos this]
       exact .inl (h1 hop hev)
     · rename_i hbw
       have:¬Region.wanted o (yielded ops a.tmps)=true:=by simp [Region.wanted,hg1,hy,hbw]
       rw[if_neg this]
       obtain⟨q3,q4⟩:=u9 (u6 hev)
       exact h2 q3.symm q4.symm
   · rename_i hb
     have q1:=he t
     rw[hb]at q1
     have:¬Region.wanted o (yielded ops a.tmps)=true:=by simp [Region.wanted,hg1,dC ht q1]
     rw[if_neg this]
     obtain⟨q3,q4⟩:=u9 (u6 hev)
     exact h2 q3.symm q4.symm
   · cases hev
theorem dM {call:ah} {e:Env} {h h':H} {o:ak} {v:AV} (hl:o.op.aO=false) (hb:o.op.aI=false) (hev:aj call o e h=some (v,h')):h'=h:=by
 unfold aj at hev
 split at hev
 · exact bJ hl hb hev
 · split at hev
   · split at hev
     · exact bJ hl hb hev
     · exact(u9 (u6 hev)).2.symm
   · exact(u9 (u6 hev)).2.symm
   · cases hev
structure DH (L:Lk) (nt:Nat) (ops:Array Oper) (call:ah) (ord:List Nat) (zs:List Z) (fl:List (Nat×List Nat)) (e0:Env) (h0:H) (E:Env) (hN:H) (gs:List H):Prop where
 mz:ou L nt ops ord []=some zs
 len:ord.length=ops.size
 all:∀k,k<ops.size→k∈ord
 one:∀(p:Nat) (z:Z),zs[p]?=some z→dX zs (dP fl p) (nl ((zs.map (·.x)).take p)) (nl (zs.map (·.x))) z=true
 pair:∀(p q:Nat) (z y:Z),p<q→zs[p]?=some z→zs[q]?=some y→bL (dP fl p) z y=true
 ev:aN call (zs.map (·.x)) e0 h0=some (E,hN,gs)
 st:aZ call (zs.map (·.x)) E gs fl=true
 nm:aQ call
variable {nt:Nat} {ops:Array Oper} {call:ah} {ord:List Nat} {zs:List Z} {fl:List (Nat×List Nat)} {e0:Env} {h0:H} {E:Env} {hN:H} {gs:List H}
theorem DH.of {os:List ak} (hc:kG L nt ops ord fl=some os) (hev:aN call os e0 h0=some (E,hN,gs)) (hst:aZ call os E gs fl=true) (hn:aQ call):∃zs,os=zs.map (·.x)∧DH L nt ops call ord zs fl e0 h0 E hN gs:=by
 unfold kG at hc
 simp only[u5]at hc
 obtain⟨zs,h1,h2⟩:=hc
 split at h2
 · rename_i hq
   obtain rfl:=u6 h2
   obtain⟨q1,q2,q3⟩:=hq
   obtain⟨g1,g2⟩:=iG q3
   refine⟨zs,rfl,h1,q1,fun k hk=> ?_,fun p z hz=> ?_,fun p q z y h a b=>by simpa using g2 p q z y h a b,hev,hst,hn⟩
   · have:=List.all_eq_true.1 q2 k (List.mem_range.2 hk)
     simpa using this
   · have:=g1 p z hz
     simpa [List.map_take]using this
 · cases h2
theorem DH.zx (d:DH L nt ops call ord zs fl e0 h0 E hN gs) {p:Nat} {z:Z} (hz:zs[p]?=some z):(zs.map (·.x))[p]?=some z.x:=by simp [hz]
theorem DH.inj (d:DH L nt ops call ord zs fl e0 h0 E hN gs) {p q:Nat} {z y:Z} (hz:zs[p]?=some z) (hy:zs[q]?=some y) (h:z.i=y.i):p=q:=by
 rcases Nat.lt_trichotomy p q with hlt|rfl|hlt
 · have:=d.pair p q z y hlt hz hy
   simp [bL,h]at this
 · rfl
 · have:=d.pair q p y z hlt hy hz
   simp [bL,h]at this
theorem DH.nY (d:DH L nt ops call ord zs fl e0 h0 E hN gs) {p q:Nat} {z y:Z} (hz:zs[p]?=some z) (hy:zs[q]?=some y) {t:Nat} (h1:z.x.dst=some t) (h2:y.x.dst=some t):p=q:=by
 rcases Nat.lt_trichotomy p q with hlt|rfl|hlt
 · have:=d.pair p q z y hlt hz hy
   simp [bL,h1,h2]at this
 · rfl
 · have:=d.pair q p y z hlt hy hz
   simp [bL,h1,h2]at this
theorem DH.uM (d:DH L nt ops call ord zs fl e0 h0 E hN gs) {i:Nat} (hi:i<ops.size):∃(p:Nat) (z:Z),zs[p]?=some z∧z.i=i:=by
 have:=d.all i hi
 rw[←(dW d.mz).1]at this
 obtain⟨z,hz,rfl⟩:=List.mem_map.1 this
 obtain⟨p,hp⟩:=vA.1 hz
 exact⟨p,z,hp,rfl⟩
theorem DH.take (d:DH L nt ops call ord zs fl e0 h0 E hN gs) {p t:Nat} (h:t∈jm ((zs.map (·.x)).take p)):∃(q:Nat) (y:Z),q<p∧zs[q]?=some y∧y.x.dst=some t:=by
 unfold jm at h
 obtain⟨x,hx,hd⟩:=List.mem_filterMap.1 h
 obtain⟨q,hq⟩:=vA.1 hx
 rw[vH]at hq
 split at hq
 · rename_i hlt
   rw[vx]at hq
   obtain⟨y,hy,rfl⟩:=u7.1 hq
   exact⟨q,y,hlt,hy,hd⟩
 · cases hq
theorem DH.drop (d:DH L nt ops call ord zs fl e0 h0 E hN gs) {p t:Nat} (h:t∈jm ((zs.map (·.x)).drop p)):∃(q:Nat) (y:Z),p≤q∧zs[q]?=some y∧y.x.dst=some t:=by
 unfold jm at h
 obtain⟨x,hx,hd⟩:=List.mem_filterMap.1 h
 obtain⟨q,hq⟩:=vA.1 hx
 rw[vz,vx]at hq
 obtain⟨y,hy,rfl⟩:=u7.1 hq
 exact⟨p+q,y,by omega,hy,hd⟩
theorem cZ {d:Option Nat} {v:AV} {e:Env} {t:Nat} (h:d≠some t):look (aM d v e) t=look e t:=by
 cases d with
 |none=>rfl
 |some s=>simp only[aM,look];rw[if_neg (fun q=>h (by rw[q]))]
theorem cY {v:AV} {e:Env} {t:Nat}:look (aM (some t) v e) t=v:=by simp [aM,look]
theorem DH.eY (d:DH L nt ops call ord zs fl e0 h0 E hN gs) {p q:Nat} (hpq:p≤q) {e1 e2:Env} {h1 h2:H} (a:aw call ((zs.map (·.x)).take p) e0 h0=some (e1,h1)) (b:aw call ((zs.map (·.x)).take q) e0 h0=some (e2,h2)):h1.next≤h2.next:=by
 have:(zs.map (·.x)).take q=(zs.map (·.x)).take p++((zs.map (·.x)).take q).drop p:=by
  have:=(List.take_append_drop p ((zs.map (·.x)).take q)).symm
  rwa [List.take_take,Nat.min_eq_left hpq]at this
 rw[this,cI,a]at b
 exact cJ d.nm b
theorem DH.dY (d:DH L nt ops call ord zs fl e0 h0 E hN gs) {p:Nat} {z:Z} (hz:zs[p]?=some z) {e1:Env} {h1 h2:H} {v:AV} (a:aw call ((zs.map (·.x)).take p) e0 h0=some (e1,h1)) (b:aj call z.x e1 h1=some (v,h2)):aw call ((zs.map (·.x)).take (p+1)) e0 h0=some (aM z.x.dst v e1,h2):=by
 rw[List.take_add_one,d.zx hz,cI,a]
 simp [aw,b]
structure Inv (L:Lk) (w0:World) (ops:Array Oper) (call:ah) (zs:List Z) (e0:Env) (h0:H) (E:Env) (gs:List H) (ι0:Io) (M0:Mm) (a0:Act) (listed:Array Bool) (a:Act) (w:World) (ι:Io) (M:Mm) (G:H) (j:Nat):Prop where
 sz:listed.size=ops.size
 cl:Cl ops (fun i=>listed.getD i false=true)
 hG:gs[j]?=some G
 ld:∀(p:Nat) (z:Z),zs[p]?=some z→z.x.op.aO=true→(listed.getD z.i false=true↔nl ((zs.map (·.x)).take p)<j)
 le:j≤nl (zs.map (·.x))
 gr:Gr h0 ι0 M0 G ι M
 r:R L w0 ι M G w
 env:a7 L ι M (cut zs (fun i=>listed.getD i false) e0 E) a.tmps
 ui:a.tmps.size=a0.tmps.size
 uG:a.defers=a0.defers
 bi:∀(q:Nat) (y:Z) (eq:Env) (hq:H) (v:AV) (h':H) (id:Nat),zs[q]?=some y→y.x.op.aI=true→listed.getD y.i false=false→aw call ((zs.map (·.x)).take q) e0 h0=some (eq,hq)→aj call y.x eq hq=some (v,h')→v.id?=some id→ι id=none
theorem gp {listed:Array Bool} {i k:Nat} (hi:i<listed.size):(listed.setIfInBounds i true).getD k false=true↔k=i∨listed.getD k false=true:=by
 by_cases h:k=i
 · subst h;simp [hi]
 · rw[getD_set_ne false (fun q=>h q.symm)];simp [h]
theorem Inv.next (d : DH L nt ops call ord zs fl e0 h0 E hN gs) {ι0 : Io} {M0 : Mm} {a0 : Act} {listed : Array Bool} {a : Act} {w : World} {ι : Io} {M : Mm} {G : H} {j : Nat} (inv : Inv L w0 ops call zs e0 h0 E gs ι0 M0 a0 listed a w ι M G j) (hnt : nt ≤ a0.tmps.size)
 {p:Nat} {z:Z} (hz:zs[p]?=some z) (hnd:listed.getD z.i false=false) {o:Oper} (hio:ops[z.i]?=some o) (hc:bw L nt ops o=some z.x) (hed:∀e∈hZ o,listed.getD e false=true)
 {e1:Env} {h2:H} {v:AV} (t3:aw call ((zs.map (·.x)).drop (p+1)) (aM z.x.dst v e1) h2=some (E,hN))
 {ι':Io} {M':Mm} {G':H} {j':Nat} {v':Value} {w':World} (hG:gs[j']?=some G')
 (hld:∀(q:Nat) (y:Z),zs[q]?=some y→y.x.op.aO=true→(y.i=z.i∨listed.getD y.i false=true↔nl ((zs.map (·.x)).take q)<j')) (hle:j'≤nl (zs.map (·.x))) (hle1:nI ι ι') (hle2:nN M M') (hgr:Gr h0 ι0 M0 G' ι' M') (hr:R L w0 ι' M' G' w') (hv:V L ι' M' v v')
 (hbi:∀(q:Nat) (y:Z) (eq:Env) (hq:H) (u:AV) (h':H) (id:Nat),zs[q]?=some y→y.x.op.aI=true→q≠p→listed.getD y.i false=false→aw call ((zs.map (·.x)).take q) e0 h0=some (eq,hq)→aj call y.x eq hq=some (u,h')→u.id?=some id→ι' id=none):
 Inv L w0 ops call zs e0 h0 E gs ι0 M0 a0 (listed.setIfInBounds z.i true) (a.put o.dst v') w' ι' M' G' j':=by
 obtain⟨_,hdst,hlt,_⟩:=bV hc
 have hi:z.i<listed.size:=by rw[inv.sz];exact(vy.1 hio).1
 have hg:∀k,((listed.setIfInBounds z.i true).getD k false=true↔k=z.i∨listed.getD k false=true):=fun k=>gp hi
 refine⟨by simp [inv.sz], ?_,hG, ?_,hle,hgr,hr, ?_,by rw[gK];exact inv.ui,by rw[put_defers];exact inv.uG, ?_⟩
 · intro k o' hk hd e he
   rw[hg]at hd ⊢
   rcases hd with rfl|hd
   · rw[hio]at hk;obtain rfl:=u6 hk
     exact .inr (hed e he)
   · exact .inr (inv.cl k o' hk hd e he)
 · intro q y hy hl
   rw[hg];exact hld q y hy hl
 · have key:∀t,look (cut zs (fun i=>(listed.setIfInBounds z.i true).getD i false) e0 E) t=look (aM z.x.dst v (cut zs (fun i=>listed.getD i false) e0 E)) t:=by
    intro t
    by_cases ht:z.x.dst=some t
    · rw [ht, cY, cut, bg]
      rw[if_neg]
      · rw[bc t3 t (fun q=>by
         obtain⟨s,y,hs,hy,hyd⟩:=d.drop q
         have:=d.nY hz hy ht hyd;omega),ht,cY]
      · intro q
        obtain⟨y,hy,hyu,hyd⟩:=bX.1 q
        obtain⟨s,hs⟩:=vA.1 hy
        obtain rfl:=d.nY hz hs ht hyd
        rw[hz]at hs;obtain rfl:=u6 hs
        rw[(hg z.i).2 (.inl rfl)]at hyu;cases hyu
    · rw [cZ ht, cut, cut, bg, bg]
      have:t∈rP zs (fun i=>(listed.setIfInBounds z.i true).getD i false)↔t∈rP zs (fun i=>listed.getD i false):=by
       rw[bX,bX]
       constructor
       · rintro ⟨y,hy,hyu,hyd⟩
         refine⟨y,hy, ?_,hyd⟩
         cases hb:listed.getD y.i false with
         |false=>rfl
         |true=>rw[(hg y.i).2 (.inr hb)]at hyu;cases hyu
       · rintro ⟨y,hy,hyu,hyd⟩
         refine⟨y,hy, ?_,hyd⟩
         cases hb:(listed.setIfInBounds z.i true).getD y.i false with
         |false=>rfl
         | true =>
           rcases (hg y.i).1 hb with q|q
           · obtain⟨s,hs⟩:=vA.1 hy
             obtain rfl:=d.inj hs hz q
             rw[hz]at hs;obtain rfl:=u6 hs
             exact absurd hyd ht
           · rw[hyu]at q;cases q
      by_cases hu:t∈rP zs (fun i=>listed.getD i false)
      · rw[if_pos hu,if_pos (this.2 hu)]
      · rw[if_neg hu,if_neg (fun q=>hu (this.1 q))]
   intro t
   rw[key t]
   have:=(inv.env.mono hle1 hle2).put (a:=a) (d:=z.x.dst) (v:=v) hv (fun s hs=>by
    rw[inv.ui];exact Nat.lt_of_lt_of_le (hlt s (by rw[←hdst];exact hs)) hnt)
   rw[hdst]at this ⊢
   exact this t
 · intro q y eq hq u h' id hy hb hu hp hev hid
   have hne:q≠p:=fun e=>by
    subst e
    rw[hz]at hy;obtain rfl:=u6 hy
    rw[(hg z.i).2 (.inl rfl)]at hu;cases hu
   refine hbi q y eq hq u h' id hy hb hne ?_ hp hev hid
   cases hb:listed.getD y.i false with
   |false=>rfl
   |true=>rw[(hg y.i).2 (.inr hb)]at hu;cases hu
end
end Ab
namespace Ab
open Go RowKit
section
variable {L:Lk} {w0:World}
variable {nt:Nat} {ops:Array Oper} {call:ah} {ord:List Nat} {zs:List Z} {fl:List (Nat×List Nat)} {e0:Env} {h0:H} {E:Env} {hN:H} {gs:List H}
theorem DH.p7 (d:DH L nt ops call ord zs fl e0 h0 E hN gs) {done:Nat→Prop} (hcl:Cl ops done) {p:Nat} {z:Z} (hz:zs[p]?=some z) (hd:done z.i) {k:Nat} (hk:z.m.testBit k=true):done k:=
 gE hcl d.mz (fun z hz=>by simp at hz) z (vq hz) hd k hk
theorem lH {f:List Nat} {z y:Z} (h:bL f z y=true) (h1:z.x.op.aO=true) (h2:y.x.op.aO=true):y.m.testBit z.i=true:=by
 simp only[bL,vn,h1,h2,Bool.not_true,Bool.false_or,Bool.true_and]at h
 exact h.2.2.2
theorem nu {f:List Nat} {z y:Z} (h:bL f z y=true) {t:Nat} (h1:z.x.dst=some t) (h2:t∈y.x.tm):y.m.testBit z.i=true:=by
 simp only[bL,vn,h1,vB,Bool.not_eq_true']at h
 rcases h.2.1.2 with q|q
 · rw[List.contains_iff_mem.2 h2]at q;cases q
 · exact q
theorem nr {f:List Nat} {z y:Z} (h:bL f z y=true) {t:Nat} (h1:y.x.dst=some t) (h2:t∈z.x.tm):y.m.testBit z.i=true∧f=[]:=by
 simp only[bL,vn,h1,vB,Bool.not_eq_true']at h
 rcases h.2.2.1 with q|q
 · rw[List.contains_iff_mem.2 h2]at q;cases q
 · exact⟨q.1,by simpa using q.2⟩
theorem ng {l:List Z} {f:List Nat} {own n:Nat} {z:Z} (h:dX l f own n z=true) {t:Nat} (h1:z.x.dst=some t) (h2:t∈z.x.tm):f=[]:=by
 simp only[dX,vn,h1,vB,Bool.not_eq_true']at h
 rcases h.1 with q|q
 · rw[List.contains_iff_mem.2 h2]at q;cases q
 · simpa using q
theorem oG {l:List Z} {f:List Nat} {own n:Nat} {z:Z} (h:dX l f own n z=true) (hf:f≠[]):∃t,z.x.dst=some t:=by
 simp only[dX,vn]at h
 cases hd:z.x.dst with
 |some t=>exact⟨t,rfl⟩
 |none=>rw[hd]at h;simp at h;exact absurd h.1.2 hf
theorem lF {l:List Z} {f:List Nat} {own n:Nat} {z:Z} (h:dX l f own n z=true) (hb:z.x.op.aI=true∨z.x.op.reads=true) {j:Nat} (hj:j≤n) (hs:dy z j 0 l=true):j=own∨j∈f:=by
 simp only[dX,vn,vB,Bool.not_eq_true',List.all_eq_true,List.mem_range]at h
 have h2:=h.2.resolve_left (by rcases hb with q|q<;>simp [q])
 rcases h2 j (by omega)with (q|q)|q
 · exact .inl (by simpa using q)
 · rw[hs]at q;cases q
 · exact .inr (by simpa using q)
theorem DH.uC (d : DH L nt ops call ord zs fl e0 h0 E hN gs) {dn : Nat → Bool} {p : Nat} {z : Z} (hz : zs[p]? = some z) (hnd : dn z.i = false)
 (anc:∀(q:Nat) (y:Z),zs[q]?=some y→z.m.testBit y.i=true→y.i≠z.i→dn y.i=true) (desc:∀(q:Nat) (y:Z),zs[q]?=some y→y.m.testBit z.i=true→dn y.i=false)
 {e1:Env} {h1 h2:H} {v:AV} (t1:aw call ((zs.map (·.x)).take p) e0 h0=some (e1,h1)) (t3:aw call ((zs.map (·.x)).drop (p+1)) (aM z.x.dst v e1) h2=some (E,hN)):
 cq e1 (cut zs dn e0 E) z.x.tm∧(dP fl p≠[]→cq e1 E z.x.tm):=by
 have main:∀t∈z.x.tm,look e1 t=look (cut zs dn e0 E) t∧(dP fl p≠[]→look e1 t=look E t):=by
  intro t ht
  rw[cut,bg]
  by_cases hu:∃(q:Nat) (y:Z),zs[q]?=some y∧y.x.dst=some t
  · obtain⟨q,y,hy,hyd⟩:=hu
    have uniq:∀(s:Nat) (u:Z),zs[s]?=some u→u.x.dst=some t→s=q:=fun s u hs hd=>d.nY hs hy hd hyd
    rcases Nat.lt_trichotomy q p with hlt|rfl|hlt
    · have hm:=nu (d.pair q p y z hlt hy hz) hyd ht
      have hne:y.i≠z.i:=fun e=>by have:=d.inj hy hz e;omega
      have hdy:=anc q y hy hm hne
      have hE:look E t=look e1 t:=by
       rw[bc t3 t (fun m=>by obtain⟨s,u,a,b,c⟩:=d.drop m;have:=uniq s u b c;omega)]
       exact cZ fun e=>by have:=uniq p z hz e;omega
      rw[if_neg]
      · exact⟨hE.symm,fun _=>hE.symm⟩
      · intro m
        obtain⟨u,hu1,hu2,hu3⟩:=bX.1 m
        obtain⟨s,hs⟩:=vA.1 hu1
        have:=uniq s u hs hu3;subst this
        rw[hy]at hs;obtain rfl:=u6 hs
        rw[hdy]at hu2;cases hu2
    · rw[hz]at hy;obtain rfl:=u6 hy
      have hf:=ng (d.one q z hz) hyd ht
      rw[if_pos (bX.2 ⟨z,vq hz,hnd,hyd⟩)]
      exact⟨bc t1 t fun m=>by obtain⟨s,u,a,b,c⟩:=d.take m;have:=uniq s u b c;omega,fun q=>absurd hf q⟩
    · obtain⟨hm,hf⟩:=nr (d.pair p q z y hlt hz hy) hyd ht
      have hdy:=desc q y hy hm
      rw[if_pos (bX.2 ⟨y,vq hy,hdy,hyd⟩)]
      exact⟨bc t1 t fun m=>by obtain⟨s,u,a,b,c⟩:=d.take m;have:=uniq s u b c;omega,fun q=>absurd hf q⟩
  · have hE:look E t=look e1 t:=by
     rw[bc t3 t (fun m=>by obtain⟨s,u,a,b,c⟩:=d.drop m;exact hu ⟨s,u,b,c⟩)]
     exact cZ fun e=>hu ⟨p,z,hz,e⟩
    rw[if_neg]
    · exact⟨hE.symm,fun _=>hE.symm⟩
    · intro m
      obtain⟨u,hu1,hu2,hu3⟩:=bX.1 m
      obtain⟨s,hs⟩:=vA.1 hu1
      exact hu ⟨s,u,hs,hu3⟩
 exact⟨fun t ht=>(main t ht).1,fun hf t ht=>(main t ht).2 hf⟩
set_option maxHeartbeats 1000000 in
theorem Inv.step (hcal : Callee L w0 call) (hbod : cO L) (d : DH L nt ops call ord zs fl e0 h0 E hN gs) {ι0 : Io} {M0 : Mm} {a0 : Act} {listed : Array Bool} {a : Act} {w : World} {ι : Io} {M : Mm} {G : H} {j : Nat}
 (inv:Inv L w0 ops call zs e0 h0 E gs ι0 M0 a0 listed a w ι M G j) (hnt:nt≤a0.tmps.size) {i:Nat} (hi:i∈Region.ready .any ops listed) {Q:Exit→Act→World→Prop} {K:Act→World→Prop}
 (hK:∀a' w' ι' M' G' j',Inv L w0 ops call zs e0 h0 E gs ι0 M0 a0 (listed.setIfInBounds i true) a' w' ι' M' G' j'→K a' w'):wpOp L.P ops Q i K a w:=by
 obtain⟨hun,o,hio,hed'⟩:=mem_ready.1 hi
 have hin:i<ops.size:=(vy.1 hio).1
 have hnd:listed.getD i false=false:=by
  rw[vo]at hun ⊢
  rw[Array.getElem?_eq_getElem (by rw[inv.sz];exact hin)]at hun ⊢
  exact hun
 have hed:∀e∈hZ o,listed.getD e false=true:=by
  intro e he
  unfold hZ at he
  obtain⟨x,hx,rfl⟩:=List.mem_map.1 he
  obtain⟨hx1,hx2⟩:=List.mem_filter.1 hx
  exact hed' x (by simpa using hx1) hx2
 obtain⟨p,z,hz,rfl⟩:=d.uM hin
 obtain⟨o',ho',hc⟩:=(dW d.mz).2 z (vq hz)
 rw[hio]at ho';obtain rfl:=u6 ho'
 obtain⟨e1,h1,v,h2,G1,t1,t2,t3,t4,t5,t6⟩:=ig d.ev (d.zx hz)
 have hcl':Cl ops (fun k=>k=z.i∨listed.getD k false=true):=by
  intro k o2 hk hd e he
  rcases hd with rfl|hd
  · rw[hio]at hk;obtain rfl:=u6 hk;exact .inr (hed e he)
  · exact .inr (inv.cl k o2 hk hd e he)
 have anc:∀(q:Nat) (y:Z),zs[q]?=some y→z.m.testBit y.i=true→y.i≠z.i→listed.getD y.i false=true:=fun q y hy hm hne=>
  (d.p7 hcl' hz (.inl rfl) hm).resolve_left hne
 have desc:∀(q:Nat) (y:Z),zs[q]?=some y→y.m.testBit z.i=true→listed.getD y.i false=false:=fun q y hy hm=>by
  cases hb:listed.getD y.i false with
  |false=>rfl
  |true=>have:listed.getD z.i false=true:=d.p7 inv.cl hy hb hm;rw[hnd]at this;cases this
 obtain⟨ag,agE⟩:=d.uC (dn:=fun k=>listed.getD k false) hz hnd anc desc t1 t3
 have hev:aj call z.x (cut zs (fun i=>listed.getD i false) e0 E) h1=some (v,h2):=by rw[←cH ag];exact t2
 have hlt1:∀(q:Nat) (y:Z),zs[q]?=some y→y.x.op.aO=true→q<p→z.x.op.aO=true→nl ((zs.map (·.x)).take q)<nl ((zs.map (·.x)).take p):=fun q y hy hl hq _=>by
  have:=bY (d.zx hy);rw[if_pos hl]at this
  have:=gH (os:=zs.map (·.x)) (Nat.succ_le_of_lt hq)
  simp only[Nat.succ_eq_add_one]at this;omega
 have hbi0:∀(ι':Io),(∀id l,id<G.next→ι' id=some l→ι id=some l)→(∀id l,ι' id=some l→id<G.next)→
  ∀(q:Nat) (y:Z) (eq:Env) (hq:H) (u:AV) (h':H) (id:Nat),zs[q]?=some y→y.x.op.aI=true→q≠p→listed.getD y.i false=false→aw call ((zs.map (·.x)).take q) e0 h0=some (eq,hq)→aj call y.x eq hq=some (u,h')→u.id?=some id→ι' id=none:=by
  intro ι' hold hdom q y eq hq u h' id hy hb hne hu hp hev' hid
  cases hc:ι' id with
  |none=>rfl
  | some l =>
    have:=hold id l (hdom id l hc) hc
    rw[inv.bi q y eq hq u h' id hy hb hu hp hev' hid]at this;cases this
 have hld0:z.x.op.aO=false→∀(q:Nat) (y:Z),zs[q]?=some y→y.x.op.aO=true→(y.i=z.i∨listed.getD y.i false=true↔nl ((zs.map (·.x)).take q)<j):=by
  intro hzl q y hy hl
  rw[←inv.ld q y hy hl]
  constructor
  · rintro (e|e)
    · have:=d.inj hy hz e;subst this
      rw[hz]at hy;obtain rfl:=u6 hy
      rw[hzl]at hl;cases hl
    · exact e
  · exact .inr
 have quiet:z.x.op.aO=false→aj call z.x (cut zs (fun i=>listed.getD i false) e0 E) G=some (v,G)→wpOp L.P ops Q z.i K a w:=by
  intro hzl hq
  refine eX hcal hbod hio hc inv.env inv.r hq fun v' w' hout=> ?_
  obtain⟨ι',M',a1,a2,a3,r',hv'⟩:=hout
  exact hK _ _ _ _ _ _ (inv.next d hnt hz hnd hio hc hed t3 inv.hG (hld0 hzl) inv.le a1 a2 (inv.gr.trans ⟨vm _,a1,a2,a3⟩) r' hv' (hbi0 ι' a3 r'.jY))
 by_cases hzl:z.x.op.aO=true
 ·
  have hjp:nl ((zs.map (·.x)).take p)=j:=by
   have g1:j≤nl ((zs.map (·.x)).take p):=by
    have:=inv.ld p z hz hzl
    rcases Nat.lt_or_ge (nl ((zs.map (·.x)).take p)) j with q|q
    · rw[this.2 q]at hnd;cases hnd
    · exact q
   rcases Nat.lt_or_ge j (nl ((zs.map (·.x)).take p))with q|q
   · obtain⟨s,x,hs,hx,hxl,hxn⟩:=iE _ _ _ q
     rw[vx]at hx
     obtain⟨y,hy,rfl⟩:=u7.1 hx
     have hm:=lH (d.pair s p y z hs hy hz) hxl hzl
     have hne:y.i≠z.i:=fun e=>by have:=d.inj hy hz e;omega
     have:=(inv.ld s y hy hxl).1 (anc s y hy hm hne)
     omega
   · omega
  have hGe:G=h1:=by have:=t6 hzl;rw[hjp,inv.hG]at this;exact u6 this
  subst hGe
  rw[if_pos hzl,hjp]at t4
  refine eX hcal hbod hio hc inv.env inv.r hev fun v' w' hout=> ?_
  obtain⟨ι',M',a1,a2,a3,r',hv'⟩:=hout
  have hgr:Gr G ι M h2 ι' M':=⟨cr d.nm t2,a1,a2,a3⟩
  refine hK _ _ _ _ _ _ (inv.next d hnt hz hnd hio hc hed t3 t4 ?_ ?_ a1 a2 (inv.gr.trans (hgr.gw t5)) (r'.gw t5) hv' ?_)
  · intro q y hy hl
    rcases Nat.lt_trichotomy q p with hlt|rfl|hlt
    · have h3:=hlt1 q y hy hl hlt hzl
      have h4:=(inv.ld q y hy hl).2 (by omega)
      exact⟨fun _=>by omega,fun _=>.inr h4⟩
    · rw[hz]at hy;obtain rfl:=u6 hy
      exact⟨fun _=>by omega,fun _=>.inl rfl⟩
    · have h3:=bY (d.zx hz);rw[if_pos hzl]at h3
      have h4:=gH (os:=zs.map (·.x)) (Nat.succ_le_of_lt hlt)
      simp only[Nat.succ_eq_add_one]at h4
      constructor
      · rintro (e|e)
        · have:=d.inj hy hz e;omega
        · have:=(inv.ld q y hy hl).1 e;omega
      · intro h5;omega
  · have h3:=bY (d.zx hz);rw[if_pos hzl]at h3
    have:=jA (zs.map (·.x)) (p+1);omega
  · intro q y eq hq u h' id hy hb hne hu hp hev' hid
    cases hcc:ι' id with
    |none=>rfl
    | some l =>
      rcases bW hb hev' with ⟨rfl,_,_⟩|⟨b,_,_,rfl,hid',_⟩
      · cases hid
      · rw[hid]at hid';obtain rfl:=u6 hid'
        rcases Nat.lt_or_gt_of_ne hne with hlt|hlt
        · have h3:=d.eY (Nat.succ_le_of_lt hlt) (d.dY hy hp hev') t1
          simp only[bp]at h3
          have:=a3 _ l (by omega) hcc
          rw[inv.bi q y eq hq u _ _ hy hb hu hp hev' hid]at this;cases this
        · have h3:=d.eY (Nat.succ_le_of_lt hlt) (d.dY hz t1 t2) hp
          have:=r'.jY _ l hcc
          omega
 · have hzl' : z.x.op.aO = false := by simpa using hzl
   rw[if_neg hzl,Nat.add_zero]at t4
   have stage:z.x.op.aI=true∨z.x.op.reads=true→j=nl ((zs.map (·.x)).take p)∨j∈dP fl p:=by
    intro hbr
    refine lF (d.one p z hz) hbr inv.le (dI fun q y hy hl=> ?_)
    have hne:y.i≠z.i:=fun e=>by
     have:=d.inj hy hz e;subst this
     rw[hz]at hy;obtain rfl:=u6 hy
     rw[hzl']at hl;cases hl
    rw[vr,List.map_take]
    refine⟨fun hm=>(inv.ld q y hy hl).1 (anc q y hy hm hne),fun hm=> ?_⟩
    rcases Nat.lt_or_ge (nl ((zs.map (·.x)).take q)) j with h3|h3
    · have:=(inv.ld q y hy hl).2 h3;rw[desc q y hy hm]at this;cases this
    · exact h3
   have stable:j∈dP fl p→∃t,z.x.dst=some t∧look E t=v∧bF call (zs.map (·.x)) E gs p j=true:=by
    intro hj
    obtain⟨t,ht⟩:=oG (d.one p z hz) (fun q=>by rw[q]at hj;simp at hj)
    refine⟨t,ht, ?_,fB d.st p j hj⟩
    rw[bc t3 t (fun m=>by obtain⟨s,u,a,b,c⟩:=d.drop m;have:=d.nY hz b ht c;omega),ht,cY]
   cases hzb:z.x.op.aI with
   | false =>
     refine quiet hzl' ?_
     cases hzr:z.x.op.reads with
     |false=>exact j0 hzl' hzb hzr hev G
     | true =>
       rcases stage (.inr hzr)with hj|hj
       · rw[←hj,inv.hG]at t4;obtain rfl:=u6 t4
         obtain rfl:=dM hzl' hzb t2
         exact j2 hzl' hzb hev t5
       · obtain⟨t,ht,hE,hst⟩:=stable hj
         have hagE:=agE (fun q=>by rw[q]at hj;simp at hj)
         simp only[bF,d.zx hz,inv.hG,hzb,vj,vJ,ht,Option.map_some,hE]at hst
         split at hst
         · rename_i u g' hu
           have:=beq_eq hst;subst this
           obtain rfl:=dM hzl' hzb hu
           rw[←cH ag,cH hagE];exact hu
         · cases hst
   | true =>
     rcases bW hzb hev with ⟨rfl,rfl,hskip⟩|⟨b,hb1,rfl,rfl,hid,_⟩
     · exact quiet hzl' (hskip G)
     · have hget:G.get h1.next=some b.1:=by
        rcases stage (.inl hzb)with hj|hj
        · rw[←hj,inv.hG]at t4;obtain rfl:=u6 t4
          exact t5.some (by simp [H.aW])
        · obtain⟨t,ht,hE,hst⟩:=stable hj
          have hagE:=agE (fun q=>by rw[q]at hj;simp at hj)
          have hbE:aY E z.x.op=some b:=by
           rw[←hb1,←cR (e:=e1) fun t ht=>hagE t (List.mem_append_right _ ht),cR fun t ht=>ag t (List.mem_append_right _ ht)]
          simp only[bF,d.zx hz,inv.hG,hzb,if_true,ht,Option.map_some,hE,hbE,hid]at hst
          split at hst
          · rename_i q;have:=u6 q;rw[this]at hid;cases hid
          · rename_i q;obtain rfl:=u6 q
            simp only[hid]at hst
            split at hst
            · rename_i cs hcs;rw[hcs,nT hst]
            · cases hst
          · cases hst
       have hnone:ι h1.next=none:=inv.bi p z e1 h1 _ _ _ hz hzb hnd t1 t2 hid
       refine j7 hio hc inv.env hev (fun hop _=> ?_) (fun q _=>by rw[q]at hid;cases hid)
       obtain⟨v',w',g1,hm⟩:=fm inv.env hop (cs:=b.1) (mk:=b.2) hb1
       refine aa g1 ?_
       obtain⟨dr,arr,ty,fz,rfl,hfz,hlen,hval,hv⟩:=hm.ex
       have rn:=(inv.r.drew dr).qT (id:=h1.next) hnone (cs:=b.1) (arr:=arr) (t:=ty) (fz:=fz) (h':=G) hfz (vm _) (G.lt _ _ hget)
        (fun i c q=>by
          by_cases e:i=h1.next
          · subst e;rw[hget]at q;exact .inl ⟨rfl,(u6 q).symm⟩
          · exact .inr ⟨e,q⟩) hlen hval
       refine hK _ _ _ _ _ _ (inv.next d hnt hz hnd hio hc hed t3 inv.hG (hld0 hzl') inv.le (Io.eM _ hnone) (fun _ _ _ q=>q) ⟨inv.gr.nx,fun _ _ q=>Io.eM _ hnone _ _ (inv.gr.io _ _ q),inv.gr.mm, ?_⟩ rn (hv _ _ (by simp [Io.put])) ?_)
       · intro id l hid' q
         refine inv.gr.iF id l hid' ?_
         have:=d.eY (Nat.zero_le p) (e1:=e0) (h1:=h0) rfl t1
         simp only[Io.put]at q
         rwa [if_neg (by omega)]at q
       · intro q y eq hq u h' id hy hb hne hu hp hev' hid2
         have h3:=inv.bi q y eq hq u h' id hy hb hu hp hev' hid2
         simp only[Io.put]
         rw[if_neg]
         · exact h3
         · rintro rfl
           rcases bW hb hev' with ⟨rfl,_,_⟩|⟨b',_,_,rfl,hid',_⟩
           · cases hid2
           · rw[hid2]at hid'
             have hid':=u6 hid'
             rcases Nat.lt_or_gt_of_ne hne with hlt|hlt
             · have h4:=d.eY (Nat.succ_le_of_lt hlt) (d.dY hy hp hev') t1
               simp only[bp]at h4;omega
             · have h4:=d.eY (Nat.succ_le_of_lt hlt) (d.dY hz t1 t2) hp
               simp only[bp]at h4;omega
end
end Ab
namespace Ab
open Go RowKit
theorem hY {α:Type} {p q:α→Bool}:∀{l:List α},(∀x∈l,q x=true→p x=true)→∀{x:α},x∈l→p x=true→q x=false→l.countP q<l.countP p
 |[],_,x,hx,_,_=>by simp at hx
 | y :: l, h, x, hx, hp, hq => by
   have hle:l.countP q≤l.countP p:=List.countP_mono_left fun z hz=>h z (by simp [hz])
   rw[List.countP_cons,List.countP_cons]
   rcases vF.1 hx with rfl|hx
   · rw[hp,hq];simp;omega
   · have:=hY (fun z hz=>h z (by simp [hz])) hx hp hq
     have h2:=h y (by simp)
     cases hqy:q y with
     |false=>simp;omega
     |true=>rw[h2 hqy];simp;omega
section
variable {L:Lk} {w0:World}
variable {nt:Nat} {ops:Array Oper} {call:ah} {ord:List Nat} {zs:List Z} {fl:List (Nat×List Nat)} {e0:Env} {h0:H} {E:Env} {hN:H} {gs:List H}
theorem Inv.fin (d:DH L nt ops call ord zs fl e0 h0 E hN gs) {ι0:Io} {M0:Mm} {a0:Act} {listed:Array Bool} {a:Act} {w:World} {ι:Io} {M:Mm} {G:H} {j:Nat}
 (inv:Inv L w0 ops call zs e0 h0 E gs ι0 M0 a0 listed a w ι M G j) (hall:∀z∈zs,listed.getD z.i false=true):G=hN∧a7 L ι M E a.tmps:=by
 have hj:j=nl (zs.map (·.x)):=by
  rcases Nat.lt_or_ge j (nl (zs.map (·.x)))with h|h
  · obtain⟨q,x,_,hx,hl,hn⟩:=iE (zs.map (·.x)) (zs.map (·.x)).length j (by rw[List.take_length];exact h)
    rw[vx]at hx
    obtain⟨y,hy,rfl⟩:=u7.1 hx
    have:=(inv.ld q y hy hl).1 (hall y (vq hy))
    omega
  · have:=inv.le;omega
 have hG:=inv.hG
 rw[hj,fq d.ev]at hG
 refine⟨(u6 hG).symm,fun t=> ?_⟩
 have:=inv.env t
 rw[cut,bg,if_neg]at this
 · exact this
 · intro m
   obtain⟨z,hz,hu,_⟩:=bX.1 m
   simp only[hall z hz]at hu;cases hu
theorem Inv.any (hcal : Callee L w0 call) (hbod : cO L) (d : DH L nt ops call ord zs fl e0 h0 E hN gs) {ι0 : Io} {M0 : Mm} {a0 : Act} (hnt : nt ≤ a0.tmps.size) {Q : Exit → Act → World → Prop}
 (hQ:∀ι' M' a' w',Gr h0 ι0 M0 hN ι' M'→R L w0 ι' M' hN w'→a7 L ι' M' E a'.tmps→a'.tmps.size=a0.tmps.size→a'.defers=a0.defers→Q .normal a' w'):
 ∀(fuel:Nat) {listed:Array Bool} {a:Act} {w:World} {ι:Io} {M:Mm} {G:H} {j:Nat},Inv L w0 ops call zs e0 h0 E gs ι0 M0 a0 listed a w ι M G j→(zs.countP fun z=> !listed.getD z.i false)≤fuel→wpAny L.P .any ops Q fuel listed a w:=by
 intro fuel
 have fin:∀{listed:Array Bool} {a:Act} {w:World} {ι:Io} {M:Mm} {G:H} {j:Nat},Inv L w0 ops call zs e0 h0 E gs ι0 M0 a0 listed a w ι M G j→(∀z∈zs,listed.getD z.i false=true)→Q .normal a w:=by
  intro listed a w ι M G j inv hall
  obtain⟨rfl,he⟩:=inv.fin d hall
  exact hQ _ _ _ _ inv.gr inv.r he inv.ui inv.uG
 have mem:∀{listed:Array Bool},∀i∈Region.ready .any ops listed,∃z∈zs,z.i=i∧listed.getD z.i true=false:=by
  intro listed i hi
  obtain⟨hu,o,ho,_⟩:=mem_ready.1 hi
  obtain⟨p,z,hz,rfl⟩:=d.uM (vy.1 ho).1
  exact⟨z,vq hz,rfl,hu⟩
 have tf:∀{listed:Array Bool} {i:Nat},listed.getD i true=false→listed.getD i false=false:=by
  intro listed i h
  rw[vo]at h ⊢
  cases hg:listed[i]? with
  |none=>rfl
  |some b=>rw[hg]at h;exact h
 induction fuel with
 | zero =>
   intro listed a w ι M G j inv hc
   have hall:∀z∈zs,listed.getD z.i false=true:=by
    intro z hz
    have:=List.countP_eq_zero.1 (Nat.le_zero.1 hc) z hz
    simpa using this
   refine⟨?_,fin inv hall⟩
   cases hr:Region.ready .any ops listed with
   |nil=>rfl
   | cons i l =>
     obtain⟨z,hz,rfl,hu⟩:=mem i (by rw[hr];simp)
     have:=tf hu;rw[hall z hz]at this;cases this
 | succ fuel ih =>
   intro listed a w ι M G j inv hc
   refine⟨fun hr=> ?_,fun i hi=> ?_⟩
   · by_cases hall:∀z∈zs,listed.getD z.i false=true
     · exact fin inv hall
     · have:∃z∈zs,¬listed.getD z.i false=true:=by
        by_cases hx:∃z∈zs,¬listed.getD z.i false=true
        · exact hx
        · exact absurd (fun z hz=>by
           cases hb:listed.getD z.i false with
           |true=>rfl
           |false=>exact absurd ⟨z,hz,by simp [hb]⟩ hx) hall
       obtain⟨z,hz,hnd,o,ho,hed⟩:=iC (done:=fun i=>listed.getD i false=true) d.mz (fun z hz=>by simp at hz) this
       have:z.i∈Region.ready .any ops listed:=by
        refine mem_ready.2 ⟨?_,o,ho,fun e he hb=>hed e.on (List.mem_map.2 ⟨e,List.mem_filter.2 ⟨by simpa using he,hb⟩,rfl⟩)⟩
        have hlt:z.i<listed.size:=by rw[inv.sz];exact(vy.1 ho).1
        simp only[Bool.not_eq_true]at hnd
        rw[vo,Array.getElem?_eq_getElem hlt]at hnd ⊢
        exact hnd
       rw[hr]at this;cases this
   · refine inv.step hcal hbod d hnt hi fun a' w' ι' M' G' j' inv'=>ih inv' ?_
     obtain⟨z,hz,rfl,hu⟩:=mem i hi
     have hlt:z.i<listed.size:=by
      obtain⟨_,o,ho,_⟩:=mem_ready.1 hi
      rw[inv.sz];exact(vy.1 ho).1
     have:=hY (l:=zs) (p:=fun z=> !listed.getD z.i false) (q:=fun y=> !(listed.setIfInBounds z.i true).getD y.i false) (fun y hy hq=>by
      cases hb:listed.getD y.i false with
      |false=>rfl
      |true=>rw[(gp hlt).2 (.inr hb)]at hq;cases hq) hz (by simp only[tf hu];rfl) (by simp only[(gp hlt).2 (.inl rfl)];rfl)
     omega
theorem jZ (hm : L.P.follows .mixedOrders = true) (hcal : Callee L w0 call) (hbod : cO L) (hn : aQ call) {os : List ak} (hc : kG L nt ops ord fl = some os) {ι : Io} {M : Mm} {w : World} {a : Act} {id : Nat}
 (he:a7 L ι M e0 a.tmps) (hnt:nt≤a.tmps.size) (r:R L w0 ι M h0 w) (hev:aN call os e0 h0=some (E,hN,gs)) (hst:aZ call os E gs fl=true) {Q:Exit→Act→World→Prop}
 (hQ:∀ι' M' a' w',Gr h0 ι M hN ι' M'→R L w0 ι' M' hN w'→a7 L ι' M' E a'.tmps→a'.tmps.size=a.tmps.size→a'.defers=a.defers→Q .normal a' w'):(Code.region id ops true).wp L.P Q a w:=by
 obtain⟨zs,rfl,d⟩:=DH.of hc hev hst hn
 refine wp_region_any hm ?_
 obtain⟨G,hG,hg⟩:=cW hev
 have hf:∀i,(Array.replicate ops.size false).getD i false=false:=fun i=>by
  rw[vo]
  cases h:(Array.replicate ops.size false)[i]? with
  |none=>rfl
  |some b=>obtain⟨hlt,hb⟩:=vy.1 h;simp at hb;simp [←hb]
 have inv:Inv L w0 ops call zs e0 h0 E gs ι M a (Array.replicate ops.size false) a {w with drawn:=w.drawn+1} ι M G 0:=by
  refine⟨by simp,fun i o _ h=>(by have h2:(Array.replicate ops.size false).getD i false=true:=h;rw[hf]at h2;cases h2),hG,fun p z _ _=>⟨fun h=>(by rw[hf]at h;cases h),fun h=>(by omega)⟩,Nat.zero_le _,⟨hg.nx,fun _ _ q=>q,fun _ _ _ q=>q,fun _ _ _ q=>q⟩,(r.drew _).gw hg,fun t=> ?_,rfl,rfl, ?_⟩
  · have hlk:look (cut zs (fun i=>(Array.replicate ops.size false).getD i false) e0 E) t=look e0 t:=by
     rw[cut,bg]
     by_cases hu:t∈rP zs fun i=>(Array.replicate ops.size false).getD i false
     · rw[if_pos hu]
     · rw[if_neg hu]
       refine bc (cg d.ev) t fun m=>hu ?_
       have:t∈jm ((zs.map (·.x)).drop 0):=m
       obtain⟨q,y,_,hy,hd⟩:=d.drop this
       exact bX.2 ⟨y,vq hy,hf _,hd⟩
    rw[hlk];exact he t
  · intro q y eq hq v h' id hy hb _ hp hev' hid
    cases hι:ι id with
    |none=>rfl
    | some l =>
      rcases bW hb hev' with ⟨rfl,_,_⟩|⟨b,_,_,rfl,hid',_⟩
      · cases hid
      · rw[hid]at hid';obtain rfl:=u6 hid'
        have h1:=r.jY _ l hι
        have h2:=d.eY (Nat.zero_le q) (e1:=e0) (h1:=h0) rfl hp
        omega
 refine inv.any hcal hbod d hnt hQ ops.size ?_
 refine vG List.countP_le_length ?_
 rw[←d.len,←(dW d.mz).1];simp
def comp (L:Lk) (nt:Nat):Code→aG→Option aG
 | .skip,.skip=>some .skip
 | .region _ ops false,.pd _ wV=>(dk L nt ops ops.toList).bind fun os=>some (.pd os wV)
 | .region _ ops true,.iP ord _ fl wV=>(kG L nt ops ord fl).bind fun os=>some (.iP ord os fl wV)
 | .seq a b,.seq x y=>(comp L nt a x).bind fun x'=>(comp L nt b y).bind fun y'=>some (.seq x' y')
 | .cond c a b,.cond _ x y wV=>(cX L c).bind fun c'=>(comp L nt a x).bind fun x'=>(comp L nt b y).bind fun y'=>some (.cond c' x' y' wV)
 | .block id c,.block _ x wV=>(comp L nt c x).bind fun x'=>some (.block id x' wV)
 | .loop c,.loop wV x=>(comp L nt c x).bind fun x'=>some (.loop wV x')
 | .exit id,.exit _=>some (.exit id)
 | .ret,.ret=>some .ret
 |_,_=>none
def mZ:Ex→Exit
 | .normal=>.normal
 | .exit id=>.exit id
 | .ret=>.ret
theorem nW (hm : L.P.follows .mixedOrders = true) (hcal : Callee L w0 call) (hbod : cO L) (hn : aQ call) (k : Nat) : ∀ (c : Code) (x0 x : aG), comp L nt c x0 = some x → ∀ {e : Env} {a : Act} {ι : Io} {M : Mm} {h : H} {w : World} {ex : Ex} {e' : Env} {h' : H} {Q : Exit → Act → World → Prop},
 a7 L ι M e a.tmps→nt≤a.tmps.size→R L w0 ι M h w→aL call (aJ k) x e h=some (ex,e',h')→
 (∀ι' M' a' w',Gr h ι M h' ι' M'→R L w0 ι' M' h' w'→a7 L ι' M' e' a'.tmps→a'.tmps.size=a.tmps.size→a'.defers=a.defers→Q (mZ ex) a' w')→c.wp L.P Q a w:=by
 intro c
 induction c with
 | skip =>
   intro x0 x hx e a ι M h w ex e' h' Q he hnt r hev hQ
   cases x0<;>simp only[comp,reduceCtorEq]at hx
   obtain rfl:=u6 hx
   cases hev
   exact wp_skip (hQ _ _ _ _ (.refl _ _ _) r he rfl rfl)
 | region id ops dr =>
   intro x0 x hx e a ι M h w ex e' h' Q he hnt r hev hQ
   cases dr with
   | false =>
     cases x0<;>simp only[comp,reduceCtorEq]at hx
     simp only[u5]at hx
     obtain⟨os,h1,hx⟩:=hx
     obtain rfl:=u6 hx
     simp only[aL,u5]at hev
     obtain⟨⟨e1,h2⟩,hv,hev⟩:=hev
     cases hev
     refine wp_region ?_
     have:=nq hcal hbod hn ops.toList 0 (Q:=Q) (fun j=>by simp) h1 he hnt r hv (fun ι' M' a' w' g r' he' hs hd=>hQ _ _ _ _ g r' (he'.ay _) hs hd)
     rwa [←List.range_eq_range',Array.length_toList]at this
   | true =>
     cases x0<;>simp only[comp,reduceCtorEq]at hx
     simp only[u5]at hx
     obtain⟨os,h1,hx⟩:=hx
     obtain rfl:=u6 hx
     simp only[aL,u5]at hev
     obtain⟨⟨e1,h2,gs⟩,hv,hev⟩:=hev
     split at hev
     · rename_i hst
       cases hev
       exact jZ hm hcal hbod hn h1 he hnt r hv hst (fun ι' M' a' w' g r' he' hs hd=>hQ _ _ _ _ g r' (he'.ay _) hs hd)
     · cases hev
 | seq c1 c2 i1 i2 =>
   intro x0 x hx e a ι M h w ex e' h' Q he hnt r hev hQ
   cases x0<;>simp only[comp,reduceCtorEq]at hx
   simp only[u5]at hx
   obtain⟨y1,g1,y2,g2,hx⟩:=hx
   obtain rfl:=u6 hx
   simp only[aL,u5]at hev
   obtain⟨⟨ex1,e1,h1⟩,hv,hev⟩:=hev
   refine wp_seq (i1 _ _ g1 he hnt r hv fun ι' M' a' w' g r' he' hs hd=> ?_)
   split at hev
   · rename_i q;cases q
     exact i2 _ _ g2 he' (by rw[hs];exact hnt) r' hev fun ι2 M2 a2 w2 gg r2 he2 hs2 hd2=>hQ _ _ _ _ (g.trans gg) r2 he2 (by rw[hs2,hs]) (by rw[hd2,hd])
   · rename_i hne
     cases hev
     have:Q (mZ ex) a' w':=hQ _ _ _ _ g r' he' hs hd
     cases ex with
     |normal=>exact absurd rfl (hne _ _)
     |exit id=>exact this
     |ret=>exact this
 | cond cnd c1 c2 i1 i2 =>
   intro x0 x hx e a ι M h w ex e' h' Q he hnt r hev hQ
   cases x0<;>simp only[comp,reduceCtorEq]at hx
   simp only[u5]at hx
   obtain⟨c',g0,y1,g1,y2,g2,hx⟩:=hx
   obtain rfl:=u6 hx
   simp only[aL]at hev
   split at hev
   · rename_i t ht
     have hc:=ar he g0
     rw[ht]at hc
     refine wp_cond (t:=t) hc.bR ?_
     simp only[u5]at hev
     obtain⟨⟨ex1,e1,h1⟩,hv,hev⟩:=hev
     have hout:ex1=ex∧h1=h'∧∀ι' M' (tm:Array Value),a7 L ι' M' e1 tm→a7 L ι' M' e' tm:=by
      split at hev
      · rename_i q;cases q;cases hev;exact⟨rfl,rfl,fun _ _ _ he=>he.ay _⟩
      · cases hev;exact⟨rfl,rfl,fun _ _ _ he=>he⟩
     obtain⟨rfl,rfl,hr⟩:=hout
     cases t with
     |true=>exact i1 _ _ g1 he hnt r hv fun ι' M' a' w' g r' he' hs hd=>hQ _ _ _ _ g r' (hr _ _ _ he') hs hd
     |false=>exact i2 _ _ g2 he hnt r hv fun ι' M' a' w' g r' he' hs hd=>hQ _ _ _ _ g r' (hr _ _ _ he') hs hd
   · cases hev
 | block id c1 i1 =>
   intro x0 x hx e a ι M h w ex e' h' Q he hnt r hev hQ
   cases x0<;>simp only[comp,reduceCtorEq]at hx
   simp only[u5]at hx
   obtain⟨y1,g1,hx⟩:=hx
   obtain rfl:=u6 hx
   simp only[aL,u5]at hev
   obtain⟨⟨ex1,e1,h1⟩,hv,hev⟩:=hev
   refine wp_block (i1 _ _ g1 he hnt r hv fun ι' M' a' w' g r' he' hs hd=> ?_)
   split at hev
   · rename_i q;cases q;cases hev;exact hQ _ _ _ _ g r' (he'.ay _) hs hd
   · rename_i j _ _ q;cases q
     simp only[mZ,Exit.inBlock]
     split at hev
     · rename_i hj;cases hev;rw[if_pos hj];exact hQ _ _ _ _ g r' (he'.ay _) hs hd
     · rename_i hj;cases hev;rw[if_neg hj];exact hQ _ _ _ _ g r' he' hs hd
   · rename_i q;cases q;cases hev;exact hQ _ _ _ _ g r' he' hs hd
 | loop c1 i1 =>
   intro x0 x hx e a ι M h w ex e' h' Q he hnt r hev hQ
   cases x0<;>simp only[comp,reduceCtorEq]at hx
   rename_i wV y
   simp only[u5]at hx
   obtain⟨y1,g1,hx⟩:=hx
   obtain rfl:=u6 hx
   simp only[aL]at hev
   have key:∀(n:Nat) {e:Env} {a:Act} {ι:Io} {M:Mm} {h:H} {w:World},a7 L ι M e a.tmps→nt≤a.tmps.size→R L w0 ι M h w→aJ n (fun e h=>aL call (aJ k) y1 (ay e wV) h) e h=some (ex,e',h')→
    (∀ι' M' a' w',Gr h ι M h' ι' M'→R L w0 ι' M' h' w'→a7 L ι' M' e' a'.tmps→a'.tmps.size=a.tmps.size→a'.defers=a.defers→Q (mZ ex) a' w')→Code.rounds L.P c1 Q n a w:=by
    intro n
    induction n with
    |zero=>intro e a ι M h w _ _ _ hev;cases hev
    | succ n ih =>
      intro e a ι M h w he hnt r hev hQ
      simp only[aJ,u5]at hev
      obtain⟨⟨ex1,e1,h1⟩,hv,hev⟩:=hev
      refine i1 _ _ g1 (he.ay _) hnt r hv fun ι' M' a' w' g r' he' hs hd=> ?_
      split at hev
      · rename_i q;cases q
        exact ih he' (by rw[hs];exact hnt) r' hev fun ι2 M2 a2 w2 gg r2 he2 hs2 hd2=>hQ _ _ _ _ (g.trans gg) r2 he2 (by rw[hs2,hs]) (by rw[hd2,hd])
      · rename_i hne
        cases hev
        have:Q (mZ ex) a' w':=hQ _ _ _ _ g r' he' hs hd
        cases ex with
        |normal=>exact absurd rfl (hne _ _)
        |exit id=>exact this
        |ret=>exact this
   exact wp_loop_rounds k (key k he hnt r hev hQ)
 | exit id =>
   intro x0 x hx e a ι M h w ex e' h' Q he hnt r hev hQ
   cases x0<;>simp only[comp,reduceCtorEq]at hx
   obtain rfl:=u6 hx
   cases hev
   exact wp_exit (hQ _ _ _ _ (.refl _ _ _) r he rfl rfl)
 | ret =>
   intro x0 x hx e a ι M h w ex e' h' Q he hnt r hev hQ
   cases x0<;>simp only[comp,reduceCtorEq]at hx
   obtain rfl:=u6 hx
   cases hev
   exact wp_ret (hQ _ _ _ _ (.refl _ _ _) r he rfl rfl)
 | _ =>
   intro x0 x hx
   cases x0<;>simp only[comp,reduceCtorEq]at hx
end
end Ab
namespace Ab
open Go RowKit
structure Kp (h h':H):Prop where
 fl:h'.floor=h.floor
 get:∀id,id<h.floor→h'.get id=h.get id
theorem Kp.refl (h:H):Kp h h:=⟨rfl,fun _ _=>rfl⟩
theorem Kp.trans {a b c:H} (h:Kp a b) (k:Kp b c):Kp a c:=⟨k.fl.trans h.fl,fun id hi=>by rw[k.get id (by rw[h.fl];exact hi),h.get id hi]⟩
theorem Kp.alloc {h:H} (hf:h.floor≤h.next) (cs:List AV):Kp h (h.alloc cs):=⟨H.jr h cs,fun id hi=>by rw[H.aW];rw[if_neg (by omega)]⟩
theorem Kp.set {h:H} {id:Nat} (hf:h.floor≤id) (cs:List AV):Kp h (h.set id cs):=⟨H.lh h id cs,fun i hi=>by rw[H.dp];rw[if_neg (by omega)]⟩
theorem Kp.del {h:H} {id:Nat} (hf:h.floor≤id):Kp h (h.del id):=⟨rfl,fun i hi=>by rw[H.dQ];rw[if_neg (by omega)]⟩
def sf (call:ah):Prop:=∀f a h v h',h.floor≤h.next→call f a h=some (v,h')→Kp h h'
theorem lV {h h':H} {sz by_:Nat} {a:AV} {n:Nat} {bs:List AV} {v:AV} (hf:h.floor≤h.next) (hh:dJ h sz by_ a n bs=some (v,h')):Kp h h':=by
 unfold dJ at hh
 repeat' split at hh
 all_goals first
  |(cases hh;done)
  |(obtain⟨_,rfl⟩:=u9 (u6 hh);exact .alloc hf _)
  |(obtain⟨_,rfl⟩:=u9 (u6 hh);exact .refl _)
  |skip
 rename_i hsf
 simp only[u5]at hh
 obtain⟨cs,_,hh⟩:=hh
 repeat' split at hh
 all_goals first
  |(cases hh;done)
  |(obtain⟨_,rfl⟩:=u9 (u6 hh);exact .set hsf.2 _)
  |(obtain⟨_,rfl⟩:=u9 (u6 hh);exact(Kp.del hsf.2).trans (Kp.alloc (show(h.del _).floor≤(h.del _).next from hf) _))
theorem n8 {call : ah} (hc : sf call) {e : Env} {h h' : H} {o : bU} {v : AV} (hf : h.floor ≤ h.next) (hev : ai call e h o = some (v, h')) : Kp h h' := by
 by_cases hb:o.aI=true
 · obtain⟨b,_,_,rfl⟩:=cG hb hev
   exact .alloc hf _
 by_cases hl:o.aO=true
 · cases o <;> simp only [bU.aO, vj] at hl <;> simp only [ai] at hev
   case store n p x=>
    simp only[u5,vb,vg]at hev
    obtain⟨h1,hs,_,rfl⟩:=hev
    unfold cQ at hs
    split at hs
    · simp only[u5]at hs
      obtain⟨cs,_,hs⟩:=hs
      split at hs
      · rename_i q;obtain rfl:=u6 hs;exact .set q.1 _
      · cases hs
    · cases hs
   case call f args=>
    split at hev
    · exact hc _ _ _ _ _ hf hev
    · cases hev
   case inv2=>
    split at hev
    · split at hev
      · simp only[u5]at hev
        obtain⟨_,_,hev⟩:=hev
        exact hc _ _ _ _ _ hf hev
      · cases hev
    · cases hev
   case app=>
    unfold kM at hev
    simp only[u5]at hev
    obtain⟨r,_,hev⟩:=hev
    exact lV hf hev
   case jL=>
    unfold g8 at hev
    repeat' split at hev
    all_goals first
     |(cases hev;done)
     |(obtain⟨_,rfl⟩:=u9 (u6 hev);exact .alloc hf _)
   case copy=>
    unfold g9 at hev
    simp only[u5]at hev
    obtain⟨r,_,hev⟩:=hev
    split at hev
    · obtain⟨_,rfl⟩:=u9 (u6 hev);exact .refl _
    · split at hev
      · rename_i q
        simp only[u5]at hev
        obtain⟨r,_,hev⟩:=hev
        split at hev
        · obtain⟨_,rfl⟩:=u9 (u6 hev);exact .set q.2.1 _
        · cases hev
      · cases hev
    · cases hev
   case clear=>
    simp only[u5,vb,vg]at hev
    obtain⟨h1,hev,_,rfl⟩:=hev
    unfold ey at hev
    repeat' split at hev
    all_goals first
     |(cases hev;done)
     |(obtain rfl:=u6 hev;exact .refl _)
     |skip
    rename_i q
    simp only[u5]at hev
    obtain⟨r,_,hev⟩:=hev
    split at hev
    · obtain rfl:=u6 hev;exact .set q.2.1 _
    · cases hev
 · rw[bJ (by simpa using hl) (by simpa using hb) hev];exact .refl _
theorem k9 {call:ah} (hc:sf call) {e:Env} {h h':H} {o:ak} {v:AV} (hf:h.floor≤h.next) (hev:aj call o e h=some (v,h')):Kp h h':=by
 unfold aj at hev
 repeat' split at hev
 all_goals first
  |exact n8 hc hf hev
  |(obtain⟨_,rfl⟩:=u9 (u6 hev);exact .refl _)
  |(cases hev;done)
theorem Kp.fn {h h':H} (k:Kp h h') (hn:h.next≤h'.next) (hf:h.floor≤h.next):h'.floor≤h'.next:=by rw[k.fl];omega
theorem fW {call:ah} (hn:aQ call) (hc:sf call):∀{os:List ak} {e e':Env} {h h':H},h.floor≤h.next→aw call os e h=some (e',h')→Kp h h'
 |[],_,_,_,_,_,hev=>by obtain⟨_,rfl⟩:=u9 (u6 hev);exact .refl _
 | o :: os, _, _, _, _, hf, hev => by
   simp only[aw,u5]at hev
   obtain⟨r,h1,h2⟩:=hev
   have k:=k9 hc hf h1
   exact k.trans (fW hn hc (k.fn (cr hn h1) hf) h2)
def ue (F:Env→H→dz):Prop:=∀e h x e' h',h.floor≤h.next→F e h=some (x,e',h')→Kp h h'
theorem jv {F:Env→H→dz} (hN:kh F) (hF:ue F):∀n,ue (aJ n F)
 |0,_,_,_,_,_,_,h=>by cases h
 | n + 1, e, h, x, e', h', hf, hev => by
   simp only[aJ,u5]at hev
   obtain⟨⟨y,e1,h1⟩,ha,hb⟩:=hev
   have k:=hF _ _ _ _ _ hf ha
   split at hb
   · rename_i q;cases q
     exact k.trans (jv hN hF n _ _ _ _ _ (k.fn (hN _ _ _ _ _ ha) hf) hb)
   · cases hb;exact k
theorem cT {call : ah} (hn : aQ call) (hc : sf call) (d : Nat) : ∀ (x : aG), ue (aL call (aJ d) x)
 | .skip,_,_,_,_,_,_,hev=>by cases hev;exact .refl _
 | .exit _,_,_,_,_,_,_,hev=>by cases hev;exact .refl _
 | .ret,_,_,_,_,_,_,hev=>by cases hev;exact .refl _
 | .pd ops wV, _, _, _, _, _, hf, hev => by
   simp only[aL,u5]at hev
   obtain⟨r,h1,h2⟩:=hev
   cases h2;exact fW hn hc hf h1
 | .iP ord ops fl wV, _, _, _, _, _, hf, hev => by
   simp only[aL,u5]at hev
   obtain⟨r,h1,h2⟩:=hev
   split at h2
   · cases h2;exact fW hn hc hf (cg h1)
   · cases h2
 | .seq a b, _, _, _, _, _, hf, hev => by
   simp only[aL,u5]at hev
   obtain⟨⟨y,e1,h1⟩,ha,hb⟩:=hev
   have k:=cT hn hc d a _ _ _ _ _ hf ha
   split at hb
   · rename_i q
     cases q
     exact k.trans (cT hn hc d b _ _ _ _ _ (k.fn (bC hn (cu d) a _ _ _ _ _ ha) hf) hb)
   · cases hb;exact k
 | .cond x a b wV, _, h0, _, _, _, hf, hev => by
   simp only[aL]at hev
   split at hev
   · simp only[u5]at hev
     obtain⟨⟨y,e1,h1⟩,ha,hb⟩:=hev
     have:Kp h0 h1:=by
      split at ha
      · exact cT hn hc d a _ _ _ _ _ hf ha
      · exact cT hn hc d b _ _ _ _ _ hf ha
     split at hb
     · rename_i q;cases q;cases hb;exact this
     · cases hb;exact this
   · cases hev
 | .block id c wV, _, _, _, _, _, hf, hev => by
   simp only[aL,u5]at hev
   obtain⟨⟨y,e1,h1⟩,ha,hb⟩:=hev
   have:=cT hn hc d c _ _ _ _ _ hf ha
   split at hb
   · rename_i q;cases q;cases hb;exact this
   · rename_i q;cases q
     split at hb<;>(cases hb;exact this)
   · rename_i q;cases q;cases hb;exact this
 | .loop wV c,_,_,_,_,_,hf,hev=>jv (fun _ _ _ _ _ h=>bC hn (cu d) c _ _ _ _ _ h) (fun _ _ _ _ _ hf h=>cT hn hc d c _ _ _ _ _ hf h) d _ _ _ _ _ hf hev
theorem ju (A : a8) : ∀ d, sf (aT A d)
 |0,_,_,_,_,_,_,h=>by cases h
 | d + 1, f, args, h, v, h', hf, hev => by
   simp only[aT,u5]at hev
   obtain⟨fn,_,hr⟩:=hev
   unfold e5 at hr
   split at hr
   · simp only[u5]at hr
     obtain⟨⟨y,e1,h1⟩,ha,hb⟩:=hr
     unfold fin at hb
     split at hb
     · cases hb
     · rename_i q;cases q
       simp only[u5]at hb
       obtain⟨vs,_,hb⟩:=hb
       split at hb
       · simp only[u5]at hb
         obtain⟨_,_,hb⟩:=hb
         cases hb;exact .refl _
       · rename_i hp;cases hb
         rw[if_neg hp]at ha
         exact cT (cK A d) (ju A d) d _ _ _ _ _ _ hf ha
   · cases hr
end Ab
namespace Ab
open Go RowKit
section
variable {L:Lk} {w0:World} {ι ι1:Io} {M M1:Mm} {h h1:H} {w w1:World}
open Classical in
noncomputable def bD (M1:Mm) (ι1:Io) (h1:H) (fl:Nat) (w1:World):Mm:=fun b o=>
 match M1 b o with
 |some v=>some v
 |none=>if∃id cs l,fl≤id∧h1.get id=some cs∧ι1 id=some l∧l.block=b∧l.base≤o∧o<l.base+cs.length then w1.cell? (at' b o)else none
theorem dR (fl:Nat):nN M1 (bD M1 ι1 h1 fl w1):=fun b o v q=>by simp only[bD,q]
theorem j3 (r:R L w0 ι1 M1 h1 w1) {fl id:Nat} (hid:fl≤id) {cs:List AV} (hg:h1.get id=some cs) {l:Loc} (hl:ι1 id=some l) {i:Nat} (hi:i<cs.length) {v:Value} (hv:w1.cell? (at' l.block (l.base+i))=some v):bD M1 ι1 h1 fl w1 l.block (l.base+i)=some v:=by
 simp only[bD]
 split
 · rename_i u hu;rw[r.au _ _ _ hu]at hv;exact hv
 · rw[if_pos ⟨id,cs,l,hid,hg,hl,rfl,by omega,by omega⟩];exact hv
theorem gv {fl b o:Nat} {v:Value} (hv:bD M1 ι1 h1 fl w1 b o=some v):M1 b o=some v∨(w1.cell? (at' b o)=some v∧∃id cs l,fl≤id∧h1.get id=some cs∧ι1 id=some l∧l.block=b∧l.base≤o∧o<l.base+cs.length):=by
 simp only[bD]at hv
 split at hv
 · rename_i u hu;obtain rfl:=u6 hv;exact .inl hu
 · split at hv
   · rename_i q;exact .inr ⟨hv,q⟩
   · cases hv
theorem R.back (r:R L w0 ι M h w) (r1:R L w0 ι1 M1 h1 w1) (hg:∀id,id<h.next→h1.get id=h.get id) (hι:nI ι ι1) (hM:nN M M1):R L w0 ι (bD M1 ι1 h1 h.next w1) h w1:=by
 have g:∀id cs l,h.get id=some cs→ι id=some l→h1.get id=some cs∧ι1 id=some l:=fun id cs l a b=>⟨by rw[hg id (r.jY id l b)];exact a,hι _ _ b⟩
 refine⟨r1.below,r.jY,fun id cs l a b=>r1.gP id cs l (g _ _ _ a b).1 (g _ _ _ a b).2,fun id cs l a b=>r1.own id cs l (g _ _ _ a b).1 (g _ _ _ a b).2,fun id cs l a b i x hx=> ?_,r.fR,fun b o v hv=> ?_,fun b o v id cs l hv a c=> ?_⟩
 · obtain⟨v,q1,q2⟩:=r1.val id cs l (g _ _ _ a b).1 (g _ _ _ a b).2 i x hx
   obtain⟨v0,_,q3⟩:=r.val id cs l a b i x hx
   exact⟨v,q1,(q2.shrink hι q3).mono (fun _ _ q=>q) (dR _)⟩
 · rcases gv hv with q|⟨q,_⟩
   · exact r1.au b o v q
   · exact q
 · obtain⟨a1,c1⟩:=g _ _ _ a c
   rcases gv hv with q|⟨_,id',cs',l',q1,q2,q3,q4,q5,q6⟩
   · exact r1.gQ b o v id cs l q a1 c1
   · intro hb
     have hne:id≠id':=fun e=>by have:=r.jY id l c;omega
     have hlen:=(r1.gP id' cs' l' q2 q3)
     rcases r1.fR id id' cs cs' l l' a1 q2 c1 q3 hne (by omega)with hd|hd<;>omega
theorem br {f:AV→Option AV}:∀{l l':List AV},fD f l=some l'→l'.length=l.length∧∀(i:Nat) (a':AV),l'[i]?=some a'→∃a,l[i]?=some a∧f a=some a'
 |[],l',h=>by obtain rfl:=u6 h;exact⟨rfl,fun i a q=>by simp at q⟩
 | v :: r, l', h => by
   simp only[fD,u5]at h
   obtain⟨v',h1,r',h2,h3⟩:=h
   obtain rfl:=u6 h3
   obtain⟨g1,g2⟩:=br h2
   refine⟨by simp [g1],fun i a q=> ?_⟩
   cases i with
   |zero=>simp at q;subst q;exact⟨v,rfl,h1⟩
   |succ i=>simpa using g2 i a (by simpa using q)
theorem ke (r1 : R L w0 ι1 M1 h1 w1) {fl : Nat} (hold : ∀ id l, id < fl → ι1 id = some l → ι id = some l) : ∀ (n : Nat) (top : Bool) (a a' : AV) (v : Value), V L ι1 M1 a v → snap h1.get fl n top a = some a' →
 (top=true→V L ι (bD M1 ι1 h1 fl w1) a' v)∧(top=false→VI L (bD M1 ι1 h1 fl w1) a' v):=by
 intro n
 induction n with
 |zero=>intro top a a' v _ hs;cases hs
 | succ n ih =>
   intro top a a' v hV hs
   have au:∀{x:AV},VI L M1 x v→a'=x→(top=true→V L ι (bD M1 ι1 h1 fl w1) a' v)∧(top=false→VI L (bD M1 ι1 h1 fl w1) a' v):=by
    intro x hx e
    subst e
    exact⟨fun _=>.au (hx.mono (dR _)),fun _=>hx.mono (dR _)⟩
   have row:∀{t:Bool} {xs ys:List AV} {vs:List Value},fD (snap h1.get fl n t) xs=some ys→(∀(i:Nat) (a:AV) (v:Value),xs[i]?=some a→vs[i]?=some v→V L ι1 M1 a v)→
    (t=true→∀(i:Nat) (a:AV) (v:Value),ys[i]?=some a→vs[i]?=some v→V L ι (bD M1 ι1 h1 fl w1) a v)∧(t=false→∀(i:Nat) (a:AV) (v:Value),ys[i]?=some a→vs[i]?=some v→VI L (bD M1 ι1 h1 fl w1) a v):=by
    intro t xs ys vs hm hx
    obtain⟨_,g2⟩:=br hm
    refine⟨fun ht i a v ha hv=> ?_,fun ht i a v ha hv=> ?_⟩
    · obtain⟨b,hb,hsb⟩:=g2 i a ha
      exact(ih t b a v (hx i b v hb hv) hsb).1 ht
    · obtain⟨b,hb,hsb⟩:=g2 i a ha
      exact(ih t b a v (hx i b v hb hv) hsb).2 ht
   have cells:∀{id:Nat} {cs:List AV} {l:Loc} {off m:Nat} {ys:List AV},¬id<fl→h1.get id=some cs→ι1 id=some l→fD (snap h1.get fl n false) ((cs.drop off).take m)=some ys→
    ∃vs:Nat→Value,(∀(i:Nat) (c:AV),ys[i]?=some c→bD M1 ι1 h1 fl w1 l.block (l.base+off+i)=some (vs i))∧∀(i:Nat) (c:AV),ys[i]?=some c→VI L (bD M1 ι1 h1 fl w1) c (vs i):=by
    intro id cs l off m ys hid hg hl hm
    obtain⟨_,g2⟩:=br hm
    refine⟨fun i=>(w1.cell? (at' l.block (l.base+off+i))).getD undef, ?_⟩
    have key:∀(i:Nat) (c:AV),ys[i]?=some c→∃v,w1.cell? (at' l.block (l.base+off+i))=some v∧off+i<cs.length∧VI L (bD M1 ι1 h1 fl w1) c v:=by
     intro i c hc
     obtain⟨b,hb,hsb⟩:=g2 i c hc
     have hb':cs[off+i]?=some b:=by
      rw[vH]at hb
      split at hb
      · rwa [vz]at hb
      · cases hb
     obtain⟨v,q1,q2⟩:=r1.val id cs l hg hl (off+i) b hb'
     rw[←vk]at q1
     exact⟨v,q1,(vh.1 hb').1,(ih false b c v q2 hsb).2 rfl⟩
    refine⟨fun i c hc=> ?_,fun i c hc=> ?_⟩
    · obtain⟨v,q1,q2,_⟩:=key i c hc
      simp only[q1,Option.getD_some]
      rw[vk]
      exact j3 r1 (by omega) hg hl q2 (by rw[←vk];exact q1)
    · obtain⟨v,q1,_,q3⟩:=key i c hc
      simp only[q1,Option.getD_some];exact q3
   cases a with
   |bot=>cases hV with|au hx=>exact au hx (u6 hs).symm
   |bool b=>cases hV with|au hx=>exact au hx (u6 hs).symm
   |int k m=>cases hV with|au hx=>exact au hx (u6 hs).symm
   |str s=>cases hV with|au hx=>exact au hx (u6 hs).symm
   |cn=>cases hV with|au hx=>exact au hx (u6 hs).symm
   |aK c o=>cases hV with|au hx=>exact au hx (u6 hs).symm
   |aP=>cases hV with|au hx=>exact au hx (u6 hs).symm
   |aV t c o l s=>cases hV with|au hx=>exact au hx (u6 hs).symm
   |eN=>cases hV with|au hx=>exact au hx (u6 hs).symm
   |eO=>cases hV with|au hx=>exact au hx (u6 hs).symm
   | aD id off =>
     obtain⟨l,hl,rfl⟩:=hV.aU
     simp only[snap]at hs
     split at hs
     · rename_i hid
       cases top with
       |false=>cases hs
       |true=>obtain rfl:=u6 hs;exact⟨fun _=>.aD (hold id l hid hl),nofun⟩
     · rename_i hid
       simp only[u5]at hs
       obtain⟨cs,hg,ys,hm,hs⟩:=hs
       obtain rfl:=u6 hs
       have hm':fD (snap h1.get fl n false) ((cs.drop 0).take cs.length)=some ys:=by simpa using hm
       obtain⟨vs,k1,k2⟩:=cells hid hg hl hm'
       have:VI L (bD M1 ι1 h1 fl w1) (.aK ys off) (.pointer (some (at' l.block (l.base+off)))):=.aK vs (fun i c hc=>k1 i c hc) k2
       exact⟨fun _=>.au this,fun _=>this⟩
   | aE id off len sz =>
     obtain⟨l,cap,ad,hl,rfl,c1,c2,c3,c4⟩:=hV.aH
     simp only[snap]at hs
     split at hs
     · rename_i hid
       cases top with
       |false=>cases hs
       |true=>obtain rfl:=u6 hs;exact⟨fun _=>.aE (hold id l hid hl) c1 c2 c3 c4,nofun⟩
     · rename_i hid
       simp only[u5]at hs
       obtain⟨cs,hg,hs⟩:=hs
       split at hs
       · rename_i hle
         simp only[u5]at hs
         obtain⟨ys,hm,hs⟩:=hs
         obtain rfl:=u6 hs
         obtain⟨vs,k1,k2⟩:=cells hid hg hl hm
         have hlen:=(br hm).1
         have hmul:len* sz≤cap* sz:=vp sz c1
         have:VI L (bD M1 ι1 h1 fl w1) (.aV false ys 0 len sz) (.slice (some ad) len cap):=
          .aV (b:=l.block) (base:=l.base+off) vs k1 k2 c1 (fun q=>by rw[c2 q];rfl) (by rw[hlen];simp only[List.length_take,List.length_drop];omega) nofun
         exact⟨fun _=>.au this,fun _=>this⟩
       · cases hs
   | agg cs =>
     simp only[snap,u5]at hs
     obtain⟨ys,hm,hs⟩:=hs
     obtain rfl:=u6 hs
     obtain⟨vs,rfl,q1,q2⟩:=hV.fF
     have hl:=(br hm).1
     obtain⟨k1,k2⟩:=row hm q2
     exact⟨fun ht=>.agg (by omega) (k1 ht),fun ht=>.agg (by omega) (k2 ht)⟩
   | bM cs =>
     simp only[snap,u5]at hs
     obtain⟨ys,hm,hs⟩:=hs
     obtain rfl:=u6 hs
     obtain⟨vs,rfl,q1,q2⟩:=hV.kK
     have hl:=(br hm).1
     obtain⟨k1,k2⟩:=row hm q2
     exact⟨fun ht=>.bM (by omega) (k1 ht),fun ht=>.bM (by omega) (k2 ht)⟩
   | fn f as cs =>
     simp only[snap,u5]at hs
     obtain⟨ys,hm,zs,hm2,hs⟩:=hs
     obtain rfl:=u6 hs
     obtain⟨fid,va,vc,rfl,q0,q1,q2,q3,q4⟩:=hV.eJ
     have hl:=(br hm).1
     have hl2:=(br hm2).1
     obtain⟨k1,k2⟩:=row hm q3
     obtain⟨k3,k4⟩:=row hm2 q4
     exact⟨fun ht=>.fn q0 (by omega) (by omega) (k1 ht) (k3 ht),fun ht=>.fn q0 (by omega) (by omega) (k2 ht) (k4 ht)⟩
   | iface t x =>
     simp only[snap,u5]at hs
     obtain⟨y,hy,hs⟩:=hs
     obtain rfl:=u6 hs
     obtain⟨tid,u,rfl,q1,q2⟩:=hV.bK
     obtain⟨k1,k2⟩:=ih top x y u q2 hy
     exact⟨fun ht=>.iface q1 (k1 ht),fun ht=>.iface q1 (k2 ht)⟩
def cE (L:Lk):List ResultVar→Option (List RV)
 |[]=>some []
 | .tmp t::r=>(cE L r).bind fun rs=>some (.tmp t::rs)
 | .cell t ty::r=>(gZ L.P ty).bind fun a=>(b7 L.P ty).bind fun n=>(cE L r).bind fun rs=>some (.cell t a n::rs)
theorem eZ (r : R L w0 ι M h w) {e : Env} {tmps : Array Value} (he : a7 L ι M e tmps) : ∀ {l : List ResultVar} {rs : List RV} {vs : List AV}, cE L l = some rs → cw e h rs = some vs →
 ∃ vals : List Value, ((l.mapM fun
   | .tmp t=>pure (tmps.getD t undef)
   | .cell a t=>do loadVar t (←asAddr (tmps.getD a undef)):Sem (List Value)).run L.P w)=.ok vals w∧ax L ι M vs vals
 | [], rs, vs, hc, hr => by
   obtain rfl:=u6 hc
   obtain rfl:=u6 hr
   exact⟨[],rfl,rfl,fun i a v q=>by simp at q⟩
 | .tmp t :: l, rs, vs, hc, hr => by
   simp only[cE,u5]at hc
   obtain⟨rs',hc,q⟩:=hc
   obtain rfl:=u6 q
   simp only[cw,nC,u5]at hr
   obtain⟨v,hv,vs',hr,q⟩:=hr
   obtain rfl:=u6 hv
   obtain rfl:=u6 q
   obtain⟨vals,g1,g2⟩:=eZ r he hc hr
   refine⟨tmps.getD t undef::vals, ?_,by simp [g2.1],fun i a v ha hv=> ?_⟩
   · simp only[List.mapM_cons,Sem.run_bind,Sem.run_pure,Result.andThen_ok,g1]
   · cases i with
     |zero=>simp at ha hv;subst ha;subst hv;rw[←vo];exact he t
     |succ i=>exact g2.2 i a v (by simpa using ha) (by simpa using hv)
 | .cell t ty :: l, rs, vs, hc, hr => by
   simp only[cE,u5]at hc
   obtain⟨ag,ha,n,hn,rs',hc,q⟩:=hc
   obtain rfl:=u6 q
   simp only[cw,nC,u5]at hr
   obtain⟨v,hv,vs',hr,q⟩:=hr
   obtain rfl:=u6 q
   obtain⟨vals,g1,g2⟩:=eZ r he hc hr
   have ht:=he t
   have hload:∃u,((do loadVar ty (←asAddr (tmps.getD t undef)):Sem Value).run L.P w)=.ok u w∧V L ι M v u:=by
    unfold bQ at hv
    split at hv
    · rename_i id off q
      rw[q]at ht
      obtain⟨lo,hlo,hp⟩:=ht.aU
      simp only[u5]at hv
      obtain⟨cs,hg,hv⟩:=hv
      obtain⟨u,k1,k2⟩:=du ha hn (r.row hg hlo) hv
      exact⟨u,by rw[hp];simpa [asAddr]using k1,k2⟩
    · rename_i cs off q
      rw[q]at ht
      obtain⟨b,base,hp,hrow⟩:=V.cm r ht
      obtain⟨u,k1,k2⟩:=du ha hn hrow hv
      exact⟨u,by rw[hp];simpa [asAddr]using k1,k2⟩
    · cases hv
   obtain⟨u,k1,k2⟩:=hload
   refine⟨u::vals, ?_,by simp [g2.1],fun i a x hx hy=> ?_⟩
   · simp only[List.mapM_cons,Sem.run_bind,Sem.run_pure,Result.andThen_ok,g1]at k1 ⊢
     rw[k1];simp only[Result.andThen_ok,g1]
   · cases i with
     |zero=>simp at hx hy;subst hx;subst hy;exact k2
     |succ i=>exact g2.2 i a x (by simpa using hx) (by simpa using hy)
theorem gX (r:R L w0 ι M h w) {e:Env} {fn:Func} {tmps:Array Value} (he:a7 L ι M e tmps) {rs:List RV} {vs:List AV} (hc:cE L fn.results.toList=some rs) (hr:cw e h rs=some vs):
 ∃v,(results fn tmps).run L.P w=.ok v w∧V L ι M (dh vs) v:=by
 obtain⟨vals,g1,g2⟩:=eZ r he hc hr
 unfold results
 rw[Array.mapM_eq_mapM_toList]
 have:(if hx:vals.toArray.size=1 then vals.toArray[0]else .tuple vals.toArray)=(if hx:vals.toArray.size=1 then vals.toArray[0]else .tuple vals.toArray):=rfl
 refine⟨if hx:vals.toArray.size=1 then vals.toArray[0]else .tuple vals.toArray, ?_, ?_⟩
 · simp only[Sem.run_bind,Sem.run_map,Sem.run_pure]
   erw [g1]
   rfl
 · match vs,vals,g2 with
   |[v],[u],g2=>simpa [dh]using g2.2 0 v u rfl rfl
   |[],[],g2=>simp only[dh];exact .bM g2.1 g2.2
   | a :: b :: vs, x :: y :: vals, g2 =>
     have:¬(x::y::vals).toArray.size=1:=by simp
     rw[dif_neg this]
     exact .bM g2.1 g2.2
   |[],_::_,g2=>cases g2.1
   |_::_,[],g2=>cases g2.1
   |[_],_::_::_,g2=>cases g2.1
   |_::_::_,[_],g2=>cases g2.1
end
end Ab
namespace Ab
open Go RowKit
structure ei (L:Lk) (A:a8):Prop where
 hm:L.P.follows .mixedOrders=true
 fns : ∀ (fid : FuncId) (f : Nat), L.mf fid = some f → ∃ fn c, L.P.funcs[fid]? = some fn ∧ fn.body = some c ∧ (fn.name == "runtime.NumGoroutine") = false ∧
  ∀af,A f=some af→(∃x0,comp L fn.ntmps c x0=some af.body)∧cE L fn.results.toList=some af.res
 uY:∀name t f d,L.iv name=some (t,f,d)→∀T,L.mt T=t→∃fid,L.mf fid=some f∧lQ L.P T name fid d
 u0:∀t k,L.ta t=some k→r8 L.P t∧∀T,L.mt T=k→T=t
theorem ei.qu {L:Lk} {A:a8} (lk:ei L A):cO L:=⟨fun fid f h=>let ⟨fn,c,a,b,d,_⟩:=lk.fns fid f h;⟨fn,c,a,b,d⟩,lk.uY,lk.u0⟩
theorem fy : ∀ (args : List AV) (k t : Nat), look (params k args) t = if k ≤ t then (args[t - k]?).getD .bot else .bot
 |[],k,t=>by simp [params,look]
 | v :: r, k, t => by
   simp only[params,look,fy r (k+1) t]
   by_cases h:k=t
   · subst h;simp
   · rw[if_neg h]
     by_cases hk:k≤t
     · have e:t-k=(t-(k+1))+1:=by omega
       rw[if_pos hk,if_pos (by omega),e,vw]
     · rw[if_neg hk,if_neg (by omega)]
section
variable {L:Lk} {w0:World} {ι:Io} {M:Mm} {h:H} {w:World}
theorem a7.params {args:List AV} {vals:List Value} (hr:ax L ι M args vals) (n:Nat):a7 L ι M (params 0 args) (vals.toArray++Array.replicate n undef):=by
 intro t
 rw[fy,if_pos (Nat.zero_le _),Nat.sub_zero]
 cases ha:args[t]? with
 |none=>exact .au (.bot _)
 | some a =>
   obtain⟨hlt,_⟩:=vh.1 ha
   have hlt':t<vals.length:=by rw[←hr.1];exact hlt
   have hv:vals[t]?=some vals[t]:=List.getElem?_eq_getElem hlt'
   have:=hr.2 t a _ ha hv
   rw[vo,Array.getElem?_append_left (by simpa using hlt')]
   simpa [hv]using this
theorem R.dN (r:R L w0 ι M h w):R L w0 ι M h.dN w:=⟨r.below,r.jY,r.gP,r.own,r.val,r.fR,r.au,r.gQ⟩
theorem callee {A : a8} (lk : ei L A) : ∀ d, Callee L w0 (aT A d)
 |0,_,_,_,_,_,_,_,_,_,_,_,hev,_,_=>by cases hev
 | d + 1, f, fid, args, vals, ι, M, h, h', w, v, hmf, hev, r, hrow => by
   have ih:=callee lk d
   obtain⟨fn,c,hf,hb,_,hA⟩:=lk.fns fid f hmf
   simp only[aT,u5]at hev
   obtain⟨af,haf,hev⟩:=hev
   obtain⟨⟨x0,hx⟩,hres⟩:=hA af haf
   unfold e5 at hev
   split at hev
   · rename_i hnp
     simp only[u5]at hev
     obtain⟨⟨ex,e1,h1⟩,hv,hfin⟩:=hev
     have hsz:fn.ntmps≤(vals.toArray++Array.replicate (fn.ntmps-vals.toArray.size) undef).size:=by simp;omega
     refine calls_of_wp hf hb ?_
     have hr':R L w0 ι M (if af.pure=true then h.dN else h) w:=by
      split
      · exact r.dN
      · exact r
     refine nW lk.hm ih lk.qu (cK A d) d c x0 af.body hx (a:={tmps:=vals.toArray++Array.replicate (fn.ntmps-vals.toArray.size) undef,defers:=[]}) (a7.params hrow _) hsz hr' hv ?_
     intro ι1 M1 a1 w1 g r1 he1 _ hd1
     have post:∀(P:Value→World→Prop) (vs:List AV),cw e1 h1 af.res=some vs→(∀u,V L ι1 M1 (dh vs) u→P u w1)→bodyPost L.P fn (fun e w'=>∃v',e=.returned v'∧P v' w') .normal a1 w1:=by
      intro P vs hvs hP
      obtain⟨u,k1,k2⟩:=gX r1 (fn:=fn) he1 hres hvs
      exact⟨hd1,u,k1,u,rfl,hP u k2⟩
     have main:∀vs,cw e1 h1 af.res=some vs→(if af.pure=true then(snap h1.get h.next gN true (dh vs)).bind fun v=>some (v,h)else some (dh vs,h1))=some (v,h')→
      bodyPost L.P fn (fun e w'=>∃v',e=.returned v'∧Out L w0 ι M h h' v v' w') .normal a1 w1:=by
      intro vs hvs hfin
      split at hfin
      · rename_i hp
        simp only[u5]at hfin
        obtain⟨v2,hsn,hfin⟩:=hfin
        obtain⟨rfl,rfl⟩:=u9 (u6 hfin)
        simp only[hp,if_true]at g hv
        have kp:=cT (cK A d) (ju A d) d _ _ _ _ _ _ (vm _) hv
        refine post (fun u w'=>Out L w0 ι M h h v2 u w') vs hvs fun u hu=> ?_
        have hold:∀id l,id<h.next→ι1 id=some l→ι id=some l:=fun id l a b=>g.iF id l a b
        exact⟨ι,bD M1 ι1 h1 h.next w1,fun _ _ q=>q,fun b o x q=>dR _ b o x (g.mm _ _ _ q),fun _ _ _ q=>q,r.back r1 (fun id hid=>kp.get id hid) g.io g.mm,(ke r1 hold _ true _ _ _ hu hsn).1 rfl⟩
      · rename_i hp
        obtain⟨rfl,rfl⟩:=u9 (u6 hfin)
        rw[if_neg hp]at g
        exact post (fun u w'=>Out L w0 ι M h h1 (dh vs) u w') vs hvs fun u hu=>⟨ι1,M1,g.io,g.mm,g.iF,r1,hu⟩
     unfold fin at hfin
     split at hfin
     · cases hfin
     · rename_i hne q
       cases q
       simp only[u5]at hfin
       obtain⟨vs,hvs,hfin⟩:=hfin
       have:=main vs hvs hfin
       cases ex with
       |normal=>exact this
       |ret=>exact this
       |exit id=>exact(hne _ rfl).elim
   · cases hev
theorem jh {A:a8} (lk:ei L A):Callee L w0 (aR A):=by
 intro f fid args vals ι M h h' w v hmf hev r hrow
 obtain⟨n,hn⟩:=eI hev
 exact callee lk n f fid args vals ι M h h' w v hmf hn r hrow
end
end Ab
namespace Ab
open Go RowKit ChangeShapes WideShapes
def tY:Io:=fun _=>none
def u4:Mm:=fun _ _=>none
theorem R.start (L:Lk) (W:World) {M:Mm} (hM:∀b o v,M b o=some v→W.cell? (at' b o)=some v):R L W tY M H.empty W:=
 ⟨Below.refl _ _,fun _ _ h=>(by cases h),fun _ _ _ _ h=>(by cases h),fun _ _ _ _ h=>(by cases h),fun _ _ _ _ h=>(by cases h),fun _ _ _ _ _ _ _ _ h=>(by cases h),hM,fun _ _ _ _ _ _ _ _ h=>(by cases h)⟩
theorem lL {L:Lk} {A:a8} (lk:ei L A) {f:Nat} {fid:FuncId} {args:List AV} {vals:List Value} {M:Mm} {W:World} {h':H} (hm:L.mf fid=some f) (hM:∀b o v,M b o=some v→W.cell? (at' b o)=some v)
 (hc:aR A f args H.empty=some (.bool true,h')) (hr:ax L tY M args vals):Calls L.P fid vals.toArray W fun e W'=>e=.returned (.bool true)∧Below W.heap.size W W':=by
 refine(jh lk f fid args vals tY M H.empty h' W _ hm hc (R.start L W hM) hr).mono fun e W' ⟨v',he,ι',M',_,_,_,r',hv⟩=> ?_
 have:=hv.bR
 subst this
 exact⟨he,r'.below⟩
theorem tW {a:Int} (w:(Lit.int .i64 a).wf=true): -9223372036854775808≤a∧a<9223372036854775808:=by
 simp only[Lit.wf,vn,decide_eq_true_eq]at w
 have h1:IntKind.min .i64= -9223372036854775808:=by decide
 have h2:IntKind.max .i64=9223372036854775807:=by decide
 rw[h1,h2]at w
 omega
theorem uE {s:ByteArray} (w:s.size≤reachBytes):s.size<140737488355328:=by
 unfold reachBytes at w;omega
theorem lI {H:Type} {enc:TypeId×Value→H} {P:Program} {f:Func} {s:ChangeSpec} {apart fresh handsOn:Bool} {W W':World} {args:Array Value} {ds gs:List (DataW H)} {before pa pv:List MemPlace} {t:TypeId}
 (hW:DataW.Whole enc P f.params.toList s.vars apart W args.toList ds gs before) (hb:Below W.heap.size W W')
 (hrt:f.resultTypes= #[t]) (hres:∀(b:Nat) (sp:Nat→Bool) (hd:Bool),DataW.Trod enc P W' b sp hd t (.bool true) (.lit (.bool true)) []) (hsr:(s.fn H (ds++gs)).results=[.lit (.bool true)])
 (hargs:DataW.TrodAll enc P W' 0 (fun b=>decide (b<W.heap.size)) true f.params.toList args.toList (s.fn H (ds++gs)).args pa)
 (hvars:DataW.TrodVars enc P W' (fun b=>decide (b<W.heap.size)) s.vars (s.fn H (ds++gs)).vars pv):
 s.post enc P f apart fresh handsOn false W args (.bool true) W':=by
 refine⟨ds,gs,before,[],pa,pv,hW, ?_,hargs,hvars,hb.frame _,fun h=>by cases h⟩
 rw[hrt,hsr]
 exact trodAll_mk1 (hres _ _ _)
end Ab
namespace Ab
open Go RowKit ChangeShapes WideShapes
inductive Ty where
 |bool
 |int (k:IntKind)
 |str
 |sl (e:Ty) (z b:Nat)
 |st (fs:List Ty)
mutual
inductive Sh (B:Nat):Ty→List AV→Prop where
 |bool (b:Bool):Sh B .bool [.bool b]
 |int {k:IntKind} {n:Int} (h:(Lit.int k n).wf=true):Sh B (.int k) [.int k n]
 |str {s:ByteArray} (h:s.size≤B):Sh B .str [.str s]
 |aP {e:Ty} {z b:Nat}:Sh B (.sl e z b) [.aP]
 |aV {e:Ty} {z b:Nat} (ess:List (List AV)) (h:∀es,es∈ess→Sh B e es) (hz:∀es,es∈ess→es.length=z) (hb:ess.length* b≤B):Sh B (.sl e z b) [.aV false ess.flatten 0 ess.length z]
 |st {fs:List Ty} {as:List AV} (h:iY B fs as):Sh B (.st fs) as
inductive iY (B:Nat):List Ty→List AV→Prop where
 |nil:iY B [] []
 |cons {f:Ty} {fs:List Ty} {a r:List AV} (h:Sh B f a) (hr:iY B fs r):iY B (f::fs) (a++r)
end
def kL (P:Program) (r:TypeId→Option (Ty×Nat)):Nat→List Field→Option (List Ty×Nat)
 |o,[]=>some ([],o)
 |o,f::l=>if f.offset=o then(r f.type).bind fun y=>if P.cellsOf f.type=y.2 then(kL P r (o+y.2) l).map fun x=>(y.1::x.1,x.2)else none else none
def kg (P : Program) : Nat → TypeId → Option (Ty × Nat)
 |0,_=>none
 | n + 1, t => match P.underlying t with
   |some .bool=>some (.bool,1)
   |some (.int k)=>some (.int k,1)
   |some .string=>some (.str,1)
   |some (.slice e)=>(kg P n e).bind fun y=>if 0<y.2∧P.cellsOf e=y.2 then some (.sl y.1 y.2 (P.bytesOf e),1)else none
   |some (.struct fs)=>(kL P (kg P n) 0 fs.toList).bind fun x=>if P.cellsOf t=x.2 then some (.st x.1,x.2)else none
   |_=>none
theorem nc {α : Type} {Q : Nat → α → Prop} : ∀ n : Nat, (∀ i, i < n → ∃ x, Q i x) → ∃ l : List α, l.length = n ∧ ∀ i x, l[i]? = some x → Q i x
 |0,_=>⟨[],rfl,fun i x h=>by simp at h⟩
 | n + 1, h => by
   obtain⟨l,hl,hq⟩:=nc n fun i hi=>h i (by omega)
   obtain⟨x,hx⟩:=h n (by omega)
   refine⟨l++[x],by simp [hl],fun i y hy=> ?_⟩
   by_cases c:i<l.length
   · rw[List.getElem?_append_left c]at hy;exact hq i y hy
   · rw[List.getElem?_append_right (by omega)]at hy
     have hi:i=n:=by
      rcases Nat.lt_or_ge n i with q|q
      · rw[List.getElem?_eq_none (by simp;omega)]at hy;cases hy
      · omega
     subst hi
     rw[hl,Nat.sub_self]at hy
     obtain rfl:=u6 hy
     exact hx
theorem fu {α:Type} {z:Nat} (hz:0<z):∀(l:List (List α)) (_:∀x∈l,x.length=z) (i:Nat),l.flatten[i]?=(l[i/z]?).bind (·[i%z]?)
 |[],_,i=>by simp
 | x :: l, h, i => by
   have hx:=h x (by simp)
   rw[List.flatten_cons]
   by_cases c:i<z
   · rw[List.getElem?_append_left (by omega),Nat.div_eq_of_lt c,Nat.mod_eq_of_lt c];rfl
   · rw[List.getElem?_append_right (by omega),fu hz l (fun y hy=>h y (by simp [hy])),hx]
     have e1:i/z=(i-z)/z+1:=by rw[Nat.div_eq i z,if_pos ⟨hz,by omega⟩]
     have e2:i%z=(i-z)%z:=Nat.mod_eq_sub_mod (by omega)
     rw[e1,e2];rfl
theorem fw {α:Type} {z:Nat}:∀(l:List (List α)) (_:∀x∈l,x.length=z),l.flatten.length=l.length* z
 |[],_=>by simp
 | x :: l, h => by
   rw[List.flatten_cons,vI,fw l (fun y hy=>h y (by simp [hy])),h x (by simp),List.length_cons,Nat.succ_mul,Nat.add_comm]
def gU (W:World):Mm:=fun b o=>W.cell? (at' b o)
def Rel (L:Lk) (W:World) (as:List AV) (cs:List Value):Prop:=as.length=cs.length∧∀(i:Nat) (a:AV) (v:Value),as[i]?=some a→cs[i]?=some v→VI L (gU W) a v
section
variable {H:Type} {enc:TypeId×Value→H} {P:Program} {W:World} {L:Lk} {B:Nat}
theorem di {e:TypeId}:∀{l:List (DataW H)} {d:DataW H},d∈l→∀n∈d.weights P e,n∈DataW.weightsAll P e l
 | x :: l, d, hd, n, hn => by
   rw[DataW.weightsAll,List.mem_append]
   rcases vF.1 hd with rfl|hd
   · exact .inl hn
   · exact .inr (di hd n hn)
theorem ik {n : Nat} {r : TypeId → Option (Ty × Nat)} {cs : List Value}
 (ih:∀(t:TypeId) (y:Ty×Nat),r t=some y→∀(cs:List Value) (x:DataW H×List MemPlace),DataW.trod enc P W 0 (fun _=>true) true n t cs=some x→(∀k∈x.1.weights P t,k≤B)→∃as,Sh B y.1 as∧as.length=y.2∧Rel L W as cs):
 ∀ (fs : List Field) (o : Nat) (xs : List (DataW H × List MemPlace)) (y : List Ty × Nat), kL P r o fs = some y → xs.length = fs.length →
   (∀(i:Nat) (f:Field),fs[i]?=some f→DataW.trod enc P W 0 (fun _=>true) true n f.type ((cs.drop f.offset).take (P.cellsOf f.type))=xs[i]?)→
   (∀k∈DataW.weightsEach P (fs.map (·.type)) (xs.map (·.1)),k≤B)→
   ∃as,iY B y.1 as∧o+as.length=y.2∧∀(i:Nat) (a:AV) (v:Value),as[i]?=some a→cs[o+i]?=some v→VI L (gU W) a v
 | [], o, xs, y, hy, hl, ht, hw => by
   obtain rfl:=u6 hy
   exact⟨[],.nil,rfl,fun i a v h=>by simp at h⟩
 |f::fs,o,[],y,hy,hl,ht,hw=>by simp at hl
 | f :: fs, o, x :: xs, y, hy, hl, ht, hw => by
   unfold kL at hy
   split at hy
   · rename_i ho
     obtain⟨y1,h1,hy⟩:=u5.1 hy
     split at hy
     · rename_i hc
       obtain⟨y2,h2,rfl⟩:=u7.1 hy
       simp only[List.map_cons,DataW.weightsEach,List.mem_append]at hw
       obtain⟨as,s1,l1,r1,r2⟩:=ih f.type y1 h1 _ x (ht 0 f rfl) (fun k hk=>hw k (.inl hk))
       obtain⟨bs,s2,l2,q2⟩:=ik ih fs (o+y1.2) xs y2 h2 (by simpa using hl) (fun i g hg=>ht (i+1) g hg) (fun k hk=>hw k (.inr hk))
       refine⟨as++bs,.cons s1 s2,by rw[vI];omega,fun i a v ha hv=> ?_⟩
       by_cases c:i<as.length
       · rw[List.getElem?_append_left c]at ha
         refine r2 i a v ha ?_
         rw[vH,if_pos (by omega),vz,ho];exact hv
       · rw[List.getElem?_append_right (by omega)]at ha
         refine q2 _ a v ha ?_
         rw[show o+y1.2+(i-as.length)=o+i by omega];exact hv
     · cases hy
   · cases hy
theorem mw (b o n:Nat):(at' b o).add n=at' b (o+n):=by
 unfold Addr.add at'
 split
 · rename_i h;rw[h];rfl
 · rfl
theorem lM {a:Addr} {v:Value} (h:W.cell? a=some v):a=at' a.block a.off:=by
 unfold World.cell? at h
 cases hs:a.spot with
 |none=>cases a;simp at hs;subst hs;rfl
 | some k =>
   rw[hs]at h
   split at h
   · simp at h
   · cases h
theorem nE : ∀ (m : Nat) (t : TypeId) (y : Ty × Nat), kg P m t = some y → ∀ (n : Nat) (cs : List Value) (x : DataW H × List MemPlace), DataW.trod enc P W 0 (fun _ => true) true n t cs = some x →
 (∀k∈x.1.weights P t,k≤B)→∃as,Sh B y.1 as∧as.length=y.2∧Rel L W as cs
 |0,t,y,hy,n,cs,x,hx,hw=>by cases hy
 | m + 1, t, y, hy, n, cs, x, hx, hw => by
   unfold kg at hy
   split at hy
   · rename_i hu
     obtain rfl:=u6 hy
     obtain⟨b,rfl,rfl⟩:=DataW.trod_bool hu hx
     exact⟨_,.bool b,rfl,rfl,fun i a v ha hv=>by
      match i,ha,hv with
      |0,ha,hv=>simp at ha hv;subst ha;subst hv;exact .bool b⟩
   · rename_i k hu
     obtain rfl:=u6 hy
     obtain⟨z,rfl,rfl,hz⟩:=DataW.trod_int hu hx
     exact⟨_,.int hz,rfl,rfl,fun i a v ha hv=>by
      match i,ha,hv with
      |0,ha,hv=>simp at ha hv;subst ha;subst hv;exact .int _ _⟩
   · rename_i hu
     obtain rfl:=u6 hy
     obtain⟨s,rfl,rfl,hz⟩:=DataW.trod_string hu hx
     refine⟨_,.str (s:=s) (hw _ ?_),rfl,rfl,fun i a v ha hv=>by
      match i,ha,hv with
      |0,ha,hv=>simp at ha hv;subst ha;subst hv;exact .str _⟩
     simp [DataW.weights]
   · rename_i e hu
     obtain⟨y1,h1,hy⟩:=u5.1 hy
     split at hy
     · rename_i hc
       obtain⟨hz,hc⟩:=hc
       obtain rfl:=u6 hy
       rcases DataW.trod_slice hu hx with ⟨rfl,rfl⟩|⟨a,len,cap,elems,rest,n',rfl,rfl,rfl,-,hl,hm,hlen,hel,hsp,-⟩
       · exact⟨_,.aP,rfl,rfl,fun i a v ha hv=>by
          match i,ha,hv with
          |0,ha,hv=>simp at ha hv;subst ha;subst hv;exact .aP⟩
       · obtain⟨hrl,hr⟩:=hsp rfl
         simp only[DataW.weights,hu,List.length_map,vF,List.mem_append]at hw
         have ha:cap≠0→a=at' a.block a.off:=by
          intro h0
          have:∃cs,W.cells? 0 (a.add (0* P.cellsOf e)) (P.cellsOf e)=some cs:=by
           by_cases c:0<len
           · have:=hel 0 c
             obtain⟨q,hq⟩:∃q,elems[0]?=some q:=⟨elems[0],by simp [hlen,c]⟩
             rw[hq]at this
             obtain⟨c1,c2,_⟩:=u5.1 this
             exact⟨c1,c2⟩
           · have:=hr 0 (by omega)
             obtain⟨q,hq⟩:∃q,rest[0]?=some q:=⟨rest[0]'(by omega),by simp⟩
             rw[hq]at this
             obtain⟨c1,c2,_⟩:=u5.1 this
             exact⟨c1,by rw[show len+0=0 by omega]at c2;exact c2⟩
          obtain⟨c1,c2⟩:=this
          obtain⟨-,k1,k2⟩:=World.cells?_some c2
          have k3:=k2 0 (by omega)
          have:(a.add (0* P.cellsOf e)).add 0=a:=by simp [Addr.add]
          rw[this]at k3
          obtain⟨v,hv⟩:∃v,c1[0]?=some v:=⟨c1[0]'(by omega),by simp⟩
          rw[hv]at k3
          exact lM k3
         have each:∀i,i<len→∃as,(Sh B y1.1 as∧as.length=y1.2)∧∀j,j<y1.2→∃v,W.cell? (at' a.block (a.off+(i* y1.2+j)))=some v∧∀c,as[j]?=some c→VI L (gU W) c v:=by
          intro i hi
          obtain⟨q,hq⟩:∃q,elems[i]?=some q:=⟨elems[i]'(by omega),by simp⟩
          have h2:=hel i hi
          rw[hq]at h2
          obtain⟨c1,c2,c3⟩:=u5.1 h2
          obtain⟨as,s1,l1,r1,r2⟩:=nE m e y1 h1 n' c1 q c3 (fun k hk=>hw k (.inr (.inl (di (List.mem_map.2 ⟨q,vq hq,rfl⟩) k hk))))
          obtain⟨-,k1,k2⟩:=World.cells?_some c2
          refine⟨as,⟨s1,l1⟩,fun j hj=> ?_⟩
          have k3:=k2 j (by omega)
          have ea:=ha (by omega)
          generalize a.block=ab at *
          generalize a.off=ao at *
          subst ea
          rw[mw,mw,hc]at k3
          obtain⟨v,hv⟩:∃v,c1[j]?=some v:=⟨c1[j]'(by omega),by simp⟩
          rw[hv]at k3
          exact⟨v,by rw[←vk];exact k3,fun c hcc=>r2 j c v hcc hv⟩
         obtain⟨ess,le,he⟩:=nc len each
         have hzz:∀es∈ess,es.length=y1.2:=fun es hes=>by
          obtain⟨i,hi⟩:=List.getElem?_of_mem hes
          exact(he i es hi).1.2
         refine⟨_,.aV (b:=P.bytesOf e) ess (fun es hes=>by
          obtain⟨i,hi⟩:=List.getElem?_of_mem hes
          exact(he i es hi).1.1) hzz (vG (vp _ (by omega)) (hw _ (.inl rfl))),rfl,rfl,fun i c v hc' hv=> ?_⟩
         match i,hc',hv with
         | 0, hc', hv =>
           simp only[List.getElem?_cons_zero,vb]at hc' hv
           subst hc';subst hv
           have cell:∀(i:Nat) (c:AV),ess.flatten[i]?=some c→∃v,W.cell? (at' a.block (a.off+i))=some v∧VI L (gU W) c v:=by
            intro i c hi
            rw[fu hz ess hzz]at hi
            obtain⟨es,h3,h4⟩:=u5.1 hi
            obtain⟨v,h5,h6⟩:=(he _ es h3).2 (i%y1.2) (Nat.mod_lt _ hz)
            refine⟨v, ?_,h6 c h4⟩
            rw[Nat.mul_comm (i/y1.2),Nat.div_add_mod]at h5;exact h5
           rw[le]
           refine .aV (b:=a.block) (base:=a.off) (fun i=>(W.cell? (at' a.block (a.off+i))).getD default) (fun i c hi=> ?_) (fun i c hi=> ?_) hl (fun q=>ha q) ?_ (fun q=>by cases q)
           · obtain⟨v,h5,_⟩:=cell i c hi
             show W.cell? _=_
             rw[h5];rfl
           · obtain⟨v,h5,h6⟩:=cell i c hi
             rw[h5];exact h6
           · rw[fw ess hzz,le,vr];exact vp _ hl
     · cases hy
   · rename_i fs hu
     obtain⟨y1,h1,hy⟩:=u5.1 hy
     split at hy
     · rename_i hc
       obtain rfl:=u6 hy
       obtain⟨xs,n',rfl,rfl,hl,hxl,hf⟩:=DataW.trod_struct hu hx
       simp only[DataW.weights,hu]at hw
       obtain⟨as,s1,l1,q1⟩:=ik (cs:=cs) (fun t y h cs x hx hw=>nE m t y h n' cs x hx hw) fs.toList 0 xs y1 h1 (by simpa using hxl) (fun i f h=>hf i f (by simpa using h)) hw
       refine⟨as,.st s1,by show as.length=y1.2;omega,by omega,fun i a v ha hv=>q1 i a v ha (by rw[vr];exact hv)⟩
     · cases hy
   · cases hy
def jP:Ty×List AV→AV
 |(.st _,as)=>.agg as
 |(_,as)=>as.headD .bot
inductive fL (L:Lk) (W:World) (B:Nat):List Value→List (Ty×List AV)→Prop where
 |nil:fL L W B [] []
 |cons {v:Value} {vs:List Value} {x:Ty×List AV} {r:List (Ty×List AV)} (h1:Sh B x.1 x.2) (h2:V L (fun _=>none) (gU W) (jP x) v) (hr:fL L W B vs r):fL L W B (v::vs) (x::r)
def e9 (P:Program) (m:Nat):List TypeId→Option (List Ty)
 |[]=>some []
 |t::ts=>(kg P m t).bind fun y=>(e9 P m ts).map fun r=>y.1::r
theorem fJ {y:Ty} {as:List AV} {v:Value} (hy:∀fs,y≠.st fs) (h1:as.length=1) (hv:v.cells.toList=[v]) (h2:Rel L W as v.cells.toList):VI L (gU W) (jP (y,as)) v:=by
 match as,h1 with
 | [a], _ =>
   have:=h2.2 0 a v rfl (by rw[hv];rfl)
   cases y<;>first|exact this|exact absurd rfl (hy _)
theorem rF {fs:List Ty} {as:List AV} {cs:Array Value} (h2:Rel L W as (Value.agg cs).cells.toList):VI L (gU W) (jP (.st fs,as)) (.agg cs):=by
 have e:(Value.agg cs).cells.toList=cs.toList:=rfl
 rw[e]at h2
 have:Value.agg cs=.agg cs.toList.toArray:=by simp
 rw[this]
 exact .agg h2.1 h2.2
theorem su {m : Nat} {t : TypeId} {y : Ty × Nat} {as : List AV} {v : Value} {base : Nat} (hy : kg P m t = some y) (hl : as.length = y.2) (hv : Value.okWide P W .any base t v) (h2 : Rel L W as v.cells.toList) : VI L (gU W) (jP (y.1, as)) v := by
 cases m with
 |zero=>cases hy
 | succ m =>
   unfold kg at hy
   unfold Value.okWide at hv
   split at hy
   · rename_i hu
     obtain rfl:=u6 hy
     rw[hu]at hv
     unfold Cell.okWide Cell.ok at hv
     rw[hu]at hv
     cases v<;>first|exact hv.elim|exact fJ (by intro fs e;cases e) hl rfl h2
   · rename_i k hu
     obtain rfl:=u6 hy
     rw[hu]at hv
     unfold Cell.okWide Cell.ok at hv
     rw[hu]at hv
     cases v<;>first|exact hv.elim|exact fJ (by intro fs e;cases e) hl rfl h2
   · rename_i hu
     obtain rfl:=u6 hy
     rw[hu]at hv
     unfold Cell.okWide Cell.ok at hv
     rw[hu]at hv
     cases v<;>first|exact hv.elim|exact fJ (by intro fs e;cases e) hl rfl h2
   · rename_i e hu
     obtain⟨y1,h1,hy⟩:=u5.1 hy
     split at hy
     · obtain rfl:=u6 hy
       rw[hu]at hv
       unfold Cell.okWide Cell.ok at hv
       rw[hu]at hv
       cases v<;>first|exact hv.elim|exact fJ (by intro fs e;cases e) hl rfl h2
     · cases hy
   · rename_i fs hu
     obtain⟨y1,h1,hy⟩:=u5.1 hy
     split at hy
     · obtain rfl:=u6 hy
       rw[hu]at hv
       obtain⟨cs,rfl,_⟩:=hv
       exact rF h2
     · cases hy
   · cases hy
theorem kq {m base:Nat}:∀{ts:List TypeId} {vs:List Value} {ds:List (DataW H)} {ps:List MemPlace} {ys:List Ty},e9 P m ts=some ys→DataW.TrodAll enc P W 0 (fun _=>true) true ts vs ds ps→
 (∀(j:Nat) t v,ts[j]?=some t→vs[j]?=some v→Value.okWide P W .any base t v)→(∀k∈DataW.weightsEach P ts ds,k≤B)→∃r:List (Ty×List AV),r.map (·.1)=ys∧fL L W B vs r
 |[],[],[],ps,ys,hy,_,_,_=>by obtain rfl:=u6 hy;exact⟨[],rfl,.nil⟩
 | t :: ts, v :: vs, d :: ds, ps, ys, hy, ⟨p, q, ⟨n, h1⟩, h2, _⟩, hv, hw => by
   unfold e9 at hy
   obtain⟨y,g1,hy⟩:=u5.1 hy
   obtain⟨r,g2,rfl⟩:=u7.1 hy
   simp only[DataW.weightsEach,List.mem_append]at hw
   obtain⟨as,s1,l1,r1⟩:=nE (L:=L) m t y g1 n _ (d,p) h1 (fun k hk=>hw k (.inl hk))
   obtain⟨r',e,g3⟩:=kq g2 h2 (fun j t v a b=>hv (j+1) t v a b) (fun k hk=>hw k (.inr hk))
   exact⟨(y.1,as)::r',by rw[List.map_cons,e],.cons s1 (.au (su g1 l1 (hv 0 t v rfl rfl) r1)) g3⟩
 |[],_::_,_,_,_,_,h,_,_=>h.elim
 |[],[],_::_,_,_,_,h,_,_=>h.elim
 |_::_,[],_,_,_,_,h,_,_=>h.elim
 |_::_,_::_,[],_,_,_,h,_,_=>h.elim
theorem jf:∀{vs:List Value} {r:List (Ty×List AV)},fL L W B vs r→ax L tY (gU W) (r.map jP) vs∧∀x∈r,Sh B x.1 x.2
 |[],[],.nil=>⟨.nil,fun x h=>by cases h⟩
 | v :: vs, x :: r, .cons h1 h2 hr => by
   obtain⟨q1,q2⟩:=jf hr
   exact⟨.cons h2 q1,fun y hy=>by
    rcases vF.1 hy with rfl|hy
    · exact h1
    · exact q2 y hy⟩
theorem jd {W':World} (hl:laidOutB P=true) (hb:Below W.heap.size W W'):∀{ts:List TypeId} {vs:List Value} {ds:List (DataW H)} {ps:List MemPlace},
 ts.all (fun t=>P.readableRec t&&decide (t<P.types.size))=true→DataW.TrodAll enc P W 0 (fun _=>true) true ts vs ds ps→(∀x∈ps,x.block<W.heap.size)→DataW.TrodAll enc P W' 0 (fun b=>decide (b<W.heap.size)) true ts vs ds ps
 |[],[],[],_,_,h,_=>h
 | t :: ts, v :: vs, d :: ds, ps, ht, ⟨p, q, h1, h2, hp⟩, hlt => by
   subst hp
   simp only[List.all_cons,vn,decide_eq_true_eq]at ht
   exact⟨p,q,Below.trod hl ht.1.1 ht.1.2 h1 hb (fun x hx=>hlt x (List.mem_append_left _ hx)),jd hl hb ht.2 h2 (fun x hx=>hlt x (List.mem_append_right _ hx)),rfl⟩
 |[],_::_,_,_,_,h,_=>h.elim
 |[],[],_::_,_,_,h,_=>h.elim
 |_::_,[],_,_,_,h,_=>h.elim
 |_::_,_::_,[],_,_,h,_=>h.elim
end
theorem tX {C : Checked} {L : Lk} {A : a8} (lk : ei L A) (hP : L.P = C.prog) {f : FuncId} {fn : Func} {key : Nat} (hm : L.mf f = some key) {tys : List Ty} {m : Nat} (hty : e9 C.prog m fn.params.toList = some tys)
 (hl:laidOutB C.prog=true) (hread:fn.params.toList.all (fun t=>C.prog.readableRec t&&decide (t<C.prog.types.size))=true) {tb:TypeId} (hrt:fn.resultTypes= #[tb]) (hb:C.prog.underlying tb=some .bool)
 {s:ChangeSpec} (hvars:s.vars=[]) (hspec:∀(H:Type) (ds:List (DataW H)),ds.length=tys.length→s.fn H ds={results:=[.lit (.bool true)],args:=ds})
 (law:∀r:List (Ty×List AV),r.map (·.1)=tys→(∀x∈r,Sh reachBytes x.1 x.2)→aR A key (r.map jP) H.empty=some (.bool true,H.empty))
 {H:Type} {enc:TypeId×Value→H} {W:World} {base:Nat} {args:Array Value} {ds gs:List (DataW H)} {before:List MemPlace}
 (hval:∀(j:Nat) t v,fn.params[j]?=some t→args[j]?=some v→Value.okWide C.prog W .any base t v)
 (hW:DataW.Whole enc C.prog fn.params.toList s.vars false W args.toList ds gs before)
 (hsz:(DataW.weightsEach C.prog (fn.params.toList++s.plain.varTypes C.prog) (ds++gs)).all (· ≤reachBytes)=true):
 Calls C.prog f args W fun e W'=>∃v,e=.returned v∧s.post enc C.prog fn false true false false W args v W':=by
 have hW':=hW
 obtain⟨p,q,hA,hV,rfl,hfz,hnd⟩:=hW
 rw[hvars]at hV
 obtain⟨rfl,rfl⟩:=trodVars_none hV
 have hw:∀k∈DataW.weightsEach C.prog fn.params.toList ds,k≤reachBytes:=by
  intro k hk
  have hv0:s.plain.varTypes C.prog=[]:=by
   have:s.plain.vars=[]:=hvars
   unfold DataSpec.varTypes;rw[this];rfl
  rw[hv0,List.append_nil,List.append_nil]at hsz
  simpa using List.all_eq_true.1 hsz k hk
 obtain⟨r,hr,hs⟩:=kq (L:=L) (base:=base) hty hA (fun j t v a b=>hval j t v (by simpa using a) (by simpa using b)) hw
 obtain⟨hrow,hsh⟩:=jf hs
 have hlen:ds.length=tys.length:=by
  have a1:∀{ts:List TypeId} {vs:List Value} {ds:List (DataW H)} {ps:List MemPlace},DataW.TrodAll enc C.prog W 0 (fun _=>true) true ts vs ds ps→ds.length=ts.length:=by
   intro ts
   induction ts with
   |nil=>intro vs ds ps h;cases vs<;>cases ds<;>first|rfl|exact h.elim
   |cons t ts ih=>intro vs ds ps h;cases vs<;>cases ds<;>first|exact h.elim|(obtain⟨_,_,_,h2,_⟩:=h;simp [ih h2])
  have a2:∀{ts:List TypeId} {ys:List Ty},e9 C.prog m ts=some ys→ys.length=ts.length:=by
   intro ts
   induction ts with
   |nil=>intro ys h;obtain rfl:=u6 h;rfl
   | cons t ts ih =>
     intro ys h
     unfold e9 at h
     obtain⟨y,_,h⟩:=u5.1 h
     obtain⟨z,g2,rfl⟩:=u7.1 h
     simp [ih g2]
  rw[a1 hA,a2 hty]
 have key:=lL lk (f:=key) (fid:=f) (args:=r.map jP) (vals:=args.toList) (M:=gU W) (W:=W) hm (fun _ _ _ h=>h) (law r hr hsh) hrow
 rw[hP]at key
 have ea:args.toList.toArray=args:=by simp
 rw[ea]at key
 simp only[List.append_nil]at hW'
 refine key.mono fun e W' ⟨he,hb'⟩=> ?_
 subst he
 have e1:=hspec H (ds++[]) (by simpa using hlen)
 refine⟨_,rfl,lI (pa:=p) (pv:=[]) hW' hb' hrt (fun _ _ _=>shut_bool hb true) (by rw[e1]) (by rw[e1];simpa using jd hl hb' hread hA (fun x hx=>by simpa using hW'.lt x hx)) ?_⟩
 rw[e1,hvars];rfl
theorem tO {α β:Type} {x y:Option α} (f:α→Option β) (h:x=y):x.bind f=y.bind f:=by rw[h]
@[simp] theorem tw (t : Nat) : look [] t = .bot := rfl
@[simp] theorem rX (s t : Nat) (v : AV) (r : Env) : look ((s, v) :: r) t = if s = t then v else look r t := rfl
@[simp] theorem rY (e : Env) : ay e [] = [] := rfl
@[simp] theorem rG (e : Env) (t : Nat) (r : List Nat) : ay e (t :: r) = (t, look e t) :: ay e r := rfl
@[simp] theorem uX (e : Env) (n : Nat) : (X.t n).ev e = look e n := rfl
@[simp] theorem uW (e : Env) (v : AV) : (X.c v).ev e = v := rfl
@[simp] theorem qp (agg : Bool) (n id off : Nat) (h : H) : bQ agg n (.aD id off) h = (h.get id).bind fun cs => gW agg n cs off := rfl
@[simp] theorem qo (agg : Bool) (n off : Nat) (cs : List AV) (h : H) : bQ agg n (.aK cs off) h = gW agg n cs off := rfl
@[simp] theorem pQ (n id off : Nat) (v : AV) (h : H) : cQ n (.aD id off) v h = (h.get id).bind fun cs =>
 if h.floor≤id∧v.cells.length=n∧off+n≤cs.length∧AV.aC v.cells=true then some (h.set id (setFrom cs off v.cells))else none:=rfl
@[simp] theorem uQ (n : Nat) (cs : List AV) (off : Nat) : gW false n cs off = cs[off]? := rfl
section
variable (k:IntKind) (a b:Int)
@[simp] theorem lW : bj .add (.int k a) (.int k b) = some (.int k (k.wrap (a + b))) := by simp [bj, a9]
@[simp] theorem mq : bj .sub (.int k a) (.int k b) = some (.int k (k.wrap (a - b))) := by simp [bj, a9]
@[simp] theorem mh : bj .mul (.int k a) (.int k b) = some (.int k (k.wrap (a * b))) := by simp [bj, a9]
@[simp] theorem mg : bj .lss (.int k a) (.int k b) = some (.bool (decide (a < b))) := by simp [bj, a9]
@[simp] theorem me : bj .leq (.int k a) (.int k b) = some (.bool (decide (a ≤ b))) := by simp [bj, a9]
@[simp] theorem md : bj .gtr (.int k a) (.int k b) = some (.bool (decide (a > b))) := by simp [bj, a9]
@[simp] theorem lZ : bj .geq (.int k a) (.int k b) = some (.bool (decide (a ≥ b))) := by simp [bj, a9]
@[simp] theorem lY : bj .eql (.int k a) (.int k b) = some (.bool (a == b)) := by simp [bj, a9]
@[simp] theorem mo : bj .neq (.int k a) (.int k b) = some (.bool (a != b)) := by simp [bj, a9]
@[simp] theorem lX : bj .and (.int k a) (.int k b) = some (.int k (bits .and k a b)) := by simp [bj, a9]
@[simp] theorem nO : bj .or (.int k a) (.int k b) = some (.int k (bits .or k a b)) := by simp [bj, a9]
@[simp] theorem mu : bj .xor (.int k a) (.int k b) = some (.int k (bits .xor k a b)) := by simp [bj, a9]
theorem sg (h:b≠0):bj .quo (.int k a) (.int k b)=some (.int k (k.wrap (a.tdiv b))):=by simp [bj,a9,h]
theorem sh (h:b≠0):bj .rem (.int k a) (.int k b)=some (.int k (a.tmod b)):=by simp [bj,a9,h]
end
@[simp] theorem kT (k : IntKind) (n : Int) : (AV.int k n).cells = [.int k n] := rfl
@[simp] theorem jS (b : Bool) : (AV.bool b).cells = [.bool b] := rfl
@[simp] theorem kV (b : ByteArray) : (AV.str b).cells = [.str b] := rfl
@[simp] theorem jV (i o : Nat) : (AV.aD i o).cells = [.aD i o] := rfl
@[simp] theorem jW (i o l z : Nat) : (AV.aE i o l z).cells = [.aE i o l z] := rfl
@[simp] theorem jU : AV.aP.cells = [.aP] := rfl
@[simp] theorem jT : AV.cn.cells = [.cn] := rfl
@[simp] theorem kS (c : List AV) : (AV.agg c).cells = c := rfl
@[simp] theorem rS : AV.aC [] = true := rfl
@[simp] theorem qn (v : AV) (r : List AV) : AV.aC (v :: r) = (v.sc && AV.aC r) := rfl
@[simp] theorem qe (cs : List AV) (off : Nat) : setFrom cs off [] = cs := rfl
@[simp] theorem pE (cs : List AV) (off : Nat) (v : AV) (r : List AV) : setFrom cs off (v :: r) = setFrom (cs.set off v) (off + 1) r := rfl
@[simp] theorem rM (k : IntKind) (n : Int) : (AV.int k n).sc = true := rfl
@[simp] theorem pr (b : Bool) : (AV.bool b).sc = true := rfl
@[simp] theorem rN (b : ByteArray) : (AV.str b).sc = true := rfl
@[simp] theorem pC (i o : Nat) : (AV.aD i o).sc = true := rfl
@[simp] theorem pD (i o l z : Nat) : (AV.aE i o l z).sc = true := rfl
@[simp] theorem py : AV.aP.sc = true := rfl
@[simp] theorem px : AV.cn.sc = true := rfl
@[simp] theorem qb (d : Nat) (v : AV) (e : Env) : aM (some d) v e = (d, v) :: e := rfl
@[simp] theorem p9 (v : AV) (e : Env) : aM none v e = e := rfl
@[simp] theorem qf (call : ah) (ops : List ak) (e : Env) (gs : List H) : aZ call ops e gs [] = true := rfl
@[simp] theorem qk (off id o : Nat) : fh off (.aD id o) = some (.aD id (o + off)) := rfl
@[simp] theorem qj (off o : Nat) (c : List AV) : fh off (.aK c o) = some (.aK c (o + off)) := rfl
@[simp] theorem pO (n sz id off : Nat) (i : AV) : cP n sz (.aD id off) i = (cN i n).bind fun j => some (.aD id (off + j * sz)) := rfl
@[simp] theorem pN (n sz off : Nat) (c : List AV) (i : AV) : cP n sz (.aK c off) i = (cN i n).bind fun j => some (.aK c (off + j * sz)) := rfl
noncomputable def Lp (A:a8) (wV:List Nat) (c:aG) (e:Env) (h:H):dz:=bq (fun e h=>aL (aR A) bq c (ay e wV) h) e h
theorem sG (A:a8) (wV:List Nat) (c:aG) (e:Env) (h:H):aL (aR A) bq (.loop wV c) e h=Lp A wV c e h:=rfl
theorem tN {A:a8} {wV:List Nat} {c:aG} {e e':Env} {h h':H} {r} (h1:aL (aR A) bq c (ay e wV) h=some (.normal,e',h')) (h2:Lp A wV c e' h'=some r):Lp A wV c e h=some r:=jw h1 h2
theorem tM {A:a8} {wV:List Nat} {c:aG} {e e':Env} {h h':H} {i:Nat} (h1:aL (aR A) bq c (ay e wV) h=some (.exit i,e',h')):Lp A wV c e h=some (.exit i,e',h'):=j4 h1
theorem uh {A:a8} {wV:List Nat} {c:aG} {e e':Env} {h h':H} (h1:aL (aR A) bq c (ay e wV) h=some (.ret,e',h')):Lp A wV c e h=some (.ret,e',h'):=lz h1
theorem uR {c:ah} {l:bH} {a b:aG} {e e1:Env} {h h1:H} {r} (h1':aL c l a e h=some (.normal,e1,h1)) (h2:aL c l b e1 h1=some r):aL c l (.seq a b) e h=some r:=by
 simp only[aL,h1',vi];exact h2
theorem uT {c:ah} {l:bH} {a b:aG} {e e1:Env} {h h1:H} {i:Nat} (h1':aL c l a e h=some (.exit i,e1,h1)):aL c l (.seq a b) e h=some (.exit i,e1,h1):=by
 simp only[aL,h1',vi]
theorem uS {c:ah} {l:bH} {a b:aG} {e e1:Env} {h h1:H} (h1':aL c l a e h=some (.ret,e1,h1)):aL c l (.seq a b) e h=some (.ret,e1,h1):=by
 simp only[aL,h1',vi]
theorem qt {A:a8} {id:Nat} {k wV:List Nat} {c:aG} {e e1:Env} {h h1:H} (hl:Lp A wV c e h=some (.exit id,e1,h1)):aL (aR A) bq (.block id (.loop wV c) k) e h=some (.normal,ay e1 k,h1):=by
 simp only[aL,u5]
 exact⟨_,hl,by simp⟩
theorem uz {A:a8} {f:Nat} {fn:fg} {args:List AV} {h h2:H} {e:Env} {vs:List AV} {v:AV} (hf:A f=some fn) (hnp:args.length=fn.np) (hp:fn.pure=true)
 (hx:aL (aR A) bq fn.body (params 0 args) h.dN=some (.ret,e,h2)) (hres:cw e h2 fn.res=some vs) (hs:snap h2.get h.next 16 true (dh vs)=some v):aR A f args h=some (v,h):=by
 refine kE hf ?_
 unfold e5
 rw[if_pos hnp]
 simp only[hp,if_true,hx,vi,fin,hres,gN,hs]
theorem tZ {A:a8} {f:Nat} {fn:fg} {args:List AV} {h h2:H} {e:Env} {vs:List AV} (hf:A f=some fn) (hnp:args.length=fn.np) (hp:fn.pure=false)
 (hx:aL (aR A) bq fn.body (params 0 args) h=some (.ret,e,h2)) (hres:cw e h2 fn.res=some vs):aR A f args h=some (dh vs,h2):=by
 refine kE hf ?_
 unfold e5
 rw[if_pos hnp]
 simp [hp,hx,fin,hres]
theorem fY {c:ah}:∀(os:List ak) (e:Env) (h:H),aw c os e h=(aN c os e h).bind fun r=>some (r.1,r.2.1)
 |[],_,_=>rfl
 | o :: os, e, h => by
   simp only[aw,aN]
   cases hv:aj c o e h with
   |none=>rfl
   | some r =>
     simp only[vi]
     rw[fY os]
     cases aN c os (aM o.dst r.1 e) r.2<;>rfl
section
variable (c:ah) (l:bH) (e:Env) (h:H)
theorem tQ (ops:List ak) (wV:List Nat):aL c l (.pd ops wV) e h=(aw c ops e h).bind fun r=>some (.normal,ay r.1 wV,r.2):=by rw[aL]
theorem kX (ord:List Nat) (ops:List ak) (wV:List Nat):aL c l (.iP ord ops [] wV) e h=(aw c ops e h).bind fun r=>some (.normal,ay r.1 wV,r.2):=by
 rw[fY]
 simp only[aL]
 cases aN c ops e h<;>simp
theorem tR (a b:aG):aL c l (.seq a b) e h=(aL c l a e h).bind fun r=>match r with|(.normal,e',h')=>aL c l b e' h'|r=>some r:=by rw[aL];rfl
theorem sF (x:X) (a b:aG) (wV:List Nat):aL c l (.cond x a b wV) e h=match x.ev e with
 | .bool t=>(if t then aL c l a e h else aL c l b e h).bind fun r=>match r with|(.normal,e',h')=>some (.normal,ay e' wV,h')|r=>some r
 |_=>none:=by rw[aL];rfl
theorem rU (id:Nat) (x:aG) (wV:List Nat):aL c l (.block id x wV) e h=(aL c l x e h).bind fun r=>match r with
 |(.normal,e',h')=>some (.normal,ay e' wV,h')
 |(.exit j,e',h')=>if j=id then some (.normal,ay e' wV,h')else some (.exit j,e',h')
 |(.ret,e',h')=>some (.ret,e',h'):=by rw[aL];rfl
theorem mX:aL c l .skip e h=some (.normal,e,h):=by rw[aL]
theorem nZ:aL c l .ret e h=some (.ret,e,h):=by rw[aL]
theorem mV (i:Nat):aL c l (.exit i) e h=some (.exit i,e,h):=by rw[aL]
end
def I (n:Int):AV:=.int .i64 n
theorem ud {n:Int} (h1: -9223372036854775808≤n) (h2:n<9223372036854775808):IntKind.wrap .i64 n=n:=by
 have e:IntKind.wrap .i64 n=if n%18446744073709551616≥9223372036854775808 then n%18446744073709551616-18446744073709551616 else n%18446744073709551616:=by
  simp [IntKind.wrap,IntKind.bits,IntKind.signed]
 rw[e];split<;>omega
def nK (n:Nat) (C:Nat→AV):List AV:=(List.range n).map C
def uF (C:Nat→AV) (i:Nat) (v:AV):Nat→AV:=fun j=>if j=i then v else C j
@[simp] theorem rO (n : Nat) (C : Nat → AV) : (nK n C).length = n := by simp [nK]
theorem fK {n:Nat} {C:Nat→AV} {i:Nat} (h:i<n):(nK n C)[i]?=some (C i):=by simp [nK,h]
@[simp] theorem qg {n : Nat} {C : Nat → AV} {i : Nat} (h : i < (nK n C).length) : (nK n C)[i] = C i := by simp [nK]
theorem uc {n:Nat} {C:Nat→AV} {i:Nat} (h:i<n) (v:AV):(nK n C).set i v=nK n (uF C i v):=by
 apply List.ext_getElem?
 intro j
 by_cases hj:j<n
 · by_cases e:j=i
   · subst e;rw[vC (by simpa using hj),fK hj];simp [uF]
   · rw[List.getElem?_set_ne (by omega),fK hj,fK hj];simp [uF,e]
 · rw[List.getElem?_eq_none (by simp;omega),List.getElem?_eq_none (by simp;omega)]
theorem ua {n:Nat} {C:Nat→AV} {i k:Nat} (h:i<n):gW false k (nK n C) i=some (C i):=fK h
def ints (l:List Int):List AV:=l.map I
@[simp] theorem pY (l : List Int) : (ints l).length = l.length := by simp [ints]
theorem tu {l:List Int} {i:Nat} {x:Int} (h:l[i]?=some x):(ints l)[i]?=some (I x):=by simp [ints,h]
theorem jK:∀l:List Int,AV.aC (ints l)=true
 |[]=>rfl
 |x::l=>by simp [ints,AV.aC,I,AV.sc];exact jK l
theorem pX (a b:List Int):ints (a++b)=ints a++ints b:=by simp [ints]
def Rd (h:H) (v:AV) (cs:List AV):Prop:=aS h 1 v=some (cs.length,cs)∧∀s,v≠.str s
theorem Rd.len {h:H} {v:AV} {cs:List AV} (r:Rd h v cs):jc false v=some (I cs.length):=by
 obtain⟨r,hs⟩:=r
 unfold aS at r
 split at r
 · obtain⟨h1,h2⟩:=u9 (u6 r);subst h2;rfl
 · exact absurd rfl (hs _)
 · split at r
   · simp only[u5]at r
     obtain⟨c,_,r⟩:=r
     split at r
     · obtain⟨h1,h2⟩:=u9 (u6 r);simp [jc,I,h1]
     · cases r
   · cases r
 · split at r
   · split at r
     · obtain⟨h1,h2⟩:=u9 (u6 r);simp [jc,I,h1]
     · cases r
   · cases r
 · cases r
theorem Rd.mono {h g:H} {v:AV} {cs:List AV} (r:Rd h v cs) (hg:∀id c,h.get id=some c→g.get id=some c):Rd g v cs:=by
 obtain⟨r,hs⟩:=r
 refine⟨?_,hs⟩
 unfold aS at r ⊢
 split at r
 · exact r
 · exact r
 · split at r
   · rename_i q;simp only[if_pos q,u5]at r ⊢
     obtain⟨c,h1,r⟩:=r
     exact⟨c,hg _ _ h1,r⟩
   · cases r
 · exact r
 · cases r
theorem kj {i n:Nat} (h:i<n):cN (I i) n=some i:=by
 simp [cN,nR,I];omega
theorem Rd.elem {h : H} {v : AV} {cs : List AV} (r : Rd h v cs) {i : Nat} {c : AV} (hc : cs[i]? = some c) : ∃ p, fM 1 v (I i) = some p ∧ ∀ g : H, (∀ id c, h.get id = some c → g.get id = some c) → bQ false 1 p g = some c := by
 obtain⟨r,hs⟩:=r
 have hi:i<cs.length:=(vh.1 hc).1
 unfold aS at r
 split at r
 · obtain⟨h1,h2⟩:=u9 (u6 r);subst h2;simp at hi
 · exact absurd rfl (hs _)
 · rename_i id off len s
   split at r
   · rename_i q
     subst q
     simp only[u5]at r
     obtain⟨d,hd,r⟩:=r
     split at r
     · obtain⟨h1,h2⟩:=u9 (u6 r)
       refine⟨.aD id (off+i),by simp [fM,kj (h1 ▸ hi)],fun g hg=> ?_⟩
       simp only[bQ,hg _ _ hd,vi,gW,vj,vJ]
       rw[←h2,vH]at hc
       split at hc
       · rwa [vz]at hc
       · cases hc
     · cases r
   · cases r
 · rename_i t cells off len s
   split at r
   · rename_i q
     subst q
     split at r
     · obtain⟨h1,h2⟩:=u9 (u6 r)
       refine⟨.aK cells (off+i),by simp [fM,kj (h1 ▸ hi)],fun g hg=> ?_⟩
       simp only[bQ,gW,vj,vJ]
       rw[←h2,vH]at hc
       split at hc
       · rwa [vz]at hc
       · cases hc
     · cases r
   · cases r
 · cases r
def nJ (h:H) (v:AV) (cs:List AV):Prop:=(v=.aP∧cs=[])∨∃id,v=.aE id 0 cs.length 1∧h.get id=some cs∧h.floor≤id∧cs≠[]
theorem nJ.mono {h g:H} {v:AV} {cs:List AV} (o:nJ h v cs) (hf:g.floor=h.floor) (hg:∀i,v.id?=some i→g.get i=h.get i):nJ g v cs:=by
 rcases o with o|⟨id,rfl,h1,h2,h3⟩
 · exact .inl o
 · exact .inr ⟨id,rfl,by rw[hg id rfl];exact h1,by rw[hf];exact h2,h3⟩
theorem nJ.sc {h:H} {v:AV} {cs:List AV} (o:nJ h v cs):v.sc=true:=by
 rcases o with ⟨rfl,_⟩|⟨id,rfl,_⟩<;>rfl
theorem nJ.lt {h:H} {v:AV} {cs:List AV} (o:nJ h v cs) {i:Nat} (hi:v.id?=some i):i<h.next:=by
 rcases o with ⟨rfl,_⟩|⟨id,rfl,h1,_⟩
 · cases hi
 · obtain rfl:=u6 hi;exact h.lt _ _ h1
theorem nJ.app {h:H} {v:AV} {cs:List AV} (o:nJ h v cs) (hfn:h.floor≤h.next) {z:Nat} (c:AV) (hc:c.sc=true) (hr:roomy z (cs.length+1)=true):
 ∃v' h',dJ h 1 z v 1 [c]=some (v',h')∧nJ h' v' (cs++[c])∧h'.floor=h.floor∧h.next≤h'.next∧(∀i,v.id?≠some i→i≠h.next→h'.get i=h.get i)∧v'.id?=some h.next:=by
 have ha:AV.aC [c]=true:=by simp [AV.aC,hc]
 rcases o with ⟨rfl,rfl⟩|⟨id,rfl,hg,hf,hne⟩
 · refine⟨.aE h.next 0 1 1,h.alloc [c], ?_,.inr ⟨h.next,rfl,by simp [H.aW], ?_,by simp⟩,by simp,by simp,fun i _ hi=>by rw[H.aW,if_neg hi],rfl⟩
   · unfold dJ
     rw[if_neg (by omega),if_neg (by simp [ha])]
     simp only[List.length_nil,vr]at hr
     simp only[hr,if_true]
   · simp;omega
 · refine⟨.aE h.next 0 (cs.length+1) 1,(h.del id).alloc (cs++[c]), ?_,.inr ⟨h.next,by simp,by simp [H.aW], ?_,by simp⟩,by simp,by simp,fun i h1 h2=> ?_,rfl⟩
   · unfold dJ
     rw[if_neg (by omega),if_neg (by simp [ha])]
     simp only[hf,and_self,if_true,hg,vi]
     rw[if_neg (by omega),if_pos ⟨by omega,hr⟩]
     simp
   · have:=h.lt id cs hg;simp;omega
   · rw[H.aW,H.jx,if_neg h2,H.dQ,if_neg]
     intro e;subst e;exact h1 rfl
def dc (h:H) (p:Option AV):Option (AV×H):=p.bind fun v=>some (v,h)
theorem rH (h:H) (v:AV):dc h (some v)=some (v,h):=ve rfl rfl
def tJ (h:H) (neg:Bool) (p:Option Bool):Option (AV×H):=p.bind fun b=>some (pK neg b,h)
theorem rI (h:H) (neg b:Bool):tJ h neg (some b)=some (pK neg b,h):=ve rfl rfl
theorem tK (b:Bool):pK false b=.bool b:=ve rfl rfl
theorem tL (b:Bool):pK true b=.bool (!b):=ve rfl rfl
def rJ (p:Option H):Option (AV×H):=p.bind fun h=>some (.bot,h)
theorem rK (h:H):rJ (some h)=some (.bot,h):=ve rfl rfl
def nB (h:H) (a b:AV) (c:AV):Option (AV×H):=match c with| .bool t=>some (if t then a else b,h)|_=>none
theorem pc (h:H) (a b:AV):nB h a b (.bool true)=some (a,h):=ve rfl rfl
theorem pb (h:H) (a b:AV):nB h a b (.bool false)=some (b,h):=ve rfl rfl
def jz (h:H) (c:AV):Option (AV×H):=match c with| .aD i o=>some (.aD i o,h)| .aK c o=>some (.aK c o,h)| .fn f a b=>some (.fn f a b,h)| .iface t v=>some (.iface t v,h)|_=>none
theorem oF (h:H) (i o:Nat):jz h (.aD i o)=some (.aD i o,h):=ve rfl rfl
theorem oD (h:H) (c:List AV) (o:Nat):jz h (.aK c o)=some (.aK c o,h):=ve rfl rfl
theorem oC (h:H) (f:Nat) (a b:List AV):jz h (.fn f a b)=some (.fn f a b,h):=ve rfl rfl
theorem oE (h:H) (t:Nat) (v:AV):jz h (.iface t v)=some (.iface t v,h):=ve rfl rfl
def tA (h:H) (c:AV):Option (AV×H):=match c with| .bool b=>some (.bool (!b),h)|_=>none
theorem qV (h:H) (b:Bool):tA h (.bool b)=some (.bool (!b),h):=ve rfl rfl
def tz (h:H) (c:AV):Option (AV×H):=match c with| .int k n=>some (.int k (k.wrap (0-n)),h)|_=>none
theorem ux (h:H) (k:IntKind) (n:Int):tz h (.int k n)=some (.int k (k.wrap (0-n)),h):=ve rfl rfl
def tv (h:H) (c:AV):Option (AV×H):=match c with| .int k n=>some (.int k (bits .xor k (if k.signed then-1 else k.max) n),h)|_=>none
theorem uw (h:H) (k:IntKind) (n:Int):tv h (.int k n)=some (.int k (bits .xor k (if k.signed then-1 else k.max) n),h):=ve rfl rfl
def pS (h:H) (k:IntKind) (c:AV):Option (AV×H):=match c with| .int _ n=>some (.int k (k.wrap n),h)|_=>none
theorem nX (h:H) (j k:IntKind) (n:Int):pS h k (.int j n)=some (.int k (k.wrap n),h):=ve rfl rfl
def qc (h:H) (c:AV):Option (AV×H):=match c with| .str s=>some (.str s,h)|_=>none
theorem po (h:H) (s:ByteArray):qc h (.str s)=some (.str s,h):=ve rfl rfl
def sE (h:H) (neg:Bool) (a b:AV):Option (AV×H):=match a,b with| .bool a,.bool b=>some (pK neg (a==b),h)|_,_=>none
theorem uo (h:H) (neg a b:Bool):sE h neg (.bool a) (.bool b)=some (pK neg (a==b),h):=ve rfl rfl
def pV (h:H) (i:Nat) (v:AV):Option (AV×H):=match v with| .bM vs=>dc h (vs[i]?)|_=>none
theorem oe (h:H) (i:Nat) (vs:List AV):pV h i (.bM vs)=dc h (vs[i]?):=ve rfl rfl
def sJ (h:H) (agg:Bool) (off n:Nat) (v:AV):Option (AV×H):=match v with| .agg cs=>dc h (gW agg n cs off)|_=>none
theorem qH (h:H) (agg:Bool) (off n:Nat) (cs:List AV):sJ h agg off n (.agg cs)=dc h (gW agg n cs off):=ve rfl rfl
def nG (h:H) (t:Nat) (v:AV):Option (AV×H):=match v with| .iface u v=>if u=t then some (v,h)else none|_=>none
theorem pI (h:H) (t:Nat) (v:AV):nG h t (.iface t v)=some (v,h):=by simp [nG]
def kD (c:ah) (args:List AV) (h:H) (f:AV):Option (AV×H):=match f with| .fn k first captured=>c k (first++args++captured) h|_=>none
theorem nV (c:ah) (args:List AV) (h:H) (k:Nat):kD c args h (.fn k [] [])=c k args h:=by simp [kD]
theorem mQ (c:ah) (args:List AV) (h:H) (k:Nat) (f g:List AV):kD c args h (.fn k f g)=c k (f++args++g) h:=ve rfl rfl
def eE (h:H) (p:Option (List AV×(Nat→AV))):Option (AV×H):=p.bind fun b=>some (b.2 h.next,h.alloc b.1)
theorem mL (h:H) (cs:List AV) (f:Nat→AV):eE h (some (cs,f))=some (f h.next,h.alloc cs):=ve rfl rfl
def sq (h:H) (p:Option (List AV)):Option (AV×H):=p.bind fun cs=>some (.agg cs,h)
theorem qm (h:H) (cs:List AV):sq h (some cs)=some (.agg cs,h):=ve rfl rfl
def uj (h:H) (x:AV) (p:Option (Nat×List AV)):Option (AV×H):=p.bind fun q=>(kP q.2).bind fun l=>match x with| .str _=>none|_=>some (.str ⟨l.toArray⟩,h)
section
variable (c:ah) (e:Env) (h:H)
theorem tB (x:X):ai c e h (.mv x)=some (x.ev e,h):=ve rfl rfl
theorem oX (x a b:X):ai c e h (.pick x a b)=nB h (a.ev e) (b.ev e) (x.ev e):=ve rfl rfl
theorem gI (z:List AV):ai c e h (.alloc z)=eE h (aY e (.alloc z)):=ve rfl rfl
theorem iV (n:Nat) (x:X):ai c e h (.box n x)=eE h (aY e (.box n x)):=ve rfl rfl
theorem fE (a b:Nat) (z:List AV) (ps):ai c e h (.cD a b z ps)=eE h (aY e (.cD a b z ps)):=ve rfl rfl
theorem gV (a b:Nat) (z:List AV) (x y:X):ai c e h (.iR a b z x y)=eE h (aY e (.iR a b z x y)):=ve rfl rfl
theorem oI (x:X):ai c e h (.pk x)=eE h (aY e (.pk x)):=ve rfl rfl
theorem nh (z:List AV) (ps:List (Nat×Nat×X)):ai c e h (.build z ps)=sq h (dO z (ps.map fun p=>(p.1,p.2.1,p.2.2.ev e))):=ve rfl rfl
theorem oT (agg:Bool) (n:Nat) (p:X):ai c e h (.load agg n p)=dc h (bQ agg n (p.ev e) h):=ve rfl rfl
theorem nk (n:Nat) (p v:X):ai c e h (.store n p v)=rJ (cQ n (p.ev e) (v.ev e) h):=ve rfl rfl
theorem oW (x:X):ai c e h (.oB x)=jz h (x.ev e):=ve rfl rfl
theorem qY (o:Bo) (x y:X):ai c e h (.bin o x y)=dc h (bj o (x.ev e) (y.ev e)):=ve rfl rfl
theorem rh (k:Nat) (neg:Bool) (x y:X):ai c e h (.kW k neg x y)=tJ h neg (fC k (x.ev e) (y.ev e)):=ve rfl rfl
theorem rf (neg:Bool) (x y:X):ai c e h (.sD neg x y)=sE h neg (x.ev e) (y.ev e):=ve rfl rfl
theorem ru (x:X):ai c e h (.not x)=tA h (x.ev e):=ve rfl rfl
theorem rq (x:X):ai c e h (.neg x)=tz h (x.ev e):=ve rfl rfl
theorem rj (x:X):ai c e h (.inv x)=tv h (x.ev e):=ve rfl rfl
theorem oK (k:IntKind) (x:X):ai c e h (.conv k x)=pS h k (x.ev e):=ve rfl rfl
theorem oY (x:X):ai c e h (.same x)=qc h (x.ev e):=ve rfl rfl
theorem qX (x:X):ai c e h (.kP x)=uj h (x.ev e) (aS h 1 (x.ev e)):=ve rfl rfl
theorem oV (t:Nat) (x:X):ai c e h (.oA t x)=if(x.ev e).sc then some (.iface t (x.ev e),h)else none:=ve rfl rfl
theorem oU (f:Nat) (a b:List X):ai c e h (.oz f a b)=some (.fn f (aX e a) (aX e b),h):=ve rfl rfl
theorem rD (x:X) (lo hi:Option X):ai c e h (.ub x lo hi)=dc h (nS (x.ev e) (lo.map (X.ev e)) (hi.map (X.ev e))):=ve rfl rfl
theorem tC (sz:Nat) (x:X) (lo hi mx:Option X):ai c e h (.sl sz x lo hi mx)=dc h (sx h sz (x.ev e) (lo.map (X.ev e)) (hi.map (X.ev e)) (mx.map (X.ev e))):=ve rfl rfl
theorem ry (n sz:Nat) (x:X) (lo hi:Option X):ai c e h (.rZ n sz x lo hi)=dc h (mJ h n sz (x.ev e) (lo.map (X.ev e)) (hi.map (X.ev e))):=ve rfl rfl
theorem oN (off:Nat) (x:X):ai c e h (.oh off x)=dc h (fh off (x.ev e)):=ve rfl rfl
theorem ri (agg:Bool) (off n:Nat) (x:X):ai c e h (.tS agg off n x)=sJ h agg off n (x.ev e):=ve rfl rfl
theorem oO (sz:Nat) (x i:X):ai c e h (.oj sz x i)=dc h (fM sz (x.ev e) (i.ev e)):=ve rfl rfl
theorem nj (n sz:Nat) (x i:X):ai c e h (.kH n sz x i)=dc h (cP n sz (x.ev e) (i.ev e)):=ve rfl rfl
theorem oQ (x i:X):ai c e h (.idxs x i)=dc h (mC (x.ev e) (i.ev e)):=ve rfl rfl
theorem oP (agg:Bool) (n sz:Nat) (x i:X):ai c e h (.oq agg n sz x i)=dc h (my agg n sz (x.ev e) (i.ev e)):=ve rfl rfl
theorem oM (x:X) (i:Nat):ai c e h (.n9 x i)=pV h i (x.ev e):=ve rfl rfl
def m0 (c:ah) (h:H) (t f:Nat) (d:Bool) (xs:List AV) (v:AV):Option (AV×H):=match v with| .iface u v=>if u=t then(hJ d v h).bind fun x=>c f (x::xs) h else none|_=>none
def qP (c:ah) (h:H) (f:Nat) (xs:List AV) (p:Option AV):Option (AV×H):=p.bind fun x=>c f (x::xs) h
theorem qQ (c:ah) (h:H) (f:Nat) (xs:List AV) (x:AV):qP c h f xs (some x)=c f (x::xs) h:=rfl
theorem qN (c:ah) (h:H) (t f:Nat) (xs:List AV) (v:AV):m0 c h t f false xs (.iface t v)=c f (v::xs) h:=by simp [m0,hJ]
theorem qO (c:ah) (h:H) (t f:Nat) (xs:List AV) (v:AV):m0 c h t f true xs (.iface t v)=qP c h f xs (bQ false 1 v h):=by simp [m0,hJ,qP]
theorem oZ (x:X) (t:Nat):ai c e h (.pH x t)=nG h t (x.ev e):=ve rfl rfl
theorem oR (r:X) (t f:Nat) (d:Bool) (xs:List X):ai c e h (.inv2 r t f d xs)=m0 c h t f d (aX e xs) (r.ev e):=ve rfl rfl
theorem oJ (f:X) (args:List X):ai c e h (.call f args)=kD c (aX e args) h (f.ev e):=ve rfl rfl
theorem qW (a b:Nat) (x y:X):ai c e h (.app a b x y)=kM h a b (x.ev e) (y.ev e):=ve rfl rfl
theorem oH (a b:Nat) (z:List AV) (x y:X):ai c e h (.jL a b z x y)=g8 h a b z (x.ev e) (y.ev e):=ve rfl rfl
theorem rk (s:Bool) (x:X):ai c e h (.len s x)=dc h (jc s (x.ev e)):=ve rfl rfl
theorem qZ (x:X):ai c e h (.cap x)=dc h (qi (x.ev e)):=ve rfl rfl
theorem oL (n:Nat) (x y:X):ai c e h (.copy n x y)=g9 h n (x.ev e) (y.ev e):=ve rfl rfl
theorem ni (n:Nat) (z:List AV) (x:X):ai c e h (.clear n z x)=rJ (ey h n z (x.ev e)):=ve rfl rfl
end
theorem mI (e:Env):aX e []=[]:=ve rfl rfl
theorem kN (e:Env) (x:X) (r:List X):aX e (x::r)=x.ev e::aX e r:=ve rfl rfl
def uq (c:ah) (d:Option Nat) (r:List ak) (e:Env) (p:Option (AV×H)):Option (Env×H):=p.bind fun q=>aw c r (aM d q.1 e) q.2
theorem sX (c:ah) (d:Option Nat) (r:List ak) (e:Env) (v:AV) (h:H):uq c d r e (some (v,h))=aw c r (aM d v e) h:=ve rfl rfl
def lj (w:Bool) (c:ah) (e:Env) (h:H) (op:bU) (g:AV):Option (AV×H):=match g with| .bool b=>if b=w then ai c e h op else some (.bM [],h)| .bM []=>some (.bM [],h)|_=>none
theorem qM (c:ah) (e:Env) (h:H) (op:bU):lj true c e h op (.bool true)=ai c e h op:=by simp [lj]
theorem qJ (c:ah) (e:Env) (h:H) (op:bU):lj false c e h op (.bool false)=ai c e h op:=by simp [lj]
theorem qL (c:ah) (e:Env) (h:H) (op:bU):lj true c e h op (.bool false)=some (.bM [],h):=by simp [lj]
theorem qK (c:ah) (e:Env) (h:H) (op:bU):lj false c e h op (.bool true)=some (.bM [],h):=by simp [lj]
theorem sQ (w:Bool) (c:ah) (e:Env) (h:H) (op:bU):lj w c e h op (.bM [])=some (.bM [],h):=by simp [lj]
theorem mY (c:ah) (d:Option Nat) (op:bU) (g:Nat) (w:Bool) (e:Env) (h:H):aj c ⟨d,op,some (g,w)⟩ e h=lj w c e h op (look e g):=by
 unfold aj lj
 dsimp only
 cases look e g with
 |bM vs=>cases vs<;>rfl
 |_=>rfl
theorem o0 (c:ah) (e:Env) (h:H):aw c [] e h=some (e,h):=ve rfl rfl
theorem tE (c:ah) (d:Option Nat) (op:bU) (r:List ak) (e:Env) (h:H):aw c (⟨d,op,none⟩::r) e h=uq c d r e (ai c e h op):=ve rfl rfl
theorem tD (c:ah) (d:Option Nat) (op:bU) (g:Nat) (w:Bool) (r:List ak) (e:Env) (h:H):aw c (⟨d,op,some (g,w)⟩::r) e h=uq c d r e (lj w c e h op (look e g)):=by
 rw[aw,mY];rfl
def uu (wV:List Nat) (p:Option (Env×H)):dz:=p.bind fun q=>some (.normal,ay q.1 wV,q.2)
theorem sY (wV:List Nat) (e:Env) (h:H):uu wV (some (e,h))=some (.normal,ay e wV,h):=ve rfl rfl
def tV (c:ah) (l:bH) (b:aG) (p:dz):dz:=p.bind fun r=>match r with|(.normal,e',h')=>aL c l b e' h'|r=>some r
theorem sZ (c:ah) (l:bH) (b:aG) (e:Env) (h:H):tV c l b (some (.normal,e,h))=aL c l b e h:=ve rfl rfl
theorem td (c:ah) (l:bH) (b:aG) (i:Nat) (e:Env) (h:H):tV c l b (some (.exit i,e,h))=some (.exit i,e,h):=ve rfl rfl
theorem tc (c:ah) (l:bH) (b:aG) (e:Env) (h:H):tV c l b (some (.ret,e,h))=some (.ret,e,h):=ve rfl rfl
def tU (wV:List Nat) (p:dz):dz:=p.bind fun r=>match r with|(.normal,e',h')=>some (.normal,ay e' wV,h')|r=>some r
theorem sU (wV:List Nat) (e:Env) (h:H):tU wV (some (.normal,e,h))=some (.normal,ay e wV,h):=ve rfl rfl
theorem sW (wV:List Nat) (i:Nat) (e:Env) (h:H):tU wV (some (.exit i,e,h))=some (.exit i,e,h):=ve rfl rfl
theorem sV (wV:List Nat) (e:Env) (h:H):tU wV (some (.ret,e,h))=some (.ret,e,h):=ve rfl rfl
def tT (c:ah) (l:bH) (a b:aG) (e:Env) (h:H) (t:AV):dz:=match t with| .bool t=>if t then aL c l a e h else aL c l b e h|_=>none
theorem sS (c:ah) (l:bH) (a b:aG) (e:Env) (h:H):tT c l a b e h (.bool true)=aL c l a e h:=ve rfl rfl
theorem sR (c:ah) (l:bH) (a b:aG) (e:Env) (h:H):tT c l a b e h (.bool false)=aL c l b e h:=ve rfl rfl
def qI (id:Nat) (wV:List Nat) (p:dz):dz:=p.bind fun r=>match r with
 |(.normal,e',h')=>some (.normal,ay e' wV,h')
 |(.exit j,e',h')=>if j=id then some (.normal,ay e' wV,h')else some (.exit j,e',h')
 |(.ret,e',h')=>some (.ret,e',h')
theorem sK (id:Nat) (wV:List Nat) (e:Env) (h:H):qI id wV (some (.normal,e,h))=some (.normal,ay e wV,h):=ve rfl rfl
theorem sN (id:Nat) (wV:List Nat) (e:Env) (h:H):qI id wV (some (.exit id,e,h))=some (.normal,ay e wV,h):=by simp [qI]
theorem sP {id j:Nat} (hj:j≠id) (wV:List Nat) (e:Env) (h:H):qI id wV (some (.exit j,e,h))=some (.exit j,e,h):=by simp [qI,hj]
theorem sM (id:Nat) (wV:List Nat) (e:Env) (h:H):qI id wV (some (.ret,e,h))=some (.ret,e,h):=ve rfl rfl
section
variable (c:ah) (l:bH) (e:Env) (h:H)
theorem r9 (ops:List ak) (wV:List Nat):aL c l (.pd ops wV) e h=uu wV (aw c ops e h):=by rw[aL];rfl
theorem nM (ord:List Nat) (ops:List ak) (wV:List Nat):aL c l (.iP ord ops [] wV) e h=uu wV (aw c ops e h):=by rw[kX];rfl
theorem se (a b:aG):aL c l (.seq a b) e h=tV c l b (aL c l a e h):=by rw[aL];rfl
theorem qh (x:X) (a b:aG) (wV:List Nat):aL c l (.cond x a b wV) e h=tU wV (tT c l a b e h (x.ev e)):=by
 rw[aL];unfold tT;cases hx:x.ev e with
 |bool t=>cases t<;>rfl
 |_=>rfl
theorem nL (id:Nat) (x:aG) (wV:List Nat):aL c l (.block id x wV) e h=qI id wV (aL c l x e h):=by rw[aL];rfl
end
theorem nf (t:Nat) (v:AV) (r:Env):look ((t,v)::r) t=v:=if_pos rfl
theorem ly {s t:Nat} (hst:s≠t) (v:AV) (r:Env):look ((s,v)::r) t=look r t:=if_neg hst
theorem sI (e:Env) (n:Nat):(X.t n).ev e=look e n:=ve rfl rfl
theorem sH (e:Env) (v:AV):(X.c v).ev e=v:=ve rfl rfl
theorem pf (e:Env) (t:Nat) (r:List Nat):ay e (t::r)=(t,look e t)::ay e r:=ve rfl rfl
theorem pg (e:Env):ay e []=[]:=ve rfl rfl
theorem tG (d:Nat) (v:AV) (e:Env):aM (some d) v e=(d,v)::e:=ve rfl rfl
theorem tF (v:AV) (e:Env):aM none v e=e:=ve rfl rfl
theorem nz (i:Nat):params i []=[]:=ve rfl rfl
theorem ny (i:Nat) (v:AV) (r:List AV):params i (v::r)=(i,v)::params (i+1) r:=ve rfl rfl
def uN (id off sz:Nat) (p:Option Nat):Option AV:=p.bind fun j=>some (.aD id (off+j* sz))
def uO (c:List AV) (off sz:Nat) (p:Option Nat):Option AV:=p.bind fun j=>some (.aK c (off+j* sz))
theorem te (id off sz j:Nat):uN id off sz (some j)=some (.aD id (off+j* sz)):=ve rfl rfl
theorem th (c:List AV) (off sz j:Nat):uO c off sz (some j)=some (.aK c (off+j* sz)):=ve rfl rfl
theorem oo (n sz id off:Nat) (i:AV):cP n sz (.aD id off) i=uN id off sz (cN i n):=ve rfl rfl
theorem om (n sz off:Nat) (c:List AV) (i:AV):cP n sz (.aK c off) i=uO c off sz (cN i n):=ve rfl rfl
theorem qG (off id o:Nat):fh off (.aD id o)=some (.aD id (o+off)):=ve rfl rfl
theorem qF (off o:Nat) (c:List AV):fh off (.aK c o)=some (.aK c (o+off)):=ve rfl rfl
def uP (agg:Bool) (n off:Nat) (p:Option (List AV)):Option AV:=p.bind fun cs=>gW agg n cs off
theorem tH (agg:Bool) (n off:Nat) (cs:List AV):uP agg n off (some cs)=gW agg n cs off:=ve rfl rfl
theorem qS (agg:Bool) (n id off:Nat) (h:H):bQ agg n (.aD id off) h=uP agg n off (h.get id):=ve rfl rfl
theorem qR (agg:Bool) (n off:Nat) (cs:List AV) (h:H):bQ agg n (.aK cs off) h=gW agg n cs off:=ve rfl rfl
theorem tI (n:Nat) (cs:List AV) (off:Nat):gW false n cs off=cs[off]?:=by simp [gW]
def uD (h:H) (id off n:Nat) (v:List AV) (p:Option (List AV)):Option H:=p.bind fun cs=>if h.floor≤id∧v.length=n∧off+n≤cs.length∧AV.aC v=true then some (h.set id (setFrom cs off v))else none
theorem pG (n id off:Nat) (v:AV) (h:H):cQ n (.aD id off) v h=uD h id off n v.cells (h.get id):=ve rfl rfl
theorem uU {h:H} {id off:Nat} {v:AV} {cs:List AV} (h1:h.floor≤id) (h2:off<cs.length) (h3:v.sc=true):uD h id off 1 [v] (some cs)=some (h.set id (cs.set off v)):=by
 simp only[uD,vi]
 rw[if_pos ⟨h1,rfl,h2,by simp [h3]⟩];rfl
theorem qB (i o:Nat):fC 0 (.aD i o) .cn=some false:=ve rfl rfl
theorem qz (c:List AV) (o:Nat):fC 0 (.aK c o) .cn=some false:=ve rfl rfl
theorem qA:fC 0 .cn .cn=some true:=ve rfl rfl
theorem qE (i o l z:Nat):fC 1 (.aE i o l z) .aP=some false:=ve rfl rfl
theorem qC (t:Bool) (c:List AV) (o l z:Nat):fC 1 (.aV t c o l z) .aP=some false:=ve rfl rfl
theorem qD:fC 1 .aP .aP=some true:=ve rfl rfl
theorem uI {a b:Int} (h:a=b):(a==b)=true:=by simp [h]
theorem uH {a b:Int} (h:a≠b):(a==b)=false:=by simp [h]
theorem uK {a b:Int} (h:a≠b):(a !=b)=true:=by simp [h]
theorem uJ {a b:Int} (h:a=b):(a !=b)=false:=by simp [h]
theorem uV (n:Int):I n=.int .i64 n:=rfl
theorem ot (s:ByteArray):jc true (.str s)=some (.int .i64 s.size):=ve rfl rfl
theorem uZ (n:Int):(I n).sc=true:=rfl
attribute [go_sem] qQ qN qO oR sX qM qJ qL qK sQ o0 tE tD sY sZ td tc sU sW sV sS sR sK sN sM sP r9 nM se qh nL mX nZ mV nf ly sI sH pf pg tG tF nz ny rH rI tK tL rK pc pb oF oD oC oE qV nX po oe qH pI nV mQ mL qm tB oX gI iV fE gV nh oT nk oW qY rh rf ru rq rj oK oY qX oV oU rD tC ry oN ri oO nj oQ oP oM oZ oJ qW oH rk qZ oL ni mI kN te th oo om qG qF tH qS qR tI pG kT jS kV jV jW jU jT kS rM pr rN pC pD py px ne_eq not_false_eq_true Nat.zero_add Nat.add_zero Nat.mul_one Bool.not_true Bool.not_false lW mq mh mg me md lZ lY mo lX nO mu gt_iff_lt ge_iff_le List.cons_append List.nil_append List.append_nil List.append_assoc qB qz qA qE qC qD ot decide_true decide_false List.length_cons List.length_nil List.set_cons_zero List.set_cons_succ List.getElem?_cons_zero List.getElem?_cons_succ
attribute [go_sem] Nat.reduceEqDiff reduceIte Nat.reduceAdd Nat.reduceMul Nat.reduceLT Nat.reduceLeDiff Int.reduceBEq Int.reduceBNe Int.reduceLT Int.reduceLE Int.reduceEq
end Ab
