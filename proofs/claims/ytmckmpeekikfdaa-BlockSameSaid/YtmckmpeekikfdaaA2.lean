/- Part A2. -/
import Derived.ProofKit
import Derived.SizedLaws
import Derived.Carry
import Derived.ChangeArms
import Derived.Attr
import Derived.Test.YtmckmpeekikfdaaA1
set_option linter.unusedSimpArgs false
set_option linter.unusedVariables false
namespace Ab
open Go RowKit
structure Z where
 i:Nat
 x:aj
 m:Nat
def gQ (o:Oper):List Nat:=(o.after.toList.filter (Region.binds .any)).map (·.on)
def j5:List Z→Nat→Option Nat
 |[],_=>none
 |z::r,e=>if z.i=e then some z.m else j5 r e
def iu (acc:List Z):List Nat→Option Nat
 |[]=>some 0
 |e::r=>(j5 acc e).bind fun m=>(iu acc r).bind fun m'=>some ((m|||2^e)|||m')
def nI (L:Lk) (nt:Nat) (ops:Array Oper):List Nat→List Z→Option (List Z)
 |[],_=>some []
 |i::r,acc=>(ops[i]?).bind fun o=>(br L nt ops o).bind fun x=>(iu acc (gQ o)).bind fun m=>(nI L nt ops r (⟨i,x,m⟩::acc)).bind fun zs=>some (⟨i,x,m⟩::zs)
def dI:List (Nat×List Nat)→Nat→List Nat
 |[],_=>[]
 |(q,ks)::r,p=>if q=p then ks else dI r p
def bI (fl:List Nat) (z y:Z):Bool:=
 decide (z.i≠y.i)&&((match z.x.dst with|none=>true|some d=>decide (y.x.dst≠some d)&&(!(y.x.tm.contains d)||y.m.testBit z.i))&&
 ((match y.x.dst with|none=>true|some d=> !(z.x.tm.contains d)||(y.m.testBit z.i&&fl.isEmpty))&&(!(z.x.op.aN&&y.x.op.aN)||y.m.testBit z.i)))
def dj (z:Z) (j:Nat):Nat→List Z→Bool
 |_,[]=>true
 |q,y::r=>if y.x.op.aN=true then((!(z.m.testBit y.i)||decide (q<j))&&(!(y.m.testBit z.i)||decide (j≤q)))&&dj z j (q+1) r else dj z j q r
def dP (zs:List Z) (fl:List Nat) (own n:Nat) (z:Z):Bool:=
 ((match z.x.dst with|none=> !z.x.op.aH&&fl.isEmpty|some d=> !(z.x.tm.contains d)||fl.isEmpty))&&
 (!(z.x.op.aH||z.x.op.reads)||(List.range (n+1)).all fun j=>j==own|| !dj z j 0 zs||fl.contains j)
def oT (all:List Z) (fl:List (Nat×List Nat)) (n:Nat):Nat→Nat→List Z→Bool
 |_,_,[]=>true
 |p,own,z::r=>dP all (dI fl p) own n z&&(r.all (bI (dI fl p) z)&&oT all fl n (p+1) (if z.x.op.aN=true then own+1 else own) r)
def j3 (L:Lk) (nt:Nat) (ops:Array Oper) (ord:List Nat) (fl:List (Nat×List Nat)):Option (List aj):=
 (nI L nt ops ord []).bind fun zs=>
 if ord.length=ops.size∧(List.range ops.size).all (ord.contains ·)=true∧oT zs fl (nl (zs.map (·.x))) 0 0 zs=true then some (zs.map (·.x))else none
theorem dO {L:Lk} {nt:Nat} {ops:Array Oper}:∀{ord:List Nat} {acc zs:List Z},nI L nt ops ord acc=some zs→zs.map (·.i)=ord∧∀z∈zs,∃o,ops[z.i]?=some o∧br L nt ops o=some z.x
 |[],_,_,h=>by obtain rfl:=ud h;exact⟨rfl,fun z hz=>by simp at hz⟩
 | i :: r, acc, zs, h => by
   simp only[nI,uc]at h
   obtain⟨o,h1,x,h2,m,h3,zs',h4,h5⟩:=h
   obtain rfl:=ud h5
   obtain⟨g1,g2⟩:=dO h4
   refine⟨by simp [g1],fun z hz=> ?_⟩
   rcases uO.1 hz with rfl|hz
   · exact⟨o,h1,h2⟩
   · exact g2 z hz
theorem g8:∀{acc:List Z} {e m:Nat},j5 acc e=some m→∃z∈acc,z.i=e∧z.m=m
 |[],_,_,h=>by cases h
 | z :: r, e, m, h => by
   unfold j5 at h
   split at h
   · rename_i q;exact⟨z,by simp,q,ud h⟩
   · obtain⟨y,hy,q⟩:=g8 h;exact⟨y,by simp [hy],q⟩
theorem cR {acc : List Z} : ∀ {es : List Nat} {m : Nat}, iu acc es = some m → (∀ e ∈ es, ∃ z ∈ acc, z.i = e) ∧ ∀ k, m.testBit k = true → ∃ e ∈ es, k = e ∨ ∃ z ∈ acc, z.i = e ∧ z.m.testBit k = true
 |[],m,h=>by obtain rfl:=ud h;exact⟨fun e he=>by simp at he,fun k hk=>by simp at hk⟩
 | e :: es, m, h => by
   simp only[iu,uc]at h
   obtain⟨m1,h1,m2,h2,h3⟩:=h
   obtain rfl:=ud h3
   obtain⟨g1,g2⟩:=cR h2
   obtain⟨z,hz,hz1,hz2⟩:=g8 h1
   refine⟨fun e' he=> ?_,fun k hk=> ?_⟩
   · rcases uO.1 he with rfl|he
     · exact⟨z,hz,hz1⟩
     · exact g1 e' he
   · rw[Nat.testBit_or,Nat.testBit_or,uK,uK]at hk
     rcases hk with (hk|hk)|hk
     · exact⟨e,List.mem_cons_self,.inr ⟨z,hz,hz1,hz2.symm ▸ hk⟩⟩
     · rw[Nat.testBit_two_pow]at hk
       exact⟨e,List.mem_cons_self,.inl (of_decide_eq_true hk).symm⟩
     · obtain⟨e',he',q⟩:=g2 k hk
       exact⟨e',by simp [he'],q⟩
def Cl (ops:Array Oper) (done:Nat→Prop):Prop:=∀i o,ops[i]?=some o→done i→∀e∈gQ o,done e
theorem fV {L : Lk} {nt : Nat} {ops : Array Oper} {done : Nat → Prop} (hcl : Cl ops done) : ∀ {ord : List Nat} {acc zs : List Z}, nI L nt ops ord acc = some zs →
 (∀z∈acc,done z.i→∀k,z.m.testBit k=true→done k)→∀z∈zs,done z.i→∀k,z.m.testBit k=true→done k
 |[],_,_,h,_=>by obtain rfl:=ud h;intro z hz;simp at hz
 | i :: r, acc, zs, h, ha => by
   simp only[nI,uc]at h
   obtain⟨o,h1,x,h2,m,h3,zs',h4,h5⟩:=h
   obtain rfl:=ud h5
   have hz:∀z∈((⟨i,x,m⟩:Z)::acc),done z.i→∀k,z.m.testBit k=true→done k:=by
    intro z hz hd k hk
    rcases uO.1 hz with rfl|hz
    · obtain⟨e,he,q⟩:=(cR h3).2 k hk
      have hde:=hcl i o h1 hd e he
      rcases q with rfl|⟨y,hy,hy1,hy2⟩
      · exact hde
      · exact ha y hy (hy1 ▸ hde) k hy2
    · exact ha z hz hd k hk
   intro z hzm
   rcases uO.1 hzm with rfl|hzm
   · exact hz _ (by simp)
   · exact fV hcl h4 hz z hzm
theorem hH {L : Lk} {nt : Nat} {ops : Array Oper} {done : Nat → Prop} : ∀ {ord : List Nat} {acc zs : List Z}, nI L nt ops ord acc = some zs → (∀ z ∈ acc, done z.i) → (∃ z ∈ zs, ¬ done z.i) → ∃ z ∈ zs, ¬ done z.i ∧ ∃ o, ops[z.i]? = some o ∧ ∀ e ∈ gQ o, done e
 |[],_,_,h,_,hx=>by obtain rfl:=ud h;obtain⟨z,hz,_⟩:=hx;simp at hz
 | i :: r, acc, zs, h, ha, hx => by
   simp only[nI,uc]at h
   obtain⟨o,h1,x,h2,m,h3,zs',h4,h5⟩:=h
   obtain rfl:=ud h5
   by_cases hd:done i
   · obtain⟨z,hz,hnd⟩:=hx
     have hz':z∈zs':=by
      rcases uO.1 hz with rfl|hz
      · exact absurd hd hnd
      · exact hz
     obtain⟨y,hy,q⟩:=hH h4 (fun y hy=>by
      rcases uO.1 hy with rfl|hy
      · exact hd
      · exact ha y hy) ⟨z,hz',hnd⟩
     exact⟨y,by simp [hy],q⟩
   · refine⟨⟨i,x,m⟩,by simp,hd,o,h1,fun e he=> ?_⟩
     obtain⟨z,hz,hze⟩:=(cR h3).1 e he
     exact hze ▸ ha z hz
theorem hX {all : List Z} {fl : List (Nat × List Nat)} {n : Nat} : ∀ {l : List Z} {p0 own : Nat}, oT all fl n p0 own l = true →
 (∀p z,l[p]?=some z→dP all (dI fl (p0+p)) (own+nl ((l.take p).map (·.x))) n z=true)∧∀p q z y,p<q→l[p]?=some z→l[q]?=some y→bI (dI fl (p0+p)) z y=true
 |[],_,_,_=>⟨fun p z h=>by simp at h,fun p q z y _ h=>by simp at h⟩
 | z0 :: l, p0, own, h => by
   simp only[oT,uw,List.all_eq_true]at h
   obtain⟨h1,h2,h3⟩:=h
   obtain⟨g1,g2⟩:=hX h3
   refine⟨fun p z hz=> ?_,fun p q z y hpq hz hy=> ?_⟩
   · cases p with
     |zero=>simp at hz;subst hz;simpa [nl]using h1
     | succ p =>
       have:=g1 p z (by simpa using hz)
       rw[show p0+1+p=p0+(p+1)by omega]at this
       rw[uE,List.map_cons,nl]
       cases hl:z0.x.op.aN with
       |true=>simp only[hl,if_true]at this ⊢;rw[←uu own 1];exact this
       |false=>simp only[hl,uq,uS]at this ⊢;rw[uC];exact this
   · cases q with
     |zero=>omega
     | succ q =>
       cases p with
       |zero=>simp at hz;subst hz;exact h2 y (uz (by simpa using hy))
       | succ p =>
         have:=g2 p q z y (by omega) (by simpa using hz) (by simpa using hy)
         rwa [show p0+1+p=p0+(p+1)by omega]at this
theorem dz {z : Z} {j : Nat} : ∀ {l : List Z} {q : Nat}, (∀ p y, l[p]? = some y → y.x.op.aN = true → (z.m.testBit y.i = true → q + nl ((l.take p).map (·.x)) < j) ∧ (y.m.testBit z.i = true → j ≤ q + nl ((l.take p).map (·.x)))) → dj z j q l = true
 |[],_,_=>rfl
 | y :: l, q, h => by
   unfold dj
   split
   · rename_i hl
     have h0:=h 0 y rfl hl
     simp only[List.take_zero,List.map_nil,nl,Nat.add_zero]at h0
     rw[uw,uw,uK,uK]
     refine⟨⟨?_, ?_⟩, ?_⟩
     · cases hb:z.m.testBit y.i with
       |false=>exact .inl rfl
       |true=>exact .inr (decide_eq_true (h0.1 hb))
     · cases hb:y.m.testBit z.i with
       |false=>exact .inl rfl
       |true=>exact .inr (decide_eq_true (h0.2 hb))
     · exact dz fun p x hx hxl=>by
        have:=h (p+1) x (by simpa using hx) hxl
        rw[uE,List.map_cons,nl,if_pos hl,←uu]at this
        exact this
   · rename_i hl
     exact dz fun p x hx hxl=>by
      have:=h (p+1) x (by simpa using hx) hxl
      rw[uE,List.map_cons,nl,if_neg hl,uC]at this
      exact this
theorem fh {call:ae} {ops:List aj} {e:Env} {gs:List H}:∀{fl:List (Nat×List Nat)},aY call ops e gs fl=true→∀p k,k∈dI fl p→bC call ops e gs p k=true
 |[],_,p,k,hk=>by simp [dI]at hk
 | (q, ks) :: r, h, p, k, hk => by
   simp only[aY,uw,List.all_eq_true]at h
   unfold dI at hk
   split at hk
   · rename_i e;subst e;exact h.1 k hk
   · exact fh h.2 p k hk
theorem bc (t:Nat):∀(l:List Nat) (e0 E:Env),look (l.map (fun s=>(s,look e0 s))++E) t=if t∈l then look e0 t else look E t
 |[],_,_=>by simp
 | s :: l, e0, E => by
   simp only[List.map_cons,List.cons_append,look]
   by_cases hs:s=t
   · subst hs;simp
   · rw[if_neg hs,bc t l e0 E]
     have:t∈s::l↔t∈l:=by simp [Ne.symm hs]
     by_cases ht:t∈l
     · rw[if_pos ht,if_pos (this.2 ht)]
     · rw[if_neg ht,if_neg (fun q=>ht (this.1 q))]
def qR (zs:List Z) (dn:Nat→Bool):List Nat:=zs.filterMap fun z=>if dn z.i then none else z.x.dst
def cut (zs:List Z) (dn:Nat→Bool) (e0 E:Env):Env:=(qR zs dn).map (fun s=>(s,look e0 s))++E
theorem bU {zs:List Z} {dn:Nat→Bool} {t:Nat}:t∈qR zs dn↔∃z∈zs,dn z.i=false∧z.x.dst=some t:=by
 unfold qR
 rw[List.mem_filterMap]
 constructor
 · rintro ⟨z,hz,h⟩
   split at h
   · cases h
   · rename_i q;exact⟨z,hz,by simpa using q,h⟩
 · rintro ⟨z,hz,h1,h2⟩
   exact⟨z,hz,by simp [h1,h2]⟩
end Ab
namespace Ab
open Go RowKit
section
variable {L:Lk} {w0:World}
theorem R.gw {ι:Io} {M:Mm} {h G:H} {w:World} (r:R L w0 ι M h w) (k:Gw h G):R L w0 ι M G w:=by
 have g:∀id cs l,G.get id=some cs→ι id=some l→h.get id=some cs:=fun id cs l a b=>by rw[k.get id (r.jG id l b)]at a;exact a
 exact⟨r.below,fun id l q=>Nat.lt_of_lt_of_le (r.jG id l q) k.nx,fun id cs l a b=>r.gu id cs l (g _ _ _ a b) b,fun id cs l a b=>r.own id cs l (g _ _ _ a b) b,fun id cs l a b=>r.val id cs l (g _ _ _ a b) b,
  fun i j cs cs' l l' a b c d=>r.fG i j cs cs' l l' (g _ _ _ a c) (g _ _ _ b d) c d,r.ar,fun b o v id cs l m a c=>r.gv b o v id cs l m (g _ _ _ a c) c⟩
theorem Gr.gw {h h2 G:H} {ι ι':Io} {M M':Mm} (a:Gr h ι M h2 ι' M') (k:Gw h2 G):Gr h ι M G ι' M':=⟨uP a.nx k.nx,a.io,a.mm,a.hU⟩
theorem jO {ι : Io} {M : Mm} {w : World} {call : ae} {nt : Nat} {ops : Array Oper} {i : Nat} {o : Oper} {x : aj} (hi : ops[i]? = some o) (hc : br L nt ops o = some x)
 {e:Env} {a:Act} (he:aZ L ι M e a.tmps) {h h':H} {v:AV} (hev:ai call x e h=some (v,h')) {K:Act→World→Prop} {Q:Exit→Act→World→Prop}
 (h1:bP L o.op=some x.op→ah call e h x.op=some (v,h')→o.wp L.P a w K Q) (h2:v=.bJ []→h'=h→K (a.put o.dst undef) w):wpOp L.P ops Q i K a w:=by
 obtain⟨hop,hdst,_,hg⟩:=bS hc
 unfold wpOp
 simp only[hi]
 unfold ai at hev
 rcases hg with ⟨hg1,hg2⟩|⟨j,want,t,hg1,ht,hg2⟩
 · rw[hg2]at hev
   have:Region.wanted o (yielded ops a.tmps)=true:=by simp [Region.wanted,hg1]
   rw[if_pos this]
   exact .inl (h1 hop hev)
 · rw [hg2] at hev
   simp only at hev
   split at hev
   · rename_i b hb
     have q1:=he t
     rw[hb]at q1
     have q2:=gY q1.bO
     have hy:yielded ops a.tmps j=some b:=by simp [yielded,ht,q2]
     split at hev
     · rename_i hbw
       have:Region.wanted o (yielded ops a.tmps)=true:=by simp [Region.wanted,hg1,hy,hbw]
       rw[if_pos this]
       exact .inl (h1 hop hev)
     · rename_i hbw
       have:¬Region.wanted o (yielded ops a.tmps)=true:=by simp [Region.wanted,hg1,hy,hbw]
       rw[if_neg this]
       obtain⟨q3,q4⟩:=uf (ud hev)
       exact h2 q3.symm q4.symm
   · rename_i hb
     have q1:=he t
     rw[hb]at q1
     have:¬Region.wanted o (yielded ops a.tmps)=true:=by simp [Region.wanted,hg1,dp ht q1]
     rw[if_neg this]
     obtain⟨q3,q4⟩:=uf (ud hev)
     exact h2 q3.symm q4.symm
   · cases hev
theorem dF {call:ae} {e:Env} {h h':H} {o:aj} {v:AV} (hl:o.op.aN=false) (hb:o.op.aH=false) (hev:ai call o e h=some (v,h')):h'=h:=by
 unfold ai at hev
 split at hev
 · exact bG hl hb hev
 · split at hev
   · split at hev
     · exact bG hl hb hev
     · exact(uf (ud hev)).2.symm
   · exact(uf (ud hev)).2.symm
   · cases hev
structure DH (L:Lk) (nt:Nat) (ops:Array Oper) (call:ae) (ord:List Nat) (zs:List Z) (fl:List (Nat×List Nat)) (e0:Env) (h0:H) (E:Env) (hN:H) (gs:List H):Prop where
 mz:nI L nt ops ord []=some zs
 len:ord.length=ops.size
 all:∀k,k<ops.size→k∈ord
 one:∀(p:Nat) (z:Z),zs[p]?=some z→dP zs (dI fl p) (nl ((zs.map (·.x)).take p)) (nl (zs.map (·.x))) z=true
 pair:∀(p q:Nat) (z y:Z),p<q→zs[p]?=some z→zs[q]?=some y→bI (dI fl p) z y=true
 ev:aM call (zs.map (·.x)) e0 h0=some (E,hN,gs)
 st:aY call (zs.map (·.x)) E gs fl=true
 nm:aP call
variable {nt:Nat} {ops:Array Oper} {call:ae} {ord:List Nat} {zs:List Z} {fl:List (Nat×List Nat)} {e0:Env} {h0:H} {E:Env} {hN:H} {gs:List H}
theorem DH.of {os:List aj} (hc:j3 L nt ops ord fl=some os) (hev:aM call os e0 h0=some (E,hN,gs)) (hst:aY call os E gs fl=true) (hn:aP call):∃zs,os=zs.map (·.x)∧DH L nt ops call ord zs fl e0 h0 E hN gs:=by
 unfold j3 at hc
 simp only[uc]at hc
 obtain⟨zs,h1,h2⟩:=hc
 split at h2
 · rename_i hq
   obtain rfl:=ud h2
   obtain⟨q1,q2,q3⟩:=hq
   obtain⟨g1,g2⟩:=hX q3
   refine⟨zs,rfl,h1,q1,fun k hk=> ?_,fun p z hz=> ?_,fun p q z y h a b=>by simpa using g2 p q z y h a b,hev,hst,hn⟩
   · have:=List.all_eq_true.1 q2 k (List.mem_range.2 hk)
     simpa using this
   · have:=g1 p z hz
     simpa [List.map_take]using this
 · cases h2
theorem DH.zx (d:DH L nt ops call ord zs fl e0 h0 E hN gs) {p:Nat} {z:Z} (hz:zs[p]?=some z):(zs.map (·.x))[p]?=some z.x:=by simp [hz]
theorem DH.inj (d:DH L nt ops call ord zs fl e0 h0 E hN gs) {p q:Nat} {z y:Z} (hz:zs[p]?=some z) (hy:zs[q]?=some y) (h:z.i=y.i):p=q:=by
 rcases Nat.lt_trichotomy p q with hlt|rfl|hlt
 · have:=d.pair p q z y hlt hz hy
   simp [bI,h]at this
 · rfl
 · have:=d.pair q p y z hlt hy hz
   simp [bI,h]at this
theorem DH.nu (d:DH L nt ops call ord zs fl e0 h0 E hN gs) {p q:Nat} {z y:Z} (hz:zs[p]?=some z) (hy:zs[q]?=some y) {t:Nat} (h1:z.x.dst=some t) (h2:y.x.dst=some t):p=q:=by
 rcases Nat.lt_trichotomy p q with hlt|rfl|hlt
 · have:=d.pair p q z y hlt hz hy
   simp [bI,h1,h2]at this
 · rfl
 · have:=d.pair q p y z hlt hy hz
   simp [bI,h1,h2]at this
theorem DH.tM (d:DH L nt ops call ord zs fl e0 h0 E hN gs) {i:Nat} (hi:i<ops.size):∃(p:Nat) (z:Z),zs[p]?=some z∧z.i=i:=by
 have:=d.all i hi
 rw[←(dO d.mz).1]at this
 obtain⟨z,hz,rfl⟩:=List.mem_map.1 this
 obtain⟨p,hp⟩:=uJ.1 hz
 exact⟨p,z,hp,rfl⟩
theorem DH.take (d:DH L nt ops call ord zs fl e0 h0 E hN gs) {p t:Nat} (h:t∈iP ((zs.map (·.x)).take p)):∃(q:Nat) (y:Z),q<p∧zs[q]?=some y∧y.x.dst=some t:=by
 unfold iP at h
 obtain⟨x,hx,hd⟩:=List.mem_filterMap.1 h
 obtain⟨q,hq⟩:=uJ.1 hx
 rw[uQ]at hq
 split at hq
 · rename_i hlt
   rw[uG]at hq
   obtain⟨y,hy,rfl⟩:=ue.1 hq
   exact⟨q,y,hlt,hy,hd⟩
 · cases hq
theorem DH.drop (d:DH L nt ops call ord zs fl e0 h0 E hN gs) {p t:Nat} (h:t∈iP ((zs.map (·.x)).drop p)):∃(q:Nat) (y:Z),p≤q∧zs[q]?=some y∧y.x.dst=some t:=by
 unfold iP at h
 obtain⟨x,hx,hd⟩:=List.mem_filterMap.1 h
 obtain⟨q,hq⟩:=uJ.1 hx
 rw[uI,uG]at hq
 obtain⟨y,hy,rfl⟩:=ue.1 hq
 exact⟨p+q,y,by omega,hy,hd⟩
theorem cQ {d:Option Nat} {v:AV} {e:Env} {t:Nat} (h:d≠some t):look (aL d v e) t=look e t:=by
 cases d with
 |none=>rfl
 |some s=>simp only[aL,look];rw[if_neg (fun q=>h (by rw[q]))]
theorem cP {v:AV} {e:Env} {t:Nat}:look (aL (some t) v e) t=v:=by simp [aL,look]
theorem DH.eJ (d:DH L nt ops call ord zs fl e0 h0 E hN gs) {p q:Nat} (hpq:p≤q) {e1 e2:Env} {h1 h2:H} (a:au call ((zs.map (·.x)).take p) e0 h0=some (e1,h1)) (b:au call ((zs.map (·.x)).take q) e0 h0=some (e2,h2)):h1.next≤h2.next:=by
 have:(zs.map (·.x)).take q=(zs.map (·.x)).take p++((zs.map (·.x)).take q).drop p:=by
  have:=(List.take_append_drop p ((zs.map (·.x)).take q)).symm
  rwa [List.take_take,Nat.min_eq_left hpq]at this
 rw[this,cC,a]at b
 exact cD d.nm b
theorem DH.dQ (d:DH L nt ops call ord zs fl e0 h0 E hN gs) {p:Nat} {z:Z} (hz:zs[p]?=some z) {e1:Env} {h1 h2:H} {v:AV} (a:au call ((zs.map (·.x)).take p) e0 h0=some (e1,h1)) (b:ai call z.x e1 h1=some (v,h2)):au call ((zs.map (·.x)).take (p+1)) e0 h0=some (aL z.x.dst v e1,h2):=by
 rw[List.take_add_one,d.zx hz,cC,a]
 simp [au,b]
structure Inv (L:Lk) (w0:World) (ops:Array Oper) (call:ae) (zs:List Z) (e0:Env) (h0:H) (E:Env) (gs:List H) (ι0:Io) (M0:Mm) (a0:Act) (listed:Array Bool) (a:Act) (w:World) (ι:Io) (M:Mm) (G:H) (j:Nat):Prop where
 sz:listed.size=ops.size
 cl:Cl ops (fun i=>listed.getD i false=true)
 hG:gs[j]?=some G
 ld:∀(p:Nat) (z:Z),zs[p]?=some z→z.x.op.aN=true→(listed.getD z.i false=true↔nl ((zs.map (·.x)).take p)<j)
 le:j≤nl (zs.map (·.x))
 gr:Gr h0 ι0 M0 G ι M
 r:R L w0 ι M G w
 env:aZ L ι M (cut zs (fun i=>listed.getD i false) e0 E) a.tmps
 te:a.tmps.size=a0.tmps.size
 tG:a.defers=a0.defers
 bi:∀(q:Nat) (y:Z) (eq:Env) (hq:H) (v:AV) (h':H) (id:Nat),zs[q]?=some y→y.x.op.aH=true→listed.getD y.i false=false→au call ((zs.map (·.x)).take q) e0 h0=some (eq,hq)→ai call y.x eq hq=some (v,h')→v.id?=some id→ι id=none
theorem fQ {listed:Array Bool} {i k:Nat} (hi:i<listed.size):(listed.setIfInBounds i true).getD k false=true↔k=i∨listed.getD k false=true:=by
 by_cases h:k=i
 · subst h;simp [hi]
 · rw[getD_set_ne false (fun q=>h q.symm)];simp [h]
theorem Inv.next (d : DH L nt ops call ord zs fl e0 h0 E hN gs) {ι0 : Io} {M0 : Mm} {a0 : Act} {listed : Array Bool} {a : Act} {w : World} {ι : Io} {M : Mm} {G : H} {j : Nat} (inv : Inv L w0 ops call zs e0 h0 E gs ι0 M0 a0 listed a w ι M G j) (hnt : nt ≤ a0.tmps.size)
 {p:Nat} {z:Z} (hz:zs[p]?=some z) (hnd:listed.getD z.i false=false) {o:Oper} (hio:ops[z.i]?=some o) (hc:br L nt ops o=some z.x) (hed:∀e∈gQ o,listed.getD e false=true)
 {e1:Env} {h2:H} {v:AV} (t3:au call ((zs.map (·.x)).drop (p+1)) (aL z.x.dst v e1) h2=some (E,hN))
 {ι':Io} {M':Mm} {G':H} {j':Nat} {v':Value} {w':World} (hG:gs[j']?=some G')
 (hld:∀(q:Nat) (y:Z),zs[q]?=some y→y.x.op.aN=true→(y.i=z.i∨listed.getD y.i false=true↔nl ((zs.map (·.x)).take q)<j')) (hle:j'≤nl (zs.map (·.x))) (hle1:mU ι ι') (hle2:m0 M M') (hgr:Gr h0 ι0 M0 G' ι' M') (hr:R L w0 ι' M' G' w') (hv:V L ι' M' v v')
 (hbi:∀(q:Nat) (y:Z) (eq:Env) (hq:H) (u:AV) (h':H) (id:Nat),zs[q]?=some y→y.x.op.aH=true→q≠p→listed.getD y.i false=false→au call ((zs.map (·.x)).take q) e0 h0=some (eq,hq)→ai call y.x eq hq=some (u,h')→u.id?=some id→ι' id=none):
 Inv L w0 ops call zs e0 h0 E gs ι0 M0 a0 (listed.setIfInBounds z.i true) (a.put o.dst v') w' ι' M' G' j':=by
 obtain⟨_,hdst,hlt,_⟩:=bS hc
 have hi:z.i<listed.size:=by rw[inv.sz];exact(uH.1 hio).1
 have hg:∀k,((listed.setIfInBounds z.i true).getD k false=true↔k=z.i∨listed.getD k false=true):=fun k=>fQ hi
 refine⟨by simp [inv.sz], ?_,hG, ?_,hle,hgr,hr, ?_,by rw[gm];exact inv.te,by rw[put_defers];exact inv.tG, ?_⟩
 · intro k o' hk hd e he
   rw[hg]at hd ⊢
   rcases hd with rfl|hd
   · rw[hio]at hk;obtain rfl:=ud hk
     exact .inr (hed e he)
   · exact .inr (inv.cl k o' hk hd e he)
 · intro q y hy hl
   rw[hg];exact hld q y hy hl
 · have key:∀t,look (cut zs (fun i=>(listed.setIfInBounds z.i true).getD i false) e0 E) t=look (aL z.x.dst v (cut zs (fun i=>listed.getD i false) e0 E)) t:=by
    intro t
    by_cases ht:z.x.dst=some t
    · rw [ht, cP, cut, bc]
      rw[if_neg]
      · rw[a9 t3 t (fun q=>by
         obtain⟨s,y,hs,hy,hyd⟩:=d.drop q
         have:=d.nu hz hy ht hyd;omega),ht,cP]
      · intro q
        obtain⟨y,hy,hyu,hyd⟩:=bU.1 q
        obtain⟨s,hs⟩:=uJ.1 hy
        obtain rfl:=d.nu hz hs ht hyd
        rw[hz]at hs;obtain rfl:=ud hs
        rw[(hg z.i).2 (.inl rfl)]at hyu;cases hyu
    · rw [cQ ht, cut, cut, bc, bc]
      have:t∈qR zs (fun i=>(listed.setIfInBounds z.i true).getD i false)↔t∈qR zs (fun i=>listed.getD i false):=by
       rw[bU,bU]
       constructor
       · rintro ⟨y,hy,hyu,hyd⟩
         refine⟨y,hy, ?_,hyd⟩
         cases hb:listed.getD y.i false with
         |false=>rfl
         |true=>rw[(hg y.i).2 (.inr hb)]at hyu;cases hyu
       · rintro ⟨y,hy,hyu,hyd⟩
         refine⟨y,hy, ?_,hyd⟩
         cases hb:(listed.setIfInBounds z.i true).getD y.i false with
         |false=>rfl
         | true =>
           rcases (hg y.i).1 hb with q|q
           · obtain⟨s,hs⟩:=uJ.1 hy
             obtain rfl:=d.inj hs hz q
             rw[hz]at hs;obtain rfl:=ud hs
             exact absurd hyd ht
           · rw[hyu]at q;cases q
      by_cases hu:t∈qR zs (fun i=>listed.getD i false)
      · rw[if_pos hu,if_pos (this.2 hu)]
      · rw[if_neg hu,if_neg (fun q=>hu (this.1 q))]
   intro t
   rw[key t]
   have:=(inv.env.mono hle1 hle2).put (a:=a) (d:=z.x.dst) (v:=v) hv (fun s hs=>by
    rw[inv.te];exact Nat.lt_of_lt_of_le (hlt s (by rw[←hdst];exact hs)) hnt)
   rw[hdst]at this ⊢
   exact this t
 · intro q y eq hq u h' id hy hb hu hp hev hid
   have hne:q≠p:=fun e=>by
    subst e
    rw[hz]at hy;obtain rfl:=ud hy
    rw[(hg z.i).2 (.inl rfl)]at hu;cases hu
   refine hbi q y eq hq u h' id hy hb hne ?_ hp hev hid
   cases hb:listed.getD y.i false with
   |false=>rfl
   |true=>rw[(hg y.i).2 (.inr hb)]at hu;cases hu
end
end Ab
namespace Ab
open Go RowKit
section
variable {L:Lk} {w0:World}
variable {nt:Nat} {ops:Array Oper} {call:ae} {ord:List Nat} {zs:List Z} {fl:List (Nat×List Nat)} {e0:Env} {h0:H} {E:Env} {hN:H} {gs:List H}
theorem DH.ph (d:DH L nt ops call ord zs fl e0 h0 E hN gs) {done:Nat→Prop} (hcl:Cl ops done) {p:Nat} {z:Z} (hz:zs[p]?=some z) (hd:done z.i) {k:Nat} (hk:z.m.testBit k=true):done k:=
 fV hcl d.mz (fun z hz=>by simp at hz) z (uz hz) hd k hk
theorem kL {f:List Nat} {z y:Z} (h:bI f z y=true) (h1:z.x.op.aN=true) (h2:y.x.op.aN=true):y.m.testBit z.i=true:=by
 simp only[bI,uw,h1,h2,Bool.not_true,Bool.false_or,Bool.true_and]at h
 exact h.2.2.2
theorem mK {f:List Nat} {z y:Z} (h:bI f z y=true) {t:Nat} (h1:z.x.dst=some t) (h2:t∈y.x.tm):y.m.testBit z.i=true:=by
 simp only[bI,uw,h1,uK,Bool.not_eq_true']at h
 rcases h.2.1.2 with q|q
 · rw[List.contains_iff_mem.2 h2]at q;cases q
 · exact q
theorem mJ {f:List Nat} {z y:Z} (h:bI f z y=true) {t:Nat} (h1:y.x.dst=some t) (h2:t∈z.x.tm):y.m.testBit z.i=true∧f=[]:=by
 simp only[bI,uw,h1,uK,Bool.not_eq_true']at h
 rcases h.2.2.1 with q|q
 · rw[List.contains_iff_mem.2 h2]at q;cases q
 · exact⟨q.1,by simpa using q.2⟩
theorem mC {l:List Z} {f:List Nat} {own n:Nat} {z:Z} (h:dP l f own n z=true) {t:Nat} (h1:z.x.dst=some t) (h2:t∈z.x.tm):f=[]:=by
 simp only[dP,uw,h1,uK,Bool.not_eq_true']at h
 rcases h.1 with q|q
 · rw[List.contains_iff_mem.2 h2]at q;cases q
 · simpa using q
theorem nQ {l:List Z} {f:List Nat} {own n:Nat} {z:Z} (h:dP l f own n z=true) (hf:f≠[]):∃t,z.x.dst=some t:=by
 simp only[dP,uw]at h
 cases hd:z.x.dst with
 |some t=>exact⟨t,rfl⟩
 |none=>rw[hd]at h;simp at h;exact absurd h.1.2 hf
theorem kJ {l:List Z} {f:List Nat} {own n:Nat} {z:Z} (h:dP l f own n z=true) (hb:z.x.op.aH=true∨z.x.op.reads=true) {j:Nat} (hj:j≤n) (hs:dj z j 0 l=true):j=own∨j∈f:=by
 simp only[dP,uw,uK,Bool.not_eq_true',List.all_eq_true,List.mem_range]at h
 have h2:=h.2.resolve_left (by rcases hb with q|q<;>simp [q])
 rcases h2 j (by omega)with (q|q)|q
 · exact .inl (by simpa using q)
 · rw[hs]at q;cases q
 · exact .inr (by simpa using q)
theorem DH.tC (d : DH L nt ops call ord zs fl e0 h0 E hN gs) {dn : Nat → Bool} {p : Nat} {z : Z} (hz : zs[p]? = some z) (hnd : dn z.i = false)
 (anc:∀(q:Nat) (y:Z),zs[q]?=some y→z.m.testBit y.i=true→y.i≠z.i→dn y.i=true) (desc:∀(q:Nat) (y:Z),zs[q]?=some y→y.m.testBit z.i=true→dn y.i=false)
 {e1:Env} {h1 h2:H} {v:AV} (t1:au call ((zs.map (·.x)).take p) e0 h0=some (e1,h1)) (t3:au call ((zs.map (·.x)).drop (p+1)) (aL z.x.dst v e1) h2=some (E,hN)):
 cf e1 (cut zs dn e0 E) z.x.tm∧(dI fl p≠[]→cf e1 E z.x.tm):=by
 have main:∀t∈z.x.tm,look e1 t=look (cut zs dn e0 E) t∧(dI fl p≠[]→look e1 t=look E t):=by
  intro t ht
  rw[cut,bc]
  by_cases hu:∃(q:Nat) (y:Z),zs[q]?=some y∧y.x.dst=some t
  · obtain⟨q,y,hy,hyd⟩:=hu
    have uniq:∀(s:Nat) (u:Z),zs[s]?=some u→u.x.dst=some t→s=q:=fun s u hs hd=>d.nu hs hy hd hyd
    rcases Nat.lt_trichotomy q p with hlt|rfl|hlt
    · have hm:=mK (d.pair q p y z hlt hy hz) hyd ht
      have hne:y.i≠z.i:=fun e=>by have:=d.inj hy hz e;omega
      have hdy:=anc q y hy hm hne
      have hE:look E t=look e1 t:=by
       rw[a9 t3 t (fun m=>by obtain⟨s,u,a,b,c⟩:=d.drop m;have:=uniq s u b c;omega)]
       exact cQ fun e=>by have:=uniq p z hz e;omega
      rw[if_neg]
      · exact⟨hE.symm,fun _=>hE.symm⟩
      · intro m
        obtain⟨u,hu1,hu2,hu3⟩:=bU.1 m
        obtain⟨s,hs⟩:=uJ.1 hu1
        have:=uniq s u hs hu3;subst this
        rw[hy]at hs;obtain rfl:=ud hs
        rw[hdy]at hu2;cases hu2
    · rw[hz]at hy;obtain rfl:=ud hy
      have hf:=mC (d.one q z hz) hyd ht
      rw[if_pos (bU.2 ⟨z,uz hz,hnd,hyd⟩)]
      exact⟨a9 t1 t fun m=>by obtain⟨s,u,a,b,c⟩:=d.take m;have:=uniq s u b c;omega,fun q=>absurd hf q⟩
    · obtain⟨hm,hf⟩:=mJ (d.pair p q z y hlt hz hy) hyd ht
      have hdy:=desc q y hy hm
      rw[if_pos (bU.2 ⟨y,uz hy,hdy,hyd⟩)]
      exact⟨a9 t1 t fun m=>by obtain⟨s,u,a,b,c⟩:=d.take m;have:=uniq s u b c;omega,fun q=>absurd hf q⟩
  · have hE:look E t=look e1 t:=by
     rw[a9 t3 t (fun m=>by obtain⟨s,u,a,b,c⟩:=d.drop m;exact hu ⟨s,u,b,c⟩)]
     exact cQ fun e=>hu ⟨p,z,hz,e⟩
    rw[if_neg]
    · exact⟨hE.symm,fun _=>hE.symm⟩
    · intro m
      obtain⟨u,hu1,hu2,hu3⟩:=bU.1 m
      obtain⟨s,hs⟩:=uJ.1 hu1
      exact hu ⟨s,u,hs,hu3⟩
 exact⟨fun t ht=>(main t ht).1,fun hf t ht=>(main t ht).2 hf⟩
set_option maxHeartbeats 1000000 in
theorem Inv.step (hcal : Callee L w0 call) (hbod : cH L) (d : DH L nt ops call ord zs fl e0 h0 E hN gs) {ι0 : Io} {M0 : Mm} {a0 : Act} {listed : Array Bool} {a : Act} {w : World} {ι : Io} {M : Mm} {G : H} {j : Nat}
 (inv:Inv L w0 ops call zs e0 h0 E gs ι0 M0 a0 listed a w ι M G j) (hnt:nt≤a0.tmps.size) {i:Nat} (hi:i∈Region.ready .any ops listed) {Q:Exit→Act→World→Prop} {K:Act→World→Prop}
 (hK:∀a' w' ι' M' G' j',Inv L w0 ops call zs e0 h0 E gs ι0 M0 a0 (listed.setIfInBounds i true) a' w' ι' M' G' j'→K a' w'):wpOp L.P ops Q i K a w:=by
 obtain⟨hun,o,hio,hed'⟩:=mem_ready.1 hi
 have hin:i<ops.size:=(uH.1 hio).1
 have hnd:listed.getD i false=false:=by
  rw[ux]at hun ⊢
  rw[Array.getElem?_eq_getElem (by rw[inv.sz];exact hin)]at hun ⊢
  exact hun
 have hed:∀e∈gQ o,listed.getD e false=true:=by
  intro e he
  unfold gQ at he
  obtain⟨x,hx,rfl⟩:=List.mem_map.1 he
  obtain⟨hx1,hx2⟩:=List.mem_filter.1 hx
  exact hed' x (by simpa using hx1) hx2
 obtain⟨p,z,hz,rfl⟩:=d.tM hin
 obtain⟨o',ho',hc⟩:=(dO d.mz).2 z (uz hz)
 rw[hio]at ho';obtain rfl:=ud ho'
 obtain⟨e1,h1,v,h2,G1,t1,t2,t3,t4,t5,t6⟩:=gU d.ev (d.zx hz)
 have hcl':Cl ops (fun k=>k=z.i∨listed.getD k false=true):=by
  intro k o2 hk hd e he
  rcases hd with rfl|hd
  · rw[hio]at hk;obtain rfl:=ud hk;exact .inr (hed e he)
  · exact .inr (inv.cl k o2 hk hd e he)
 have anc:∀(q:Nat) (y:Z),zs[q]?=some y→z.m.testBit y.i=true→y.i≠z.i→listed.getD y.i false=true:=fun q y hy hm hne=>
  (d.ph hcl' hz (.inl rfl) hm).resolve_left hne
 have desc:∀(q:Nat) (y:Z),zs[q]?=some y→y.m.testBit z.i=true→listed.getD y.i false=false:=fun q y hy hm=>by
  cases hb:listed.getD y.i false with
  |false=>rfl
  |true=>have:listed.getD z.i false=true:=d.ph inv.cl hy hb hm;rw[hnd]at this;cases this
 obtain⟨ag,agE⟩:=d.tC (dn:=fun k=>listed.getD k false) hz hnd anc desc t1 t3
 have hev:ai call z.x (cut zs (fun i=>listed.getD i false) e0 E) h1=some (v,h2):=by rw[←cB ag];exact t2
 have hlt1:∀(q:Nat) (y:Z),zs[q]?=some y→y.x.op.aN=true→q<p→z.x.op.aN=true→nl ((zs.map (·.x)).take q)<nl ((zs.map (·.x)).take p):=fun q y hy hl hq _=>by
  have:=bV (d.zx hy);rw[if_pos hl]at this
  have:=fX (os:=zs.map (·.x)) (Nat.succ_le_of_lt hq)
  simp only[Nat.succ_eq_add_one]at this;omega
 have hbi0:∀(ι':Io),(∀id l,id<G.next→ι' id=some l→ι id=some l)→(∀id l,ι' id=some l→id<G.next)→
  ∀(q:Nat) (y:Z) (eq:Env) (hq:H) (u:AV) (h':H) (id:Nat),zs[q]?=some y→y.x.op.aH=true→q≠p→listed.getD y.i false=false→au call ((zs.map (·.x)).take q) e0 h0=some (eq,hq)→ai call y.x eq hq=some (u,h')→u.id?=some id→ι' id=none:=by
  intro ι' hold hdom q y eq hq u h' id hy hb hne hu hp hev' hid
  cases hc:ι' id with
  |none=>rfl
  | some l =>
    have:=hold id l (hdom id l hc) hc
    rw[inv.bi q y eq hq u h' id hy hb hu hp hev' hid]at this;cases this
 have hld0:z.x.op.aN=false→∀(q:Nat) (y:Z),zs[q]?=some y→y.x.op.aN=true→(y.i=z.i∨listed.getD y.i false=true↔nl ((zs.map (·.x)).take q)<j):=by
  intro hzl q y hy hl
  rw[←inv.ld q y hy hl]
  constructor
  · rintro (e|e)
    · have:=d.inj hy hz e;subst this
      rw[hz]at hy;obtain rfl:=ud hy
      rw[hzl]at hl;cases hl
    · exact e
  · exact .inr
 have quiet:z.x.op.aN=false→ai call z.x (cut zs (fun i=>listed.getD i false) e0 E) G=some (v,G)→wpOp L.P ops Q z.i K a w:=by
  intro hzl hq
  refine eI hcal hbod hio hc inv.env inv.r hq fun v' w' hout=> ?_
  obtain⟨ι',M',a1,a2,a3,r',hv'⟩:=hout
  exact hK _ _ _ _ _ _ (inv.next d hnt hz hnd hio hc hed t3 inv.hG (hld0 hzl) inv.le a1 a2 (inv.gr.trans ⟨uv _,a1,a2,a3⟩) r' hv' (hbi0 ι' a3 r'.jG))
 by_cases hzl:z.x.op.aN=true
 ·
  have hjp:nl ((zs.map (·.x)).take p)=j:=by
   have g1:j≤nl ((zs.map (·.x)).take p):=by
    have:=inv.ld p z hz hzl
    rcases Nat.lt_or_ge (nl ((zs.map (·.x)).take p)) j with q|q
    · rw[this.2 q]at hnd;cases hnd
    · exact q
   rcases Nat.lt_or_ge j (nl ((zs.map (·.x)).take p))with q|q
   · obtain⟨s,x,hs,hx,hxl,hxn⟩:=hJ _ _ _ q
     rw[uG]at hx
     obtain⟨y,hy,rfl⟩:=ue.1 hx
     have hm:=kL (d.pair s p y z hs hy hz) hxl hzl
     have hne:y.i≠z.i:=fun e=>by have:=d.inj hy hz e;omega
     have:=(inv.ld s y hy hxl).1 (anc s y hy hm hne)
     omega
   · omega
  have hGe:G=h1:=by have:=t6 hzl;rw[hjp,inv.hG]at this;exact ud this
  subst hGe
  rw[if_pos hzl,hjp]at t4
  refine eI hcal hbod hio hc inv.env inv.r hev fun v' w' hout=> ?_
  obtain⟨ι',M',a1,a2,a3,r',hv'⟩:=hout
  have hgr:Gr G ι M h2 ι' M':=⟨cg d.nm t2,a1,a2,a3⟩
  refine hK _ _ _ _ _ _ (inv.next d hnt hz hnd hio hc hed t3 t4 ?_ ?_ a1 a2 (inv.gr.trans (hgr.gw t5)) (r'.gw t5) hv' ?_)
  · intro q y hy hl
    rcases Nat.lt_trichotomy q p with hlt|rfl|hlt
    · have h3:=hlt1 q y hy hl hlt hzl
      have h4:=(inv.ld q y hy hl).2 (by omega)
      exact⟨fun _=>by omega,fun _=>.inr h4⟩
    · rw[hz]at hy;obtain rfl:=ud hy
      exact⟨fun _=>by omega,fun _=>.inl rfl⟩
    · have h3:=bV (d.zx hz);rw[if_pos hzl]at h3
      have h4:=fX (os:=zs.map (·.x)) (Nat.succ_le_of_lt hlt)
      simp only[Nat.succ_eq_add_one]at h4
      constructor
      · rintro (e|e)
        · have:=d.inj hy hz e;omega
        · have:=(inv.ld q y hy hl).1 e;omega
      · intro h5;omega
  · have h3:=bV (d.zx hz);rw[if_pos hzl]at h3
    have:=jf (zs.map (·.x)) (p+1);omega
  · intro q y eq hq u h' id hy hb hne hu hp hev' hid
    cases hcc:ι' id with
    |none=>rfl
    | some l =>
      rcases bT hb hev' with ⟨rfl,_,_⟩|⟨b,_,_,rfl,hid',_⟩
      · cases hid
      · rw[hid]at hid';obtain rfl:=ud hid'
        rcases Nat.lt_or_gt_of_ne hne with hlt|hlt
        · have h3:=d.eJ (Nat.succ_le_of_lt hlt) (d.dQ hy hp hev') t1
          simp only[bn]at h3
          have:=a3 _ l (by omega) hcc
          rw[inv.bi q y eq hq u _ _ hy hb hu hp hev' hid]at this;cases this
        · have h3:=d.eJ (Nat.succ_le_of_lt hlt) (d.dQ hz t1 t2) hp
          have:=r'.jG _ l hcc
          omega
 · have hzl' : z.x.op.aN = false := by simpa using hzl
   rw[if_neg hzl,Nat.add_zero]at t4
   have stage:z.x.op.aH=true∨z.x.op.reads=true→j=nl ((zs.map (·.x)).take p)∨j∈dI fl p:=by
    intro hbr
    refine kJ (d.one p z hz) hbr inv.le (dz fun q y hy hl=> ?_)
    have hne:y.i≠z.i:=fun e=>by
     have:=d.inj hy hz e;subst this
     rw[hz]at hy;obtain rfl:=ud hy
     rw[hzl']at hl;cases hl
    rw[uC,List.map_take]
    refine⟨fun hm=>(inv.ld q y hy hl).1 (anc q y hy hm hne),fun hm=> ?_⟩
    rcases Nat.lt_or_ge (nl ((zs.map (·.x)).take q)) j with h3|h3
    · have:=(inv.ld q y hy hl).2 h3;rw[desc q y hy hm]at this;cases this
    · exact h3
   have stable:j∈dI fl p→∃t,z.x.dst=some t∧look E t=v∧bC call (zs.map (·.x)) E gs p j=true:=by
    intro hj
    obtain⟨t,ht⟩:=nQ (d.one p z hz) (fun q=>by rw[q]at hj;simp at hj)
    refine⟨t,ht, ?_,fh d.st p j hj⟩
    rw[a9 t3 t (fun m=>by obtain⟨s,u,a,b,c⟩:=d.drop m;have:=d.nu hz b ht c;omega),ht,cP]
   cases hzb:z.x.op.aH with
   | false =>
     refine quiet hzl' ?_
     cases hzr:z.x.op.reads with
     |false=>exact jI hzl' hzb hzr hev G
     | true =>
       rcases stage (.inr hzr)with hj|hj
       · rw[←hj,inv.hG]at t4;obtain rfl:=ud t4
         obtain rfl:=dF hzl' hzb t2
         exact jJ hzl' hzb hev t5
       · obtain⟨t,ht,hE,hst⟩:=stable hj
         have hagE:=agE (fun q=>by rw[q]at hj;simp at hj)
         simp only[bC,d.zx hz,inv.hG,hzb,uq,uS,ht,Option.map_some,hE]at hst
         split at hst
         · rename_i u g' hu
           have:=beq_eq hst;subst this
           obtain rfl:=dF hzl' hzb hu
           rw[←cB ag,cB hagE];exact hu
         · cases hst
   | true =>
     rcases bT hzb hev with ⟨rfl,rfl,hskip⟩|⟨b,hb1,rfl,rfl,hid,_⟩
     · exact quiet hzl' (hskip G)
     · have hget:G.get h1.next=some b.1:=by
        rcases stage (.inl hzb)with hj|hj
        · rw[←hj,inv.hG]at t4;obtain rfl:=ud t4
          exact t5.some (by simp [H.aV])
        · obtain⟨t,ht,hE,hst⟩:=stable hj
          have hagE:=agE (fun q=>by rw[q]at hj;simp at hj)
          have hbE:aX E z.x.op=some b:=by
           rw[←hb1,←cK (e:=e1) fun t ht=>hagE t (List.mem_append_right _ ht),cK fun t ht=>ag t (List.mem_append_right _ ht)]
          simp only[bC,d.zx hz,inv.hG,hzb,if_true,ht,Option.map_some,hE,hbE,hid]at hst
          split at hst
          · rename_i q;have:=ud q;rw[this]at hid;cases hid
          · rename_i q;obtain rfl:=ud q
            simp only[hid]at hst
            split at hst
            · rename_i cs hcs;rw[hcs,nj hst]
            · cases hst
          · cases hst
       have hnone:ι h1.next=none:=inv.bi p z e1 h1 _ _ _ hz hzb hnd t1 t2 hid
       refine jO hio hc inv.env hev (fun hop _=> ?_) (fun q _=>by rw[q]at hid;cases hid)
       obtain⟨v',w',g1,hm⟩:=eX inv.env hop (cs:=b.1) (mk:=b.2) hb1
       refine aa g1 ?_
       obtain⟨dr,arr,ty,fz,rfl,hfz,hlen,hval,hv⟩:=hm.ex
       have rn:=(inv.r.drew dr).qo (id:=h1.next) hnone (cs:=b.1) (arr:=arr) (t:=ty) (fz:=fz) (h':=G) hfz (uv _) (G.lt _ _ hget)
        (fun i c q=>by
          by_cases e:i=h1.next
          · subst e;rw[hget]at q;exact .inl ⟨rfl,(ud q).symm⟩
          · exact .inr ⟨e,q⟩) hlen hval
       refine hK _ _ _ _ _ _ (inv.next d hnt hz hnd hio hc hed t3 inv.hG (hld0 hzl') inv.le (Io.eC _ hnone) (fun _ _ _ q=>q) ⟨inv.gr.nx,fun _ _ q=>Io.eC _ hnone _ _ (inv.gr.io _ _ q),inv.gr.mm, ?_⟩ rn (hv _ _ (by simp [Io.put])) ?_)
       · intro id l hid' q
         refine inv.gr.hU id l hid' ?_
         have:=d.eJ (Nat.zero_le p) (e1:=e0) (h1:=h0) rfl t1
         simp only[Io.put]at q
         rwa [if_neg (by omega)]at q
       · intro q y eq hq u h' id hy hb hne hu hp hev' hid2
         have h3:=inv.bi q y eq hq u h' id hy hb hu hp hev' hid2
         simp only[Io.put]
         rw[if_neg]
         · exact h3
         · rintro rfl
           rcases bT hb hev' with ⟨rfl,_,_⟩|⟨b',_,_,rfl,hid',_⟩
           · cases hid2
           · rw[hid2]at hid'
             have hid':=ud hid'
             rcases Nat.lt_or_gt_of_ne hne with hlt|hlt
             · have h4:=d.eJ (Nat.succ_le_of_lt hlt) (d.dQ hy hp hev') t1
               simp only[bn]at h4;omega
             · have h4:=d.eJ (Nat.succ_le_of_lt hlt) (d.dQ hz t1 t2) hp
               simp only[bn]at h4;omega
end
end Ab
namespace Ab
open Go RowKit
theorem gP {α:Type} {p q:α→Bool}:∀{l:List α},(∀x∈l,q x=true→p x=true)→∀{x:α},x∈l→p x=true→q x=false→l.countP q<l.countP p
 |[],_,x,hx,_,_=>by simp at hx
 | y :: l, h, x, hx, hp, hq => by
   have hle:l.countP q≤l.countP p:=List.countP_mono_left fun z hz=>h z (by simp [hz])
   rw[List.countP_cons,List.countP_cons]
   rcases uO.1 hx with rfl|hx
   · rw[hp,hq];simp;omega
   · have:=gP (fun z hz=>h z (by simp [hz])) hx hp hq
     have h2:=h y (by simp)
     cases hqy:q y with
     |false=>simp;omega
     |true=>rw[h2 hqy];simp;omega
section
variable {L:Lk} {w0:World}
variable {nt:Nat} {ops:Array Oper} {call:ae} {ord:List Nat} {zs:List Z} {fl:List (Nat×List Nat)} {e0:Env} {h0:H} {E:Env} {hN:H} {gs:List H}
theorem Inv.fin (d:DH L nt ops call ord zs fl e0 h0 E hN gs) {ι0:Io} {M0:Mm} {a0:Act} {listed:Array Bool} {a:Act} {w:World} {ι:Io} {M:Mm} {G:H} {j:Nat}
 (inv:Inv L w0 ops call zs e0 h0 E gs ι0 M0 a0 listed a w ι M G j) (hall:∀z∈zs,listed.getD z.i false=true):G=hN∧aZ L ι M E a.tmps:=by
 have hj:j=nl (zs.map (·.x)):=by
  rcases Nat.lt_or_ge j (nl (zs.map (·.x)))with h|h
  · obtain⟨q,x,_,hx,hl,hn⟩:=hJ (zs.map (·.x)) (zs.map (·.x)).length j (by rw[List.take_length];exact h)
    rw[uG]at hx
    obtain⟨y,hy,rfl⟩:=ue.1 hx
    have:=(inv.ld q y hy hl).1 (hall y (uz hy))
    omega
  · have:=inv.le;omega
 have hG:=inv.hG
 rw[hj,eZ d.ev]at hG
 refine⟨(ud hG).symm,fun t=> ?_⟩
 have:=inv.env t
 rw[cut,bc,if_neg]at this
 · exact this
 · intro m
   obtain⟨z,hz,hu,_⟩:=bU.1 m
   simp only[hall z hz]at hu;cases hu
theorem Inv.any (hcal : Callee L w0 call) (hbod : cH L) (d : DH L nt ops call ord zs fl e0 h0 E hN gs) {ι0 : Io} {M0 : Mm} {a0 : Act} (hnt : nt ≤ a0.tmps.size) {Q : Exit → Act → World → Prop}
 (hQ:∀ι' M' a' w',Gr h0 ι0 M0 hN ι' M'→R L w0 ι' M' hN w'→aZ L ι' M' E a'.tmps→a'.tmps.size=a0.tmps.size→a'.defers=a0.defers→Q .normal a' w'):
 ∀(fuel:Nat) {listed:Array Bool} {a:Act} {w:World} {ι:Io} {M:Mm} {G:H} {j:Nat},Inv L w0 ops call zs e0 h0 E gs ι0 M0 a0 listed a w ι M G j→(zs.countP fun z=> !listed.getD z.i false)≤fuel→wpAny L.P .any ops Q fuel listed a w:=by
 intro fuel
 have fin:∀{listed:Array Bool} {a:Act} {w:World} {ι:Io} {M:Mm} {G:H} {j:Nat},Inv L w0 ops call zs e0 h0 E gs ι0 M0 a0 listed a w ι M G j→(∀z∈zs,listed.getD z.i false=true)→Q .normal a w:=by
  intro listed a w ι M G j inv hall
  obtain⟨rfl,he⟩:=inv.fin d hall
  exact hQ _ _ _ _ inv.gr inv.r he inv.te inv.tG
 have mem:∀{listed:Array Bool},∀i∈Region.ready .any ops listed,∃z∈zs,z.i=i∧listed.getD z.i true=false:=by
  intro listed i hi
  obtain⟨hu,o,ho,_⟩:=mem_ready.1 hi
  obtain⟨p,z,hz,rfl⟩:=d.tM (uH.1 ho).1
  exact⟨z,uz hz,rfl,hu⟩
 have tf:∀{listed:Array Bool} {i:Nat},listed.getD i true=false→listed.getD i false=false:=by
  intro listed i h
  rw[ux]at h ⊢
  cases hg:listed[i]? with
  |none=>rfl
  |some b=>rw[hg]at h;exact h
 induction fuel with
 | zero =>
   intro listed a w ι M G j inv hc
   have hall:∀z∈zs,listed.getD z.i false=true:=by
    intro z hz
    have:=List.countP_eq_zero.1 (Nat.le_zero.1 hc) z hz
    simpa using this
   refine⟨?_,fin inv hall⟩
   cases hr:Region.ready .any ops listed with
   |nil=>rfl
   | cons i l =>
     obtain⟨z,hz,rfl,hu⟩:=mem i (by rw[hr];simp)
     have:=tf hu;rw[hall z hz]at this;cases this
 | succ fuel ih =>
   intro listed a w ι M G j inv hc
   refine⟨fun hr=> ?_,fun i hi=> ?_⟩
   · by_cases hall:∀z∈zs,listed.getD z.i false=true
     · exact fin inv hall
     · have:∃z∈zs,¬listed.getD z.i false=true:=by
        by_cases hx:∃z∈zs,¬listed.getD z.i false=true
        · exact hx
        · exact absurd (fun z hz=>by
           cases hb:listed.getD z.i false with
           |true=>rfl
           |false=>exact absurd ⟨z,hz,by simp [hb]⟩ hx) hall
       obtain⟨z,hz,hnd,o,ho,hed⟩:=hH (done:=fun i=>listed.getD i false=true) d.mz (fun z hz=>by simp at hz) this
       have:z.i∈Region.ready .any ops listed:=by
        refine mem_ready.2 ⟨?_,o,ho,fun e he hb=>hed e.on (List.mem_map.2 ⟨e,List.mem_filter.2 ⟨by simpa using he,hb⟩,rfl⟩)⟩
        have hlt:z.i<listed.size:=by rw[inv.sz];exact(uH.1 ho).1
        simp only[Bool.not_eq_true]at hnd
        rw[ux,Array.getElem?_eq_getElem hlt]at hnd ⊢
        exact hnd
       rw[hr]at this;cases this
   · refine inv.step hcal hbod d hnt hi fun a' w' ι' M' G' j' inv'=>ih inv' ?_
     obtain⟨z,hz,rfl,hu⟩:=mem i hi
     have hlt:z.i<listed.size:=by
      obtain⟨_,o,ho,_⟩:=mem_ready.1 hi
      rw[inv.sz];exact(uH.1 ho).1
     have:=gP (l:=zs) (p:=fun z=> !listed.getD z.i false) (q:=fun y=> !(listed.setIfInBounds z.i true).getD y.i false) (fun y hy hq=>by
      cases hb:listed.getD y.i false with
      |false=>rfl
      |true=>rw[(fQ hlt).2 (.inr hb)]at hq;cases hq) hz (by simp only[tf hu];rfl) (by simp only[(fQ hlt).2 (.inl rfl)];rfl)
     omega
theorem jH (hm : L.P.follows .mixedOrders = true) (hcal : Callee L w0 call) (hbod : cH L) (hn : aP call) {os : List aj} (hc : j3 L nt ops ord fl = some os) {ι : Io} {M : Mm} {w : World} {a : Act} {id : Nat}
 (he:aZ L ι M e0 a.tmps) (hnt:nt≤a.tmps.size) (r:R L w0 ι M h0 w) (hev:aM call os e0 h0=some (E,hN,gs)) (hst:aY call os E gs fl=true) {Q:Exit→Act→World→Prop}
 (hQ:∀ι' M' a' w',Gr h0 ι M hN ι' M'→R L w0 ι' M' hN w'→aZ L ι' M' E a'.tmps→a'.tmps.size=a.tmps.size→a'.defers=a.defers→Q .normal a' w'):(Code.region id ops true).wp L.P Q a w:=by
 obtain⟨zs,rfl,d⟩:=DH.of hc hev hst hn
 refine wp_region_any hm ?_
 obtain⟨G,hG,hg⟩:=cO hev
 have hf:∀i,(Array.replicate ops.size false).getD i false=false:=fun i=>by
  rw[ux]
  cases h:(Array.replicate ops.size false)[i]? with
  |none=>rfl
  |some b=>obtain⟨hlt,hb⟩:=uH.1 h;simp at hb;simp [←hb]
 have inv:Inv L w0 ops call zs e0 h0 E gs ι M a (Array.replicate ops.size false) a {w with drawn:=w.drawn+1} ι M G 0:=by
  refine⟨by simp,fun i o _ h=>(by have h2:(Array.replicate ops.size false).getD i false=true:=h;rw[hf]at h2;cases h2),hG,fun p z _ _=>⟨fun h=>(by rw[hf]at h;cases h),fun h=>(by omega)⟩,Nat.zero_le _,⟨hg.nx,fun _ _ q=>q,fun _ _ _ q=>q,fun _ _ _ q=>q⟩,(r.drew _).gw hg,fun t=> ?_,rfl,rfl, ?_⟩
  · have hlk:look (cut zs (fun i=>(Array.replicate ops.size false).getD i false) e0 E) t=look e0 t:=by
     rw[cut,bc]
     by_cases hu:t∈qR zs fun i=>(Array.replicate ops.size false).getD i false
     · rw[if_pos hu]
     · rw[if_neg hu]
       refine a9 (b6 d.ev) t fun m=>hu ?_
       have:t∈iP ((zs.map (·.x)).drop 0):=m
       obtain⟨q,y,_,hy,hd⟩:=d.drop this
       exact bU.2 ⟨y,uz hy,hf _,hd⟩
    rw[hlk];exact he t
  · intro q y eq hq v h' id hy hb _ hp hev' hid
    cases hι:ι id with
    |none=>rfl
    | some l =>
      rcases bT hb hev' with ⟨rfl,_,_⟩|⟨b,_,_,rfl,hid',_⟩
      · cases hid
      · rw[hid]at hid';obtain rfl:=ud hid'
        have h1:=r.jG _ l hι
        have h2:=d.eJ (Nat.zero_le q) (e1:=e0) (h1:=h0) rfl hp
        omega
 refine inv.any hcal hbod d hnt hQ ops.size ?_
 refine uP List.countP_le_length ?_
 rw[←d.len,←(dO d.mz).1];simp
def comp (L:Lk) (nt:Nat):Code→aF→Option aF
 | .skip,.skip=>some .skip
 | .region _ ops false,.oA _ vE=>(dc L nt ops ops.toList).bind fun os=>some (.oA os vE)
 | .region _ ops true,.ir ord _ fl vE=>(j3 L nt ops ord fl).bind fun os=>some (.ir ord os fl vE)
 | .seq a b,.seq x y=>(comp L nt a x).bind fun x'=>(comp L nt b y).bind fun y'=>some (.seq x' y')
 | .cond c a b,.cond _ x y vE=>(cX L c).bind fun c'=>(comp L nt a x).bind fun x'=>(comp L nt b y).bind fun y'=>some (.cond c' x' y' vE)
 | .block id c,.block _ x vE=>(comp L nt c x).bind fun x'=>some (.block id x' vE)
 | .loop c,.loop vE x=>(comp L nt c x).bind fun x'=>some (.loop vE x')
 | .exit id,.exit _=>some (.exit id)
 | .ret,.ret=>some .ret
 |_,_=>none
def mq:Ex→Exit
 | .normal=>.normal
 | .exit id=>.exit id
 | .ret=>.ret
theorem nr (hm : L.P.follows .mixedOrders = true) (hcal : Callee L w0 call) (hbod : cH L) (hn : aP call) (k : Nat) : ∀ (c : Code) (x0 x : aF), comp L nt c x0 = some x → ∀ {e : Env} {a : Act} {ι : Io} {M : Mm} {h : H} {w : World} {ex : Ex} {e' : Env} {h' : H} {Q : Exit → Act → World → Prop},
 aZ L ι M e a.tmps→nt≤a.tmps.size→R L w0 ι M h w→aK call (aI k) x e h=some (ex,e',h')→
 (∀ι' M' a' w',Gr h ι M h' ι' M'→R L w0 ι' M' h' w'→aZ L ι' M' e' a'.tmps→a'.tmps.size=a.tmps.size→a'.defers=a.defers→Q (mq ex) a' w')→c.wp L.P Q a w:=by
 intro c
 induction c with
 | skip =>
   intro x0 x hx e a ι M h w ex e' h' Q he hnt r hev hQ
   cases x0<;>simp only[comp,reduceCtorEq]at hx
   obtain rfl:=ud hx
   cases hev
   exact wp_skip (hQ _ _ _ _ (.refl _ _ _) r he rfl rfl)
 | region id ops dr =>
   intro x0 x hx e a ι M h w ex e' h' Q he hnt r hev hQ
   cases dr with
   | false =>
     cases x0<;>simp only[comp,reduceCtorEq]at hx
     simp only[uc]at hx
     obtain⟨os,h1,hx⟩:=hx
     obtain rfl:=ud hx
     simp only[aK,uc]at hev
     obtain⟨⟨e1,h2⟩,hv,hev⟩:=hev
     cases hev
     refine wp_region ?_
     have:=mI hcal hbod hn ops.toList 0 (Q:=Q) (fun j=>by simp) h1 he hnt r hv (fun ι' M' a' w' g r' he' hs hd=>hQ _ _ _ _ g r' (he'.ax _) hs hd)
     rwa [←List.range_eq_range',Array.length_toList]at this
   | true =>
     cases x0<;>simp only[comp,reduceCtorEq]at hx
     simp only[uc]at hx
     obtain⟨os,h1,hx⟩:=hx
     obtain rfl:=ud hx
     simp only[aK,uc]at hev
     obtain⟨⟨e1,h2,gs⟩,hv,hev⟩:=hev
     split at hev
     · rename_i hst
       cases hev
       exact jH hm hcal hbod hn h1 he hnt r hv hst (fun ι' M' a' w' g r' he' hs hd=>hQ _ _ _ _ g r' (he'.ax _) hs hd)
     · cases hev
 | seq c1 c2 i1 i2 =>
   intro x0 x hx e a ι M h w ex e' h' Q he hnt r hev hQ
   cases x0<;>simp only[comp,reduceCtorEq]at hx
   simp only[uc]at hx
   obtain⟨y1,g1,y2,g2,hx⟩:=hx
   obtain rfl:=ud hx
   simp only[aK,uc]at hev
   obtain⟨⟨ex1,e1,h1⟩,hv,hev⟩:=hev
   refine wp_seq (i1 _ _ g1 he hnt r hv fun ι' M' a' w' g r' he' hs hd=> ?_)
   split at hev
   · rename_i q;cases q
     exact i2 _ _ g2 he' (by rw[hs];exact hnt) r' hev fun ι2 M2 a2 w2 gg r2 he2 hs2 hd2=>hQ _ _ _ _ (g.trans gg) r2 he2 (by rw[hs2,hs]) (by rw[hd2,hd])
   · rename_i hne
     cases hev
     have:Q (mq ex) a' w':=hQ _ _ _ _ g r' he' hs hd
     cases ex with
     |normal=>exact absurd rfl (hne _ _)
     |exit id=>exact this
     |ret=>exact this
 | cond cnd c1 c2 i1 i2 =>
   intro x0 x hx e a ι M h w ex e' h' Q he hnt r hev hQ
   cases x0<;>simp only[comp,reduceCtorEq]at hx
   simp only[uc]at hx
   obtain⟨c',g0,y1,g1,y2,g2,hx⟩:=hx
   obtain rfl:=ud hx
   simp only[aK]at hev
   split at hev
   · rename_i t ht
     have hc:=aq he g0
     rw[ht]at hc
     refine wp_cond (t:=t) hc.bO ?_
     simp only[uc]at hev
     obtain⟨⟨ex1,e1,h1⟩,hv,hev⟩:=hev
     have hout:ex1=ex∧h1=h'∧∀ι' M' (tm:Array Value),aZ L ι' M' e1 tm→aZ L ι' M' e' tm:=by
      split at hev
      · rename_i q;cases q;cases hev;exact⟨rfl,rfl,fun _ _ _ he=>he.ax _⟩
      · cases hev;exact⟨rfl,rfl,fun _ _ _ he=>he⟩
     obtain⟨rfl,rfl,hr⟩:=hout
     cases t with
     |true=>exact i1 _ _ g1 he hnt r hv fun ι' M' a' w' g r' he' hs hd=>hQ _ _ _ _ g r' (hr _ _ _ he') hs hd
     |false=>exact i2 _ _ g2 he hnt r hv fun ι' M' a' w' g r' he' hs hd=>hQ _ _ _ _ g r' (hr _ _ _ he') hs hd
   · cases hev
 | block id c1 i1 =>
   intro x0 x hx e a ι M h w ex e' h' Q he hnt r hev hQ
   cases x0<;>simp only[comp,reduceCtorEq]at hx
   simp only[uc]at hx
   obtain⟨y1,g1,hx⟩:=hx
   obtain rfl:=ud hx
   simp only[aK,uc]at hev
   obtain⟨⟨ex1,e1,h1⟩,hv,hev⟩:=hev
   refine wp_block (i1 _ _ g1 he hnt r hv fun ι' M' a' w' g r' he' hs hd=> ?_)
   split at hev
   · rename_i q;cases q;cases hev;exact hQ _ _ _ _ g r' (he'.ax _) hs hd
   · rename_i j _ _ q;cases q
     simp only[mq,Exit.inBlock]
     split at hev
     · rename_i hj;cases hev;rw[if_pos hj];exact hQ _ _ _ _ g r' (he'.ax _) hs hd
     · rename_i hj;cases hev;rw[if_neg hj];exact hQ _ _ _ _ g r' he' hs hd
   · rename_i q;cases q;cases hev;exact hQ _ _ _ _ g r' he' hs hd
 | loop c1 i1 =>
   intro x0 x hx e a ι M h w ex e' h' Q he hnt r hev hQ
   cases x0<;>simp only[comp,reduceCtorEq]at hx
   rename_i vE y
   simp only[uc]at hx
   obtain⟨y1,g1,hx⟩:=hx
   obtain rfl:=ud hx
   simp only[aK]at hev
   have key:∀(n:Nat) {e:Env} {a:Act} {ι:Io} {M:Mm} {h:H} {w:World},aZ L ι M e a.tmps→nt≤a.tmps.size→R L w0 ι M h w→aI n (fun e h=>aK call (aI k) y1 (ax e vE) h) e h=some (ex,e',h')→
    (∀ι' M' a' w',Gr h ι M h' ι' M'→R L w0 ι' M' h' w'→aZ L ι' M' e' a'.tmps→a'.tmps.size=a.tmps.size→a'.defers=a.defers→Q (mq ex) a' w')→Code.rounds L.P c1 Q n a w:=by
    intro n
    induction n with
    |zero=>intro e a ι M h w _ _ _ hev;cases hev
    | succ n ih =>
      intro e a ι M h w he hnt r hev hQ
      simp only[aI,uc]at hev
      obtain⟨⟨ex1,e1,h1⟩,hv,hev⟩:=hev
      refine i1 _ _ g1 (he.ax _) hnt r hv fun ι' M' a' w' g r' he' hs hd=> ?_
      split at hev
      · rename_i q;cases q
        exact ih he' (by rw[hs];exact hnt) r' hev fun ι2 M2 a2 w2 gg r2 he2 hs2 hd2=>hQ _ _ _ _ (g.trans gg) r2 he2 (by rw[hs2,hs]) (by rw[hd2,hd])
      · rename_i hne
        cases hev
        have:Q (mq ex) a' w':=hQ _ _ _ _ g r' he' hs hd
        cases ex with
        |normal=>exact absurd rfl (hne _ _)
        |exit id=>exact this
        |ret=>exact this
   exact wp_loop_rounds k (key k he hnt r hev hQ)
 | exit id =>
   intro x0 x hx e a ι M h w ex e' h' Q he hnt r hev hQ
   cases x0<;>simp only[comp,reduceCtorEq]at hx
   obtain rfl:=ud hx
   cases hev
   exact wp_exit (hQ _ _ _ _ (.refl _ _ _) r he rfl rfl)
 | ret =>
   intro x0 x hx e a ι M h w ex e' h' Q he hnt r hev hQ
   cases x0<;>simp only[comp,reduceCtorEq]at hx
   obtain rfl:=ud hx
   cases hev
   exact wp_ret (hQ _ _ _ _ (.refl _ _ _) r he rfl rfl)
 | _ =>
   intro x0 x hx
   cases x0<;>simp only[comp,reduceCtorEq]at hx
end
end Ab
namespace Ab
open Go RowKit
structure Kp (h h':H):Prop where
 fl:h'.floor=h.floor
 get:∀id,id<h.floor→h'.get id=h.get id
theorem Kp.refl (h:H):Kp h h:=⟨rfl,fun _ _=>rfl⟩
theorem Kp.trans {a b c:H} (h:Kp a b) (k:Kp b c):Kp a c:=⟨k.fl.trans h.fl,fun id hi=>by rw[k.get id (by rw[h.fl];exact hi),h.get id hi]⟩
theorem Kp.alloc {h:H} (hf:h.floor≤h.next) (cs:List AV):Kp h (h.alloc cs):=⟨H.iW h cs,fun id hi=>by rw[H.aV];rw[if_neg (by omega)]⟩
theorem Kp.set {h:H} {id:Nat} (hf:h.floor≤id) (cs:List AV):Kp h (h.set id cs):=⟨H.kD h id cs,fun i hi=>by rw[H.dd];rw[if_neg (by omega)]⟩
theorem Kp.del {h:H} {id:Nat} (hf:h.floor≤id):Kp h (h.del id):=⟨rfl,fun i hi=>by rw[H.dJ];rw[if_neg (by omega)]⟩
def rj (call:ae):Prop:=∀f a h v h',h.floor≤h.next→call f a h=some (v,h')→Kp h h'
theorem kU {h h':H} {sz by_:Nat} {a:AV} {n:Nat} {bs:List AV} {v:AV} (hf:h.floor≤h.next) (hh:dC h sz by_ a n bs=some (v,h')):Kp h h':=by
 unfold dC at hh
 repeat' split at hh
 all_goals first
  |(cases hh;done)
  |(obtain⟨_,rfl⟩:=uf (ud hh);exact .alloc hf _)
  |(obtain⟨_,rfl⟩:=uf (ud hh);exact .refl _)
  |skip
 rename_i hsf
 simp only[uc]at hh
 obtain⟨cs,_,hh⟩:=hh
 repeat' split at hh
 all_goals first
  |(cases hh;done)
  |(obtain⟨_,rfl⟩:=uf (ud hh);exact .set hsf.2 _)
  |(obtain⟨_,rfl⟩:=uf (ud hh);exact(Kp.del hsf.2).trans (Kp.alloc (show(h.del _).floor≤(h.del _).next from hf) _))
theorem ny {call : ae} (hc : rj call) {e : Env} {h h' : H} {o : bR} {v : AV} (hf : h.floor ≤ h.next) (hev : ah call e h o = some (v, h')) : Kp h h' := by
 by_cases hb:o.aH=true
 · obtain⟨b,_,_,rfl⟩:=cA hb hev
   exact .alloc hf _
 by_cases hl:o.aN=true
 · cases o <;> simp only [bR.aN, uq] at hl <;> simp only [ah] at hev
   case store n p x=>
    simp only[uc,uh,uj]at hev
    obtain⟨h1,hs,_,rfl⟩:=hev
    unfold cJ at hs
    split at hs
    · simp only[uc]at hs
      obtain⟨cs,_,hs⟩:=hs
      split at hs
      · rename_i q;obtain rfl:=ud hs;exact .set q.1 _
      · cases hs
    · cases hs
   case call f args=>
    split at hev
    · exact hc _ _ _ _ _ hf hev
    · cases hev
   case inv2=>
    split at hev
    · split at hev
      · simp only[uc]at hev
        obtain⟨_,_,hev⟩:=hev
        exact hc _ _ _ _ _ hf hev
      · cases hev
    · cases hev
   case app=>
    unfold j9 at hev
    simp only[uc]at hev
    obtain⟨r,_,hev⟩:=hev
    exact kU hf hev
   case jt=>
    unfold gJ at hev
    repeat' split at hev
    all_goals first
     |(cases hev;done)
     |(obtain⟨_,rfl⟩:=uf (ud hev);exact .alloc hf _)
   case copy=>
    unfold gK at hev
    simp only[uc]at hev
    obtain⟨r,_,hev⟩:=hev
    split at hev
    · obtain⟨_,rfl⟩:=uf (ud hev);exact .refl _
    · split at hev
      · rename_i q
        simp only[uc]at hev
        obtain⟨r,_,hev⟩:=hev
        split at hev
        · obtain⟨_,rfl⟩:=uf (ud hev);exact .set q.2.1 _
        · cases hev
      · cases hev
    · cases hev
   case clear=>
    simp only[uc,uh,uj]at hev
    obtain⟨h1,hev,_,rfl⟩:=hev
    unfold dW at hev
    repeat' split at hev
    all_goals first
     |(cases hev;done)
     |(obtain rfl:=ud hev;exact .refl _)
     |skip
    rename_i q
    simp only[uc]at hev
    obtain⟨r,_,hev⟩:=hev
    split at hev
    · obtain rfl:=ud hev;exact .set q.2.1 _
    · cases hev
 · rw[bG (by simpa using hl) (by simpa using hb) hev];exact .refl _
theorem kC {call:ae} (hc:rj call) {e:Env} {h h':H} {o:aj} {v:AV} (hf:h.floor≤h.next) (hev:ai call o e h=some (v,h')):Kp h h':=by
 unfold ai at hev
 repeat' split at hev
 all_goals first
  |exact ny hc hf hev
  |(obtain⟨_,rfl⟩:=uf (ud hev);exact .refl _)
  |(cases hev;done)
theorem Kp.fn {h h':H} (k:Kp h h') (hn:h.next≤h'.next) (hf:h.floor≤h.next):h'.floor≤h'.next:=by rw[k.fl];omega
theorem fL {call:ae} (hn:aP call) (hc:rj call):∀{os:List aj} {e e':Env} {h h':H},h.floor≤h.next→au call os e h=some (e',h')→Kp h h'
 |[],_,_,_,_,_,hev=>by obtain⟨_,rfl⟩:=uf (ud hev);exact .refl _
 | o :: os, _, _, _, _, hf, hev => by
   simp only[au,uc]at hev
   obtain⟨r,h1,h2⟩:=hev
   have k:=kC hc hf h1
   exact k.trans (fL hn hc (k.fn (cg hn h1) hf) h2)
def s9 (F:Env→H→dk):Prop:=∀e h x e' h',h.floor≤h.next→F e h=some (x,e',h')→Kp h h'
theorem ja {F:Env→H→dk} (hN:jT F) (hF:s9 F):∀n,s9 (aI n F)
 |0,_,_,_,_,_,_,h=>by cases h
 | n + 1, e, h, x, e', h', hf, hev => by
   simp only[aI,uc]at hev
   obtain⟨⟨y,e1,h1⟩,ha,hb⟩:=hev
   have k:=hF _ _ _ _ _ hf ha
   split at hb
   · rename_i q;cases q
     exact k.trans (ja hN hF n _ _ _ _ _ (k.fn (hN _ _ _ _ _ ha) hf) hb)
   · cases hb;exact k
theorem cM {call : ae} (hn : aP call) (hc : rj call) (d : Nat) : ∀ (x : aF), s9 (aK call (aI d) x)
 | .skip,_,_,_,_,_,_,hev=>by cases hev;exact .refl _
 | .exit _,_,_,_,_,_,_,hev=>by cases hev;exact .refl _
 | .ret,_,_,_,_,_,_,hev=>by cases hev;exact .refl _
 | .oA ops vE, _, _, _, _, _, hf, hev => by
   simp only[aK,uc]at hev
   obtain⟨r,h1,h2⟩:=hev
   cases h2;exact fL hn hc hf h1
 | .ir ord ops fl vE, _, _, _, _, _, hf, hev => by
   simp only[aK,uc]at hev
   obtain⟨r,h1,h2⟩:=hev
   split at h2
   · cases h2;exact fL hn hc hf (b6 h1)
   · cases h2
 | .seq a b, _, _, _, _, _, hf, hev => by
   simp only[aK,uc]at hev
   obtain⟨⟨y,e1,h1⟩,ha,hb⟩:=hev
   have k:=cM hn hc d a _ _ _ _ _ hf ha
   split at hb
   · rename_i q
     cases q
     exact k.trans (cM hn hc d b _ _ _ _ _ (k.fn (bu hn (ch d) a _ _ _ _ _ ha) hf) hb)
   · cases hb;exact k
 | .cond x a b vE, _, h0, _, _, _, hf, hev => by
   simp only[aK]at hev
   split at hev
   · simp only[uc]at hev
     obtain⟨⟨y,e1,h1⟩,ha,hb⟩:=hev
     have:Kp h0 h1:=by
      split at ha
      · exact cM hn hc d a _ _ _ _ _ hf ha
      · exact cM hn hc d b _ _ _ _ _ hf ha
     split at hb
     · rename_i q;cases q;cases hb;exact this
     · cases hb;exact this
   · cases hev
 | .block id c vE, _, _, _, _, _, hf, hev => by
   simp only[aK,uc]at hev
   obtain⟨⟨y,e1,h1⟩,ha,hb⟩:=hev
   have:=cM hn hc d c _ _ _ _ _ hf ha
   split at hb
   · rename_i q;cases q;cases hb;exact this
   · rename_i q;cases q
     split at hb<;>(cases hb;exact this)
   · rename_i q;cases q;cases hb;exact this
 | .loop vE c,_,_,_,_,_,hf,hev=>ja (fun _ _ _ _ _ h=>bu hn (ch d) c _ _ _ _ _ h) (fun _ _ _ _ _ hf h=>cM hn hc d c _ _ _ _ _ hf h) d _ _ _ _ _ hf hev
theorem iZ (A : a7) : ∀ d, rj (aS A d)
 |0,_,_,_,_,_,_,h=>by cases h
 | d + 1, f, args, h, v, h', hf, hev => by
   simp only[aS,uc]at hev
   obtain⟨fn,_,hr⟩:=hev
   unfold eM at hr
   split at hr
   · simp only[uc]at hr
     obtain⟨⟨y,e1,h1⟩,ha,hb⟩:=hr
     unfold fin at hb
     split at hb
     · cases hb
     · rename_i q;cases q
       simp only[uc]at hb
       obtain⟨vs,_,hb⟩:=hb
       split at hb
       · simp only[uc]at hb
         obtain⟨_,_,hb⟩:=hb
         cases hb;exact .refl _
       · rename_i hp;cases hb
         rw[if_neg hp]at ha
         exact cM (cE A d) (iZ A d) d _ _ _ _ _ _ hf ha
   · cases hr
end Ab
namespace Ab
open Go RowKit
section
variable {L:Lk} {w0:World} {ι ι1:Io} {M M1:Mm} {h h1:H} {w w1:World}
open Classical in
noncomputable def bw (M1:Mm) (ι1:Io) (h1:H) (fl:Nat) (w1:World):Mm:=fun b o=>
 match M1 b o with
 |some v=>some v
 |none=>if∃id cs l,fl≤id∧h1.get id=some cs∧ι1 id=some l∧l.block=b∧l.base≤o∧o<l.base+cs.length then w1.cell? (at' b o)else none
theorem dK (fl:Nat):m0 M1 (bw M1 ι1 h1 fl w1):=fun b o v q=>by simp only[bw,q]
theorem jK (r:R L w0 ι1 M1 h1 w1) {fl id:Nat} (hid:fl≤id) {cs:List AV} (hg:h1.get id=some cs) {l:Loc} (hl:ι1 id=some l) {i:Nat} (hi:i<cs.length) {v:Value} (hv:w1.cell? (at' l.block (l.base+i))=some v):bw M1 ι1 h1 fl w1 l.block (l.base+i)=some v:=by
 simp only[bw]
 split
 · rename_i u hu;rw[r.ar _ _ _ hu]at hv;exact hv
 · rw[if_pos ⟨id,cs,l,hid,hg,hl,rfl,by omega,by omega⟩];exact hv
theorem fR {fl b o:Nat} {v:Value} (hv:bw M1 ι1 h1 fl w1 b o=some v):M1 b o=some v∨(w1.cell? (at' b o)=some v∧∃id cs l,fl≤id∧h1.get id=some cs∧ι1 id=some l∧l.block=b∧l.base≤o∧o<l.base+cs.length):=by
 simp only[bw]at hv
 split at hv
 · rename_i u hu;obtain rfl:=ud hv;exact .inl hu
 · split at hv
   · rename_i q;exact .inr ⟨hv,q⟩
   · cases hv
theorem R.back (r:R L w0 ι M h w) (r1:R L w0 ι1 M1 h1 w1) (hg:∀id,id<h.next→h1.get id=h.get id) (hι:mU ι ι1) (hM:m0 M M1):R L w0 ι (bw M1 ι1 h1 h.next w1) h w1:=by
 have g:∀id cs l,h.get id=some cs→ι id=some l→h1.get id=some cs∧ι1 id=some l:=fun id cs l a b=>⟨by rw[hg id (r.jG id l b)];exact a,hι _ _ b⟩
 refine⟨r1.below,r.jG,fun id cs l a b=>r1.gu id cs l (g _ _ _ a b).1 (g _ _ _ a b).2,fun id cs l a b=>r1.own id cs l (g _ _ _ a b).1 (g _ _ _ a b).2,fun id cs l a b i x hx=> ?_,r.fG,fun b o v hv=> ?_,fun b o v id cs l hv a c=> ?_⟩
 · obtain⟨v,q1,q2⟩:=r1.val id cs l (g _ _ _ a b).1 (g _ _ _ a b).2 i x hx
   obtain⟨v0,_,q3⟩:=r.val id cs l a b i x hx
   exact⟨v,q1,(q2.shrink hι q3).mono (fun _ _ q=>q) (dK _)⟩
 · rcases fR hv with q|⟨q,_⟩
   · exact r1.ar b o v q
   · exact q
 · obtain⟨a1,c1⟩:=g _ _ _ a c
   rcases fR hv with q|⟨_,id',cs',l',q1,q2,q3,q4,q5,q6⟩
   · exact r1.gv b o v id cs l q a1 c1
   · intro hb
     have hne:id≠id':=fun e=>by have:=r.jG id l c;omega
     have hlen:=(r1.gu id' cs' l' q2 q3)
     rcases r1.fG id id' cs cs' l l' a1 q2 c1 q3 hne (by omega)with hd|hd<;>omega
theorem bp {f:AV→Option AV}:∀{l l':List AV},fm f l=some l'→l'.length=l.length∧∀(i:Nat) (a':AV),l'[i]?=some a'→∃a,l[i]?=some a∧f a=some a'
 |[],l',h=>by obtain rfl:=ud h;exact⟨rfl,fun i a q=>by simp at q⟩
 | v :: r, l', h => by
   simp only[fm,uc]at h
   obtain⟨v',h1,r',h2,h3⟩:=h
   obtain rfl:=ud h3
   obtain⟨g1,g2⟩:=bp h2
   refine⟨by simp [g1],fun i a q=> ?_⟩
   cases i with
   |zero=>simp at q;subst q;exact⟨v,rfl,h1⟩
   |succ i=>simpa using g2 i a (by simpa using q)
theorem jR (r1 : R L w0 ι1 M1 h1 w1) {fl : Nat} (hold : ∀ id l, id < fl → ι1 id = some l → ι id = some l) : ∀ (n : Nat) (top : Bool) (a a' : AV) (v : Value), V L ι1 M1 a v → snap h1.get fl n top a = some a' →
 (top=true→V L ι (bw M1 ι1 h1 fl w1) a' v)∧(top=false→VI L (bw M1 ι1 h1 fl w1) a' v):=by
 intro n
 induction n with
 |zero=>intro top a a' v _ hs;cases hs
 | succ n ih =>
   intro top a a' v hV hs
   have ar:∀{x:AV},VI L M1 x v→a'=x→(top=true→V L ι (bw M1 ι1 h1 fl w1) a' v)∧(top=false→VI L (bw M1 ι1 h1 fl w1) a' v):=by
    intro x hx e
    subst e
    exact⟨fun _=>.ar (hx.mono (dK _)),fun _=>hx.mono (dK _)⟩
   have row:∀{t:Bool} {xs ys:List AV} {vs:List Value},fm (snap h1.get fl n t) xs=some ys→(∀(i:Nat) (a:AV) (v:Value),xs[i]?=some a→vs[i]?=some v→V L ι1 M1 a v)→
    (t=true→∀(i:Nat) (a:AV) (v:Value),ys[i]?=some a→vs[i]?=some v→V L ι (bw M1 ι1 h1 fl w1) a v)∧(t=false→∀(i:Nat) (a:AV) (v:Value),ys[i]?=some a→vs[i]?=some v→VI L (bw M1 ι1 h1 fl w1) a v):=by
    intro t xs ys vs hm hx
    obtain⟨_,g2⟩:=bp hm
    refine⟨fun ht i a v ha hv=> ?_,fun ht i a v ha hv=> ?_⟩
    · obtain⟨b,hb,hsb⟩:=g2 i a ha
      exact(ih t b a v (hx i b v hb hv) hsb).1 ht
    · obtain⟨b,hb,hsb⟩:=g2 i a ha
      exact(ih t b a v (hx i b v hb hv) hsb).2 ht
   have cells:∀{id:Nat} {cs:List AV} {l:Loc} {off m:Nat} {ys:List AV},¬id<fl→h1.get id=some cs→ι1 id=some l→fm (snap h1.get fl n false) ((cs.drop off).take m)=some ys→
    ∃vs:Nat→Value,(∀(i:Nat) (c:AV),ys[i]?=some c→bw M1 ι1 h1 fl w1 l.block (l.base+off+i)=some (vs i))∧∀(i:Nat) (c:AV),ys[i]?=some c→VI L (bw M1 ι1 h1 fl w1) c (vs i):=by
    intro id cs l off m ys hid hg hl hm
    obtain⟨_,g2⟩:=bp hm
    refine⟨fun i=>(w1.cell? (at' l.block (l.base+off+i))).getD undef, ?_⟩
    have key:∀(i:Nat) (c:AV),ys[i]?=some c→∃v,w1.cell? (at' l.block (l.base+off+i))=some v∧off+i<cs.length∧VI L (bw M1 ι1 h1 fl w1) c v:=by
     intro i c hc
     obtain⟨b,hb,hsb⟩:=g2 i c hc
     have hb':cs[off+i]?=some b:=by
      rw[uQ]at hb
      split at hb
      · rwa [uI]at hb
      · cases hb
     obtain⟨v,q1,q2⟩:=r1.val id cs l hg hl (off+i) b hb'
     rw[←uu]at q1
     exact⟨v,q1,(um.1 hb').1,(ih false b c v q2 hsb).2 rfl⟩
    refine⟨fun i c hc=> ?_,fun i c hc=> ?_⟩
    · obtain⟨v,q1,q2,_⟩:=key i c hc
      simp only[q1,Option.getD_some]
      rw[uu]
      exact jK r1 (by omega) hg hl q2 (by rw[←uu];exact q1)
    · obtain⟨v,q1,_,q3⟩:=key i c hc
      simp only[q1,Option.getD_some];exact q3
   cases a with
   |bot=>cases hV with|ar hx=>exact ar hx (ud hs).symm
   |bool b=>cases hV with|ar hx=>exact ar hx (ud hs).symm
   |int k m=>cases hV with|ar hx=>exact ar hx (ud hs).symm
   |str s=>cases hV with|ar hx=>exact ar hx (ud hs).symm
   |b9=>cases hV with|ar hx=>exact ar hx (ud hs).symm
   |aJ c o=>cases hV with|ar hx=>exact ar hx (ud hs).symm
   |aO=>cases hV with|ar hx=>exact ar hx (ud hs).symm
   |aU t c o l s=>cases hV with|ar hx=>exact ar hx (ud hs).symm
   |eE=>cases hV with|ar hx=>exact ar hx (ud hs).symm
   |eF=>cases hV with|ar hx=>exact ar hx (ud hs).symm
   | aC id off =>
     obtain⟨l,hl,rfl⟩:=hV.aT
     simp only[snap]at hs
     split at hs
     · rename_i hid
       cases top with
       |false=>cases hs
       |true=>obtain rfl:=ud hs;exact⟨fun _=>.aC (hold id l hid hl),nofun⟩
     · rename_i hid
       simp only[uc]at hs
       obtain⟨cs,hg,ys,hm,hs⟩:=hs
       obtain rfl:=ud hs
       have hm':fm (snap h1.get fl n false) ((cs.drop 0).take cs.length)=some ys:=by simpa using hm
       obtain⟨vs,k1,k2⟩:=cells hid hg hl hm'
       have:VI L (bw M1 ι1 h1 fl w1) (.aJ ys off) (.pointer (some (at' l.block (l.base+off)))):=.aJ vs (fun i c hc=>k1 i c hc) k2
       exact⟨fun _=>.ar this,fun _=>this⟩
   | aD id off len sz =>
     obtain⟨l,cap,ad,hl,rfl,c1,c2,c3,c4⟩:=hV.aG
     simp only[snap]at hs
     split at hs
     · rename_i hid
       cases top with
       |false=>cases hs
       |true=>obtain rfl:=ud hs;exact⟨fun _=>.aD (hold id l hid hl) c1 c2 c3 c4,nofun⟩
     · rename_i hid
       simp only[uc]at hs
       obtain⟨cs,hg,hs⟩:=hs
       split at hs
       · rename_i hle
         simp only[uc]at hs
         obtain⟨ys,hm,hs⟩:=hs
         obtain rfl:=ud hs
         obtain⟨vs,k1,k2⟩:=cells hid hg hl hm
         have hlen:=(bp hm).1
         have hmul:len* sz≤cap* sz:=uy sz c1
         have:VI L (bw M1 ι1 h1 fl w1) (.aU false ys 0 len sz) (.slice (some ad) len cap):=
          .aU (b:=l.block) (base:=l.base+off) vs k1 k2 c1 (fun q=>by rw[c2 q];rfl) (by rw[hlen];simp only[List.length_take,List.length_drop];omega) nofun
         exact⟨fun _=>.ar this,fun _=>this⟩
       · cases hs
   | agg cs =>
     simp only[snap,uc]at hs
     obtain⟨ys,hm,hs⟩:=hs
     obtain rfl:=ud hs
     obtain⟨vs,rfl,q1,q2⟩:=hV.fq
     have hl:=(bp hm).1
     obtain⟨k1,k2⟩:=row hm q2
     exact⟨fun ht=>.agg (by omega) (k1 ht),fun ht=>.agg (by omega) (k2 ht)⟩
   | bJ cs =>
     simp only[snap,uc]at hs
     obtain⟨ys,hm,hs⟩:=hs
     obtain rfl:=ud hs
     obtain⟨vs,rfl,q1,q2⟩:=hV.j7
     have hl:=(bp hm).1
     obtain⟨k1,k2⟩:=row hm q2
     exact⟨fun ht=>.bJ (by omega) (k1 ht),fun ht=>.bJ (by omega) (k2 ht)⟩
   | fn f as cs =>
     simp only[snap,uc]at hs
     obtain⟨ys,hm,zs,hm2,hs⟩:=hs
     obtain rfl:=ud hs
     obtain⟨fid,va,vc,rfl,q0,q1,q2,q3,q4⟩:=hV.ey
     have hl:=(bp hm).1
     have hl2:=(bp hm2).1
     obtain⟨k1,k2⟩:=row hm q3
     obtain⟨k3,k4⟩:=row hm2 q4
     exact⟨fun ht=>.fn q0 (by omega) (by omega) (k1 ht) (k3 ht),fun ht=>.fn q0 (by omega) (by omega) (k2 ht) (k4 ht)⟩
   | iface t x =>
     simp only[snap,uc]at hs
     obtain⟨y,hy,hs⟩:=hs
     obtain rfl:=ud hs
     obtain⟨tid,u,rfl,q1,q2⟩:=hV.bH
     obtain⟨k1,k2⟩:=ih top x y u q2 hy
     exact⟨fun ht=>.iface q1 (k1 ht),fun ht=>.iface q1 (k2 ht)⟩
def cx (L:Lk):List ResultVar→Option (List RV)
 |[]=>some []
 | .tmp t::r=>(cx L r).bind fun rs=>some (.tmp t::rs)
 | .cell t ty::r=>(gI L.P ty).bind fun a=>(bX L.P ty).bind fun n=>(cx L r).bind fun rs=>some (.cell t a n::rs)
theorem eK (r : R L w0 ι M h w) {e : Env} {tmps : Array Value} (he : aZ L ι M e tmps) : ∀ {l : List ResultVar} {rs : List RV} {vs : List AV}, cx L l = some rs → cm e h rs = some vs →
 ∃ vals : List Value, ((l.mapM fun
   | .tmp t=>pure (tmps.getD t undef)
   | .cell a t=>do loadVar t (←asAddr (tmps.getD a undef)):Sem (List Value)).run L.P w)=.ok vals w∧aw L ι M vs vals
 | [], rs, vs, hc, hr => by
   obtain rfl:=ud hc
   obtain rfl:=ud hr
   exact⟨[],rfl,rfl,fun i a v q=>by simp at q⟩
 | .tmp t :: l, rs, vs, hc, hr => by
   simp only[cx,uc]at hc
   obtain⟨rs',hc,q⟩:=hc
   obtain rfl:=ud q
   simp only[cm,mO,uc]at hr
   obtain⟨v,hv,vs',hr,q⟩:=hr
   obtain rfl:=ud hv
   obtain rfl:=ud q
   obtain⟨vals,g1,g2⟩:=eK r he hc hr
   refine⟨tmps.getD t undef::vals, ?_,by simp [g2.1],fun i a v ha hv=> ?_⟩
   · simp only[List.mapM_cons,Sem.run_bind,Sem.run_pure,Result.andThen_ok,g1]
   · cases i with
     |zero=>simp at ha hv;subst ha;subst hv;rw[←ux];exact he t
     |succ i=>exact g2.2 i a v (by simpa using ha) (by simpa using hv)
 | .cell t ty :: l, rs, vs, hc, hr => by
   simp only[cx,uc]at hc
   obtain⟨ag,ha,n,hn,rs',hc,q⟩:=hc
   obtain rfl:=ud q
   simp only[cm,mO,uc]at hr
   obtain⟨v,hv,vs',hr,q⟩:=hr
   obtain rfl:=ud q
   obtain⟨vals,g1,g2⟩:=eK r he hc hr
   have ht:=he t
   have hload:∃u,((do loadVar ty (←asAddr (tmps.getD t undef)):Sem Value).run L.P w)=.ok u w∧V L ι M v u:=by
    unfold bN at hv
    split at hv
    · rename_i id off q
      rw[q]at ht
      obtain⟨lo,hlo,hp⟩:=ht.aT
      simp only[uc]at hv
      obtain⟨cs,hg,hv⟩:=hv
      obtain⟨u,k1,k2⟩:=dg ha hn (r.row hg hlo) hv
      exact⟨u,by rw[hp];simpa [asAddr]using k1,k2⟩
    · rename_i cs off q
      rw[q]at ht
      obtain⟨b,base,hp,hrow⟩:=V.b8 r ht
      obtain⟨u,k1,k2⟩:=dg ha hn hrow hv
      exact⟨u,by rw[hp];simpa [asAddr]using k1,k2⟩
    · cases hv
   obtain⟨u,k1,k2⟩:=hload
   refine⟨u::vals, ?_,by simp [g2.1],fun i a x hx hy=> ?_⟩
   · simp only[List.mapM_cons,Sem.run_bind,Sem.run_pure,Result.andThen_ok,g1]at k1 ⊢
     rw[k1];simp only[Result.andThen_ok,g1]
   · cases i with
     |zero=>simp at hx hy;subst hx;subst hy;exact k2
     |succ i=>exact g2.2 i a x (by simpa using hx) (by simpa using hy)
theorem gG (r:R L w0 ι M h w) {e:Env} {fn:Func} {tmps:Array Value} (he:aZ L ι M e tmps) {rs:List RV} {vs:List AV} (hc:cx L fn.results.toList=some rs) (hr:cm e h rs=some vs):
 ∃v,(results fn tmps).run L.P w=.ok v w∧V L ι M (cZ vs) v:=by
 obtain⟨vals,g1,g2⟩:=eK r he hc hr
 unfold results
 rw[Array.mapM_eq_mapM_toList]
 have:(if hx:vals.toArray.size=1 then vals.toArray[0]else .tuple vals.toArray)=(if hx:vals.toArray.size=1 then vals.toArray[0]else .tuple vals.toArray):=rfl
 refine⟨if hx:vals.toArray.size=1 then vals.toArray[0]else .tuple vals.toArray, ?_, ?_⟩
 · simp only[Sem.run_bind,Sem.run_map,Sem.run_pure]
   erw [g1]
   rfl
 · match vs,vals,g2 with
   |[v],[u],g2=>simpa [cZ]using g2.2 0 v u rfl rfl
   |[],[],g2=>simp only[cZ];exact .bJ g2.1 g2.2
   | a :: b :: vs, x :: y :: vals, g2 =>
     have:¬(x::y::vals).toArray.size=1:=by simp
     rw[dif_neg this]
     exact .bJ g2.1 g2.2
   |[],_::_,g2=>cases g2.1
   |_::_,[],g2=>cases g2.1
   |[_],_::_::_,g2=>cases g2.1
   |_::_::_,[_],g2=>cases g2.1
end
end Ab
namespace Ab
open Go RowKit
structure dV (L:Lk) (A:a7):Prop where
 hm:L.P.follows .mixedOrders=true
 fns : ∀ (fid : FuncId) (f : Nat), L.mf fid = some f → ∃ fn c, L.P.funcs[fid]? = some fn ∧ fn.body = some c ∧ (fn.name == "runtime.NumGoroutine") = false ∧
  ∀af,A f=some af→(∃x0,comp L fn.ntmps c x0=some af.body)∧cx L fn.results.toList=some af.res
 tY:∀name t f d,L.iv name=some (t,f,d)→∀T,L.mt T=t→∃fid,L.mf fid=some f∧kS L.P T name fid d
 ua:∀t k,L.ta t=some k→rf L.P t∧∀T,L.mt T=k→T=t
theorem dV.pO {L:Lk} {A:a7} (lk:dV L A):cH L:=⟨fun fid f h=>let ⟨fn,c,a,b,d,_⟩:=lk.fns fid f h;⟨fn,c,a,b,d⟩,lk.tY,lk.ua⟩
theorem fe : ∀ (args : List AV) (k t : Nat), look (params k args) t = if k ≤ t then (args[t - k]?).getD .bot else .bot
 |[],k,t=>by simp [params,look]
 | v :: r, k, t => by
   simp only[params,look,fe r (k+1) t]
   by_cases h:k=t
   · subst h;simp
   · rw[if_neg h]
     by_cases hk:k≤t
     · have e:t-k=(t-(k+1))+1:=by omega
       rw[if_pos hk,if_pos (by omega),e,uF]
     · rw[if_neg hk,if_neg (by omega)]
section
variable {L:Lk} {w0:World} {ι:Io} {M:Mm} {h:H} {w:World}
theorem aZ.params {args:List AV} {vals:List Value} (hr:aw L ι M args vals) (n:Nat):aZ L ι M (params 0 args) (vals.toArray++Array.replicate n undef):=by
 intro t
 rw[fe,if_pos (Nat.zero_le _),Nat.sub_zero]
 cases ha:args[t]? with
 |none=>exact .ar (.bot _)
 | some a =>
   obtain⟨hlt,_⟩:=um.1 ha
   have hlt':t<vals.length:=by rw[←hr.1];exact hlt
   have hv:vals[t]?=some vals[t]:=List.getElem?_eq_getElem hlt'
   have:=hr.2 t a _ ha hv
   rw[ux,Array.getElem?_append_left (by simpa using hlt')]
   simpa [hv]using this
theorem R.dG (r:R L w0 ι M h w):R L w0 ι M h.dG w:=⟨r.below,r.jG,r.gu,r.own,r.val,r.fG,r.ar,r.gv⟩
theorem callee {A : a7} (lk : dV L A) : ∀ d, Callee L w0 (aS A d)
 |0,_,_,_,_,_,_,_,_,_,_,_,hev,_,_=>by cases hev
 | d + 1, f, fid, args, vals, ι, M, h, h', w, v, hmf, hev, r, hrow => by
   have ih:=callee lk d
   obtain⟨fn,c,hf,hb,_,hA⟩:=lk.fns fid f hmf
   simp only[aS,uc]at hev
   obtain⟨af,haf,hev⟩:=hev
   obtain⟨⟨x0,hx⟩,hres⟩:=hA af haf
   unfold eM at hev
   split at hev
   · rename_i hnp
     simp only[uc]at hev
     obtain⟨⟨ex,e1,h1⟩,hv,hfin⟩:=hev
     have hsz:fn.ntmps≤(vals.toArray++Array.replicate (fn.ntmps-vals.toArray.size) undef).size:=by simp;omega
     refine calls_of_wp hf hb ?_
     have hr':R L w0 ι M (if af.pure=true then h.dG else h) w:=by
      split
      · exact r.dG
      · exact r
     refine nr lk.hm ih lk.pO (cE A d) d c x0 af.body hx (a:={tmps:=vals.toArray++Array.replicate (fn.ntmps-vals.toArray.size) undef,defers:=[]}) (aZ.params hrow _) hsz hr' hv ?_
     intro ι1 M1 a1 w1 g r1 he1 _ hd1
     have post:∀(P:Value→World→Prop) (vs:List AV),cm e1 h1 af.res=some vs→(∀u,V L ι1 M1 (cZ vs) u→P u w1)→bodyPost L.P fn (fun e w'=>∃v',e=.returned v'∧P v' w') .normal a1 w1:=by
      intro P vs hvs hP
      obtain⟨u,k1,k2⟩:=gG r1 (fn:=fn) he1 hres hvs
      exact⟨hd1,u,k1,u,rfl,hP u k2⟩
     have main:∀vs,cm e1 h1 af.res=some vs→(if af.pure=true then(snap h1.get h.next gq true (cZ vs)).bind fun v=>some (v,h)else some (cZ vs,h1))=some (v,h')→
      bodyPost L.P fn (fun e w'=>∃v',e=.returned v'∧Out L w0 ι M h h' v v' w') .normal a1 w1:=by
      intro vs hvs hfin
      split at hfin
      · rename_i hp
        simp only[uc]at hfin
        obtain⟨v2,hsn,hfin⟩:=hfin
        obtain⟨rfl,rfl⟩:=uf (ud hfin)
        simp only[hp,if_true]at g hv
        have kp:=cM (cE A d) (iZ A d) d _ _ _ _ _ _ (uv _) hv
        refine post (fun u w'=>Out L w0 ι M h h v2 u w') vs hvs fun u hu=> ?_
        have hold:∀id l,id<h.next→ι1 id=some l→ι id=some l:=fun id l a b=>g.hU id l a b
        exact⟨ι,bw M1 ι1 h1 h.next w1,fun _ _ q=>q,fun b o x q=>dK _ b o x (g.mm _ _ _ q),fun _ _ _ q=>q,r.back r1 (fun id hid=>kp.get id hid) g.io g.mm,(jR r1 hold _ true _ _ _ hu hsn).1 rfl⟩
      · rename_i hp
        obtain⟨rfl,rfl⟩:=uf (ud hfin)
        rw[if_neg hp]at g
        exact post (fun u w'=>Out L w0 ι M h h1 (cZ vs) u w') vs hvs fun u hu=>⟨ι1,M1,g.io,g.mm,g.hU,r1,hu⟩
     unfold fin at hfin
     split at hfin
     · cases hfin
     · rename_i hne q
       cases q
       simp only[uc]at hfin
       obtain⟨vs,hvs,hfin⟩:=hfin
       have:=main vs hvs hfin
       cases ex with
       |normal=>exact this
       |ret=>exact this
       |exit id=>exact(hne _ rfl).elim
   · cases hev
theorem iM {A:a7} (lk:dV L A):Callee L w0 (aQ A):=by
 intro f fid args vals ι M h h' w v hmf hev r hrow
 obtain⟨n,hn⟩:=eu hev
 exact callee lk n f fid args vals ι M h h' w v hmf hn r hrow
end
end Ab
namespace Ab
open Go RowKit ChangeShapes WideShapes
def sX:Io:=fun _=>none
def ub:Mm:=fun _ _=>none
theorem R.start (L:Lk) (W:World) {M:Mm} (hM:∀b o v,M b o=some v→W.cell? (at' b o)=some v):R L W sX M H.empty W:=
 ⟨Below.refl _ _,fun _ _ h=>(by cases h),fun _ _ _ _ h=>(by cases h),fun _ _ _ _ h=>(by cases h),fun _ _ _ _ h=>(by cases h),fun _ _ _ _ _ _ _ _ h=>(by cases h),hM,fun _ _ _ _ _ _ _ _ h=>(by cases h)⟩
theorem kP {L:Lk} {A:a7} (lk:dV L A) {f:Nat} {fid:FuncId} {args:List AV} {vals:List Value} {M:Mm} {W:World} {h':H} (hm:L.mf fid=some f) (hM:∀b o v,M b o=some v→W.cell? (at' b o)=some v)
 (hc:aQ A f args H.empty=some (.bool true,h')) (hr:aw L sX M args vals):Calls L.P fid vals.toArray W fun e W'=>e=.returned (.bool true)∧Below W.heap.size W W':=by
 refine(iM lk f fid args vals sX M H.empty h' W _ hm hc (R.start L W hM) hr).mono fun e W' ⟨v',he,ι',M',_,_,_,r',hv⟩=> ?_
 have:=hv.bO
 subst this
 exact⟨he,r'.below⟩
theorem sV {a:Int} (w:(Lit.int .i64 a).wf=true): -9223372036854775808≤a∧a<9223372036854775808:=by
 simp only[Lit.wf,uw,decide_eq_true_eq]at w
 have h1:IntKind.min .i64= -9223372036854775808:=by decide
 have h2:IntKind.max .i64=9223372036854775807:=by decide
 rw[h1,h2]at w
 omega
theorem tE {s:ByteArray} (w:s.size≤reachBytes):s.size<140737488355328:=by
 unfold reachBytes at w;omega
theorem kM {H:Type} {enc:TypeId×Value→H} {P:Program} {f:Func} {s:ChangeSpec} {apart fresh handsOn:Bool} {W W':World} {args:Array Value} {ds gs:List (DataW H)} {before pa pv:List MemPlace} {t:TypeId}
 (hW:DataW.Whole enc P f.params.toList s.vars apart W args.toList ds gs before) (hb:Below W.heap.size W W')
 (hrt:f.resultTypes= #[t]) (hres:∀(b:Nat) (sp:Nat→Bool) (hd:Bool),DataW.Trod enc P W' b sp hd t (.bool true) (.lit (.bool true)) []) (hsr:(s.fn H (ds++gs)).results=[.lit (.bool true)])
 (hargs:DataW.TrodAll enc P W' 0 (fun b=>decide (b<W.heap.size)) true f.params.toList args.toList (s.fn H (ds++gs)).args pa)
 (hvars:DataW.TrodVars enc P W' (fun b=>decide (b<W.heap.size)) s.vars (s.fn H (ds++gs)).vars pv):
 s.post enc P f apart fresh handsOn false W args (.bool true) W':=by
 refine⟨ds,gs,before,[],pa,pv,hW, ?_,hargs,hvars,hb.frame _,fun h=>by cases h⟩
 rw[hrt,hsr]
 exact trodAll_mk1 (hres _ _ _)
end Ab
namespace Ab
open Go RowKit ChangeShapes WideShapes
inductive Ty where
 |bool
 |int (k:IntKind)
 |str
 |sl (e:Ty) (z b:Nat)
 |st (fs:List Ty)
mutual
inductive Sh (B:Nat):Ty→List AV→Prop where
 |bool (b:Bool):Sh B .bool [.bool b]
 |int {k:IntKind} {n:Int} (h:(Lit.int k n).wf=true):Sh B (.int k) [.int k n]
 |str {s:ByteArray} (h:s.size≤B):Sh B .str [.str s]
 |aO {e:Ty} {z b:Nat}:Sh B (.sl e z b) [.aO]
 |aU {e:Ty} {z b:Nat} (ess:List (List AV)) (h:∀es,es∈ess→Sh B e es) (hz:∀es,es∈ess→es.length=z) (hb:ess.length* b≤B):Sh B (.sl e z b) [.aU false ess.flatten 0 ess.length z]
 |st {fs:List Ty} {as:List AV} (h:iB B fs as):Sh B (.st fs) as
inductive iB (B:Nat):List Ty→List AV→Prop where
 |nil:iB B [] []
 |cons {f:Ty} {fs:List Ty} {a r:List AV} (h:Sh B f a) (hr:iB B fs r):iB B (f::fs) (a++r)
end
def j8 (P:Program) (r:TypeId→Option (Ty×Nat)):Nat→List Field→Option (List Ty×Nat)
 |o,[]=>some ([],o)
 |o,f::l=>if f.offset=o then(r f.type).bind fun y=>if P.cellsOf f.type=y.2 then(j8 P r (o+y.2) l).map fun x=>(y.1::x.1,x.2)else none else none
def jS (P : Program) : Nat → TypeId → Option (Ty × Nat)
 |0,_=>none
 | n + 1, t => match P.underlying t with
   |some .bool=>some (.bool,1)
   |some (.int k)=>some (.int k,1)
   |some .string=>some (.str,1)
   |some (.slice e)=>(jS P n e).bind fun y=>if 0<y.2∧P.cellsOf e=y.2 then some (.sl y.1 y.2 (P.bytesOf e),1)else none
   |some (.struct fs)=>(j8 P (jS P n) 0 fs.toList).bind fun x=>if P.cellsOf t=x.2 then some (.st x.1,x.2)else none
   |_=>none
theorem mw {α : Type} {Q : Nat → α → Prop} : ∀ n : Nat, (∀ i, i < n → ∃ x, Q i x) → ∃ l : List α, l.length = n ∧ ∀ i x, l[i]? = some x → Q i x
 |0,_=>⟨[],rfl,fun i x h=>by simp at h⟩
 | n + 1, h => by
   obtain⟨l,hl,hq⟩:=mw n fun i hi=>h i (by omega)
   obtain⟨x,hx⟩:=h n (by omega)
   refine⟨l++[x],by simp [hl],fun i y hy=> ?_⟩
   by_cases c:i<l.length
   · rw[List.getElem?_append_left c]at hy;exact hq i y hy
   · rw[List.getElem?_append_right (by omega)]at hy
     have hi:i=n:=by
      rcases Nat.lt_or_ge n i with q|q
      · rw[List.getElem?_eq_none (by simp;omega)]at hy;cases hy
      · omega
     subst hi
     rw[hl,Nat.sub_self]at hy
     obtain rfl:=ud hy
     exact hx
theorem e6 {α:Type} {z:Nat} (hz:0<z):∀(l:List (List α)) (_:∀x∈l,x.length=z) (i:Nat),l.flatten[i]?=(l[i/z]?).bind (·[i%z]?)
 |[],_,i=>by simp
 | x :: l, h, i => by
   have hx:=h x (by simp)
   rw[List.flatten_cons]
   by_cases c:i<z
   · rw[List.getElem?_append_left (by omega),Nat.div_eq_of_lt c,Nat.mod_eq_of_lt c];rfl
   · rw[List.getElem?_append_right (by omega),e6 hz l (fun y hy=>h y (by simp [hy])),hx]
     have e1:i/z=(i-z)/z+1:=by rw[Nat.div_eq i z,if_pos ⟨hz,by omega⟩]
     have e2:i%z=(i-z)%z:=Nat.mod_eq_sub_mod (by omega)
     rw[e1,e2];rfl
theorem e9 {α:Type} {z:Nat}:∀(l:List (List α)) (_:∀x∈l,x.length=z),l.flatten.length=l.length* z
 |[],_=>by simp
 | x :: l, h => by
   rw[List.flatten_cons,uR,e9 l (fun y hy=>h y (by simp [hy])),h x (by simp),List.length_cons,Nat.succ_mul,Nat.add_comm]
def gC (W:World):Mm:=fun b o=>W.cell? (at' b o)
def Rel (L:Lk) (W:World) (as:List AV) (cs:List Value):Prop:=as.length=cs.length∧∀(i:Nat) (a:AV) (v:Value),as[i]?=some a→cs[i]?=some v→VI L (gC W) a v
section
variable {H:Type} {enc:TypeId×Value→H} {P:Program} {W:World} {L:Lk} {B:Nat}
theorem c9 {e:TypeId}:∀{l:List (DataW H)} {d:DataW H},d∈l→∀n∈d.weights P e,n∈DataW.weightsAll P e l
 | x :: l, d, hd, n, hn => by
   rw[DataW.weightsAll,List.mem_append]
   rcases uO.1 hd with rfl|hd
   · exact .inl hn
   · exact .inr (c9 hd n hn)
theorem gW {n : Nat} {r : TypeId → Option (Ty × Nat)} {cs : List Value}
 (ih:∀(t:TypeId) (y:Ty×Nat),r t=some y→∀(cs:List Value) (x:DataW H×List MemPlace),DataW.trod enc P W 0 (fun _=>true) true n t cs=some x→(∀k∈x.1.weights P t,k≤B)→∃as,Sh B y.1 as∧as.length=y.2∧Rel L W as cs):
 ∀ (fs : List Field) (o : Nat) (xs : List (DataW H × List MemPlace)) (y : List Ty × Nat), j8 P r o fs = some y → xs.length = fs.length →
   (∀(i:Nat) (f:Field),fs[i]?=some f→DataW.trod enc P W 0 (fun _=>true) true n f.type ((cs.drop f.offset).take (P.cellsOf f.type))=xs[i]?)→
   (∀k∈DataW.weightsEach P (fs.map (·.type)) (xs.map (·.1)),k≤B)→
   ∃as,iB B y.1 as∧o+as.length=y.2∧∀(i:Nat) (a:AV) (v:Value),as[i]?=some a→cs[o+i]?=some v→VI L (gC W) a v
 | [], o, xs, y, hy, hl, ht, hw => by
   obtain rfl:=ud hy
   exact⟨[],.nil,rfl,fun i a v h=>by simp at h⟩
 |f::fs,o,[],y,hy,hl,ht,hw=>by simp at hl
 | f :: fs, o, x :: xs, y, hy, hl, ht, hw => by
   unfold j8 at hy
   split at hy
   · rename_i ho
     obtain⟨y1,h1,hy⟩:=uc.1 hy
     split at hy
     · rename_i hc
       obtain⟨y2,h2,rfl⟩:=ue.1 hy
       simp only[List.map_cons,DataW.weightsEach,List.mem_append]at hw
       obtain⟨as,s1,l1,r1,r2⟩:=ih f.type y1 h1 _ x (ht 0 f rfl) (fun k hk=>hw k (.inl hk))
       obtain⟨bs,s2,l2,q2⟩:=gW ih fs (o+y1.2) xs y2 h2 (by simpa using hl) (fun i g hg=>ht (i+1) g hg) (fun k hk=>hw k (.inr hk))
       refine⟨as++bs,.cons s1 s2,by rw[uR];omega,fun i a v ha hv=> ?_⟩
       by_cases c:i<as.length
       · rw[List.getElem?_append_left c]at ha
         refine r2 i a v ha ?_
         rw[uQ,if_pos (by omega),uI,ho];exact hv
       · rw[List.getElem?_append_right (by omega)]at ha
         refine q2 _ a v ha ?_
         rw[show o+y1.2+(i-as.length)=o+i by omega];exact hv
     · cases hy
   · cases hy
theorem lE (b o n:Nat):(at' b o).add n=at' b (o+n):=by
 unfold Addr.add at'
 split
 · rename_i h;rw[h];rfl
 · rfl
theorem kQ {a:Addr} {v:Value} (h:W.cell? a=some v):a=at' a.block a.off:=by
 unfold World.cell? at h
 cases hs:a.spot with
 |none=>cases a;simp at hs;subst hs;rfl
 | some k =>
   rw[hs]at h
   split at h
   · simp at h
   · cases h
theorem mQ : ∀ (m : Nat) (t : TypeId) (y : Ty × Nat), jS P m t = some y → ∀ (n : Nat) (cs : List Value) (x : DataW H × List MemPlace), DataW.trod enc P W 0 (fun _ => true) true n t cs = some x →
 (∀k∈x.1.weights P t,k≤B)→∃as,Sh B y.1 as∧as.length=y.2∧Rel L W as cs
 |0,t,y,hy,n,cs,x,hx,hw=>by cases hy
 | m + 1, t, y, hy, n, cs, x, hx, hw => by
   unfold jS at hy
   split at hy
   · rename_i hu
     obtain rfl:=ud hy
     obtain⟨b,rfl,rfl⟩:=DataW.trod_bool hu hx
     exact⟨_,.bool b,rfl,rfl,fun i a v ha hv=>by
      match i,ha,hv with
      |0,ha,hv=>simp at ha hv;subst ha;subst hv;exact .bool b⟩
   · rename_i k hu
     obtain rfl:=ud hy
     obtain⟨z,rfl,rfl,hz⟩:=DataW.trod_int hu hx
     exact⟨_,.int hz,rfl,rfl,fun i a v ha hv=>by
      match i,ha,hv with
      |0,ha,hv=>simp at ha hv;subst ha;subst hv;exact .int _ _⟩
   · rename_i hu
     obtain rfl:=ud hy
     obtain⟨s,rfl,rfl,hz⟩:=DataW.trod_string hu hx
     refine⟨_,.str (s:=s) (hw _ ?_),rfl,rfl,fun i a v ha hv=>by
      match i,ha,hv with
      |0,ha,hv=>simp at ha hv;subst ha;subst hv;exact .str _⟩
     simp [DataW.weights]
   · rename_i e hu
     obtain⟨y1,h1,hy⟩:=uc.1 hy
     split at hy
     · rename_i hc
       obtain⟨hz,hc⟩:=hc
       obtain rfl:=ud hy
       rcases DataW.trod_slice hu hx with ⟨rfl,rfl⟩|⟨a,len,cap,elems,rest,n',rfl,rfl,rfl,-,hl,hm,hlen,hel,hsp,-⟩
       · exact⟨_,.aO,rfl,rfl,fun i a v ha hv=>by
          match i,ha,hv with
          |0,ha,hv=>simp at ha hv;subst ha;subst hv;exact .aO⟩
       · obtain⟨hrl,hr⟩:=hsp rfl
         simp only[DataW.weights,hu,List.length_map,uO,List.mem_append]at hw
         have ha:cap≠0→a=at' a.block a.off:=by
          intro h0
          have:∃cs,W.cells? 0 (a.add (0* P.cellsOf e)) (P.cellsOf e)=some cs:=by
           by_cases c:0<len
           · have:=hel 0 c
             obtain⟨q,hq⟩:∃q,elems[0]?=some q:=⟨elems[0],by simp [hlen,c]⟩
             rw[hq]at this
             obtain⟨c1,c2,_⟩:=uc.1 this
             exact⟨c1,c2⟩
           · have:=hr 0 (by omega)
             obtain⟨q,hq⟩:∃q,rest[0]?=some q:=⟨rest[0]'(by omega),by simp⟩
             rw[hq]at this
             obtain⟨c1,c2,_⟩:=uc.1 this
             exact⟨c1,by rw[show len+0=0 by omega]at c2;exact c2⟩
          obtain⟨c1,c2⟩:=this
          obtain⟨-,k1,k2⟩:=World.cells?_some c2
          have k3:=k2 0 (by omega)
          have:(a.add (0* P.cellsOf e)).add 0=a:=by simp [Addr.add]
          rw[this]at k3
          obtain⟨v,hv⟩:∃v,c1[0]?=some v:=⟨c1[0]'(by omega),by simp⟩
          rw[hv]at k3
          exact kQ k3
         have each:∀i,i<len→∃as,(Sh B y1.1 as∧as.length=y1.2)∧∀j,j<y1.2→∃v,W.cell? (at' a.block (a.off+(i* y1.2+j)))=some v∧∀c,as[j]?=some c→VI L (gC W) c v:=by
          intro i hi
          obtain⟨q,hq⟩:∃q,elems[i]?=some q:=⟨elems[i]'(by omega),by simp⟩
          have h2:=hel i hi
          rw[hq]at h2
          obtain⟨c1,c2,c3⟩:=uc.1 h2
          obtain⟨as,s1,l1,r1,r2⟩:=mQ m e y1 h1 n' c1 q c3 (fun k hk=>hw k (.inr (.inl (c9 (List.mem_map.2 ⟨q,uz hq,rfl⟩) k hk))))
          obtain⟨-,k1,k2⟩:=World.cells?_some c2
          refine⟨as,⟨s1,l1⟩,fun j hj=> ?_⟩
          have k3:=k2 j (by omega)
          have ea:=ha (by omega)
          generalize a.block=ab at *
          generalize a.off=ao at *
          subst ea
          rw[lE,lE,hc]at k3
          obtain⟨v,hv⟩:∃v,c1[j]?=some v:=⟨c1[j]'(by omega),by simp⟩
          rw[hv]at k3
          exact⟨v,by rw[←uu];exact k3,fun c hcc=>r2 j c v hcc hv⟩
         obtain⟨ess,le,he⟩:=mw len each
         have hzz:∀es∈ess,es.length=y1.2:=fun es hes=>by
          obtain⟨i,hi⟩:=List.getElem?_of_mem hes
          exact(he i es hi).1.2
         refine⟨_,.aU (b:=P.bytesOf e) ess (fun es hes=>by
          obtain⟨i,hi⟩:=List.getElem?_of_mem hes
          exact(he i es hi).1.1) hzz (uP (uy _ (by omega)) (hw _ (.inl rfl))),rfl,rfl,fun i c v hc' hv=> ?_⟩
         match i,hc',hv with
         | 0, hc', hv =>
           simp only[List.getElem?_cons_zero,uh]at hc' hv
           subst hc';subst hv
           have cell:∀(i:Nat) (c:AV),ess.flatten[i]?=some c→∃v,W.cell? (at' a.block (a.off+i))=some v∧VI L (gC W) c v:=by
            intro i c hi
            rw[e6 hz ess hzz]at hi
            obtain⟨es,h3,h4⟩:=uc.1 hi
            obtain⟨v,h5,h6⟩:=(he _ es h3).2 (i%y1.2) (Nat.mod_lt _ hz)
            refine⟨v, ?_,h6 c h4⟩
            rw[Nat.mul_comm (i/y1.2),Nat.div_add_mod]at h5;exact h5
           rw[le]
           refine .aU (b:=a.block) (base:=a.off) (fun i=>(W.cell? (at' a.block (a.off+i))).getD default) (fun i c hi=> ?_) (fun i c hi=> ?_) hl (fun q=>ha q) ?_ (fun q=>by cases q)
           · obtain⟨v,h5,_⟩:=cell i c hi
             show W.cell? _=_
             rw[h5];rfl
           · obtain⟨v,h5,h6⟩:=cell i c hi
             rw[h5];exact h6
           · rw[e9 ess hzz,le,uC];exact uy _ hl
     · cases hy
   · rename_i fs hu
     obtain⟨y1,h1,hy⟩:=uc.1 hy
     split at hy
     · rename_i hc
       obtain rfl:=ud hy
       obtain⟨xs,n',rfl,rfl,hl,hxl,hf⟩:=DataW.trod_struct hu hx
       simp only[DataW.weights,hu]at hw
       obtain⟨as,s1,l1,q1⟩:=gW (cs:=cs) (fun t y h cs x hx hw=>mQ m t y h n' cs x hx hw) fs.toList 0 xs y1 h1 (by simpa using hxl) (fun i f h=>hf i f (by simpa using h)) hw
       refine⟨as,.st s1,by show as.length=y1.2;omega,by omega,fun i a v ha hv=>q1 i a v ha (by rw[uC];exact hv)⟩
     · cases hy
   · cases hy
def jx:Ty×List AV→AV
 |(.st _,as)=>.agg as
 |(_,as)=>as.headD .bot
inductive fA (L:Lk) (W:World) (B:Nat):List Value→List (Ty×List AV)→Prop where
 |nil:fA L W B [] []
 |cons {v:Value} {vs:List Value} {x:Ty×List AV} {r:List (Ty×List AV)} (h1:Sh B x.1 x.2) (h2:V L (fun _=>none) (gC W) (jx x) v) (hr:fA L W B vs r):fA L W B (v::vs) (x::r)
def eN (P:Program) (m:Nat):List TypeId→Option (List Ty)
 |[]=>some []
 |t::ts=>(jS P m t).bind fun y=>(eN P m ts).map fun r=>y.1::r
theorem fx {y:Ty} {as:List AV} {v:Value} (hy:∀fs,y≠.st fs) (h1:as.length=1) (hv:v.cells.toList=[v]) (h2:Rel L W as v.cells.toList):VI L (gC W) (jx (y,as)) v:=by
 match as,h1 with
 | [a], _ =>
   have:=h2.2 0 a v rfl (by rw[hv];rfl)
   cases y<;>first|exact this|exact absurd rfl (hy _)
theorem qI {fs:List Ty} {as:List AV} {cs:Array Value} (h2:Rel L W as (Value.agg cs).cells.toList):VI L (gC W) (jx (.st fs,as)) (.agg cs):=by
 have e:(Value.agg cs).cells.toList=cs.toList:=rfl
 rw[e]at h2
 have:Value.agg cs=.agg cs.toList.toArray:=by simp
 rw[this]
 exact .agg h2.1 h2.2
theorem ry {m : Nat} {t : TypeId} {y : Ty × Nat} {as : List AV} {v : Value} {base : Nat} (hy : jS P m t = some y) (hl : as.length = y.2) (hv : Value.okWide P W .any base t v) (h2 : Rel L W as v.cells.toList) : VI L (gC W) (jx (y.1, as)) v := by
 cases m with
 |zero=>cases hy
 | succ m =>
   unfold jS at hy
   unfold Value.okWide at hv
   split at hy
   · rename_i hu
     obtain rfl:=ud hy
     rw[hu]at hv
     unfold Cell.okWide Cell.ok at hv
     rw[hu]at hv
     cases v<;>first|exact hv.elim|exact fx (by intro fs e;cases e) hl rfl h2
   · rename_i k hu
     obtain rfl:=ud hy
     rw[hu]at hv
     unfold Cell.okWide Cell.ok at hv
     rw[hu]at hv
     cases v<;>first|exact hv.elim|exact fx (by intro fs e;cases e) hl rfl h2
   · rename_i hu
     obtain rfl:=ud hy
     rw[hu]at hv
     unfold Cell.okWide Cell.ok at hv
     rw[hu]at hv
     cases v<;>first|exact hv.elim|exact fx (by intro fs e;cases e) hl rfl h2
   · rename_i e hu
     obtain⟨y1,h1,hy⟩:=uc.1 hy
     split at hy
     · obtain rfl:=ud hy
       rw[hu]at hv
       unfold Cell.okWide Cell.ok at hv
       rw[hu]at hv
       cases v<;>first|exact hv.elim|exact fx (by intro fs e;cases e) hl rfl h2
     · cases hy
   · rename_i fs hu
     obtain⟨y1,h1,hy⟩:=uc.1 hy
     split at hy
     · obtain rfl:=ud hy
       rw[hu]at hv
       obtain⟨cs,rfl,_⟩:=hv
       exact qI h2
     · cases hy
   · cases hy
theorem jX {m base:Nat}:∀{ts:List TypeId} {vs:List Value} {ds:List (DataW H)} {ps:List MemPlace} {ys:List Ty},eN P m ts=some ys→DataW.TrodAll enc P W 0 (fun _=>true) true ts vs ds ps→
 (∀(j:Nat) t v,ts[j]?=some t→vs[j]?=some v→Value.okWide P W .any base t v)→(∀k∈DataW.weightsEach P ts ds,k≤B)→∃r:List (Ty×List AV),r.map (·.1)=ys∧fA L W B vs r
 |[],[],[],ps,ys,hy,_,_,_=>by obtain rfl:=ud hy;exact⟨[],rfl,.nil⟩
 | t :: ts, v :: vs, d :: ds, ps, ys, hy, ⟨p, q, ⟨n, h1⟩, h2, _⟩, hv, hw => by
   unfold eN at hy
   obtain⟨y,g1,hy⟩:=uc.1 hy
   obtain⟨r,g2,rfl⟩:=ue.1 hy
   simp only[DataW.weightsEach,List.mem_append]at hw
   obtain⟨as,s1,l1,r1⟩:=mQ (L:=L) m t y g1 n _ (d,p) h1 (fun k hk=>hw k (.inl hk))
   obtain⟨r',e,g3⟩:=jX g2 h2 (fun j t v a b=>hv (j+1) t v a b) (fun k hk=>hw k (.inr hk))
   exact⟨(y.1,as)::r',by rw[List.map_cons,e],.cons s1 (.ar (ry g1 l1 (hv 0 t v rfl rfl) r1)) g3⟩
 |[],_::_,_,_,_,_,h,_,_=>h.elim
 |[],[],_::_,_,_,_,h,_,_=>h.elim
 |_::_,[],_,_,_,_,h,_,_=>h.elim
 |_::_,_::_,[],_,_,_,h,_,_=>h.elim
theorem iJ:∀{vs:List Value} {r:List (Ty×List AV)},fA L W B vs r→aw L sX (gC W) (r.map jx) vs∧∀x∈r,Sh B x.1 x.2
 |[],[],.nil=>⟨.nil,fun x h=>by cases h⟩
 | v :: vs, x :: r, .cons h1 h2 hr => by
   obtain⟨q1,q2⟩:=iJ hr
   exact⟨.cons h2 q1,fun y hy=>by
    rcases uO.1 hy with rfl|hy
    · exact h1
    · exact q2 y hy⟩
theorem iH {W':World} (hl:laidOutB P=true) (hb:Below W.heap.size W W'):∀{ts:List TypeId} {vs:List Value} {ds:List (DataW H)} {ps:List MemPlace},
 ts.all (fun t=>P.readableRec t&&decide (t<P.types.size))=true→DataW.TrodAll enc P W 0 (fun _=>true) true ts vs ds ps→(∀x∈ps,x.block<W.heap.size)→DataW.TrodAll enc P W' 0 (fun b=>decide (b<W.heap.size)) true ts vs ds ps
 |[],[],[],_,_,h,_=>h
 | t :: ts, v :: vs, d :: ds, ps, ht, ⟨p, q, h1, h2, hp⟩, hlt => by
   subst hp
   simp only[List.all_cons,uw,decide_eq_true_eq]at ht
   exact⟨p,q,Below.trod hl ht.1.1 ht.1.2 h1 hb (fun x hx=>hlt x (List.mem_append_left _ hx)),iH hl hb ht.2 h2 (fun x hx=>hlt x (List.mem_append_right _ hx)),rfl⟩
 |[],_::_,_,_,_,h,_=>h.elim
 |[],[],_::_,_,_,h,_=>h.elim
 |_::_,[],_,_,_,h,_=>h.elim
 |_::_,_::_,[],_,_,h,_=>h.elim
end
theorem sW {C : Checked} {L : Lk} {A : a7} (lk : dV L A) (hP : L.P = C.prog) {f : FuncId} {fn : Func} {key : Nat} (hm : L.mf f = some key) {tys : List Ty} {m : Nat} (hty : eN C.prog m fn.params.toList = some tys)
 (hl:laidOutB C.prog=true) (hread:fn.params.toList.all (fun t=>C.prog.readableRec t&&decide (t<C.prog.types.size))=true) {tb:TypeId} (hrt:fn.resultTypes= #[tb]) (hb:C.prog.underlying tb=some .bool)
 {s:ChangeSpec} (hvars:s.vars=[]) (hspec:∀(H:Type) (ds:List (DataW H)),ds.length=tys.length→s.fn H ds={results:=[.lit (.bool true)],args:=ds})
 (law:∀r:List (Ty×List AV),r.map (·.1)=tys→(∀x∈r,Sh reachBytes x.1 x.2)→aQ A key (r.map jx) H.empty=some (.bool true,H.empty))
 {H:Type} {enc:TypeId×Value→H} {W:World} {base:Nat} {args:Array Value} {ds gs:List (DataW H)} {before:List MemPlace}
 (hval:∀(j:Nat) t v,fn.params[j]?=some t→args[j]?=some v→Value.okWide C.prog W .any base t v)
 (hW:DataW.Whole enc C.prog fn.params.toList s.vars false W args.toList ds gs before)
 (hsz:(DataW.weightsEach C.prog (fn.params.toList++s.plain.varTypes C.prog) (ds++gs)).all (· ≤reachBytes)=true):
 Calls C.prog f args W fun e W'=>∃v,e=.returned v∧s.post enc C.prog fn false true false false W args v W':=by
 have hW':=hW
 obtain⟨p,q,hA,hV,rfl,hfz,hnd⟩:=hW
 rw[hvars]at hV
 obtain⟨rfl,rfl⟩:=trodVars_none hV
 have hw:∀k∈DataW.weightsEach C.prog fn.params.toList ds,k≤reachBytes:=by
  intro k hk
  have hv0:s.plain.varTypes C.prog=[]:=by
   have:s.plain.vars=[]:=hvars
   unfold DataSpec.varTypes;rw[this];rfl
  rw[hv0,List.append_nil,List.append_nil]at hsz
  simpa using List.all_eq_true.1 hsz k hk
 obtain⟨r,hr,hs⟩:=jX (L:=L) (base:=base) hty hA (fun j t v a b=>hval j t v (by simpa using a) (by simpa using b)) hw
 obtain⟨hrow,hsh⟩:=iJ hs
 have hlen:ds.length=tys.length:=by
  have a1:∀{ts:List TypeId} {vs:List Value} {ds:List (DataW H)} {ps:List MemPlace},DataW.TrodAll enc C.prog W 0 (fun _=>true) true ts vs ds ps→ds.length=ts.length:=by
   intro ts
   induction ts with
   |nil=>intro vs ds ps h;cases vs<;>cases ds<;>first|rfl|exact h.elim
   |cons t ts ih=>intro vs ds ps h;cases vs<;>cases ds<;>first|exact h.elim|(obtain⟨_,_,_,h2,_⟩:=h;simp [ih h2])
  have a2:∀{ts:List TypeId} {ys:List Ty},eN C.prog m ts=some ys→ys.length=ts.length:=by
   intro ts
   induction ts with
   |nil=>intro ys h;obtain rfl:=ud h;rfl
   | cons t ts ih =>
     intro ys h
     unfold eN at h
     obtain⟨y,_,h⟩:=uc.1 h
     obtain⟨z,g2,rfl⟩:=ue.1 h
     simp [ih g2]
  rw[a1 hA,a2 hty]
 have key:=kP lk (f:=key) (fid:=f) (args:=r.map jx) (vals:=args.toList) (M:=gC W) (W:=W) hm (fun _ _ _ h=>h) (law r hr hsh) hrow
 rw[hP]at key
 have ea:args.toList.toArray=args:=by simp
 rw[ea]at key
 simp only[List.append_nil]at hW'
 refine key.mono fun e W' ⟨he,hb'⟩=> ?_
 subst he
 have e1:=hspec H (ds++[]) (by simpa using hlen)
 refine⟨_,rfl,kM (pa:=p) (pv:=[]) hW' hb' hrt (fun _ _ _=>shut_bool hb true) (by rw[e1]) (by rw[e1];simpa using iH hl hb' hread hA (fun x hx=>by simpa using hW'.lt x hx)) ?_⟩
 rw[e1,hvars];rfl
theorem sL {α β:Type} {x y:Option α} (f:α→Option β) (h:x=y):x.bind f=y.bind f:=by rw[h]
@[simp] theorem sh (t : Nat) : look [] t = .bot := rfl
@[simp] theorem qY (s t : Nat) (v : AV) (r : Env) : look ((s, v) :: r) t = if s = t then v else look r t := rfl
@[simp] theorem qZ (e : Env) : ax e [] = [] := rfl
@[simp] theorem qJ (e : Env) (t : Nat) (r : List Nat) : ax e (t :: r) = (t, look e t) :: ax e r := rfl
@[simp] theorem tX (e : Env) (n : Nat) : (X.t n).ev e = look e n := rfl
@[simp] theorem tW (e : Env) (v : AV) : (X.c v).ev e = v := rfl
@[simp] theorem pM (agg : Bool) (n id off : Nat) (h : H) : bN agg n (.aC id off) h = (h.get id).bind fun cs => gE agg n cs off := rfl
@[simp] theorem pK (agg : Bool) (n off : Nat) (cs : List AV) (h : H) : bN agg n (.aJ cs off) h = gE agg n cs off := rfl
@[simp] theorem oX (n id off : Nat) (v : AV) (h : H) : cJ n (.aC id off) v h = (h.get id).bind fun cs =>
 if h.floor≤id∧v.cells.length=n∧off+n≤cs.length∧AV.aB v.cells=true then some (h.set id (setFrom cs off v.cells))else none:=rfl
@[simp] theorem tQ (n : Nat) (cs : List AV) (off : Nat) : gE false n cs off = cs[off]? := rfl
section
variable (k:IntKind) (a b:Int)
@[simp] theorem kV : bh .add (.int k a) (.int k b) = some (.int k (k.wrap (a + b))) := by simp [bh, a8]
@[simp] theorem ly : bh .sub (.int k a) (.int k b) = some (.int k (k.wrap (a - b))) := by simp [bh, a8]
@[simp] theorem lj : bh .mul (.int k a) (.int k b) = some (.int k (k.wrap (a * b))) := by simp [bh, a8]
@[simp] theorem lh : bh .lss (.int k a) (.int k b) = some (.bool (decide (a < b))) := by simp [bh, a8]
@[simp] theorem k9 : bh .leq (.int k a) (.int k b) = some (.bool (decide (a ≤ b))) := by simp [bh, a8]
@[simp] theorem kZ : bh .gtr (.int k a) (.int k b) = some (.bool (decide (a > b))) := by simp [bh, a8]
@[simp] theorem kY : bh .geq (.int k a) (.int k b) = some (.bool (decide (a ≥ b))) := by simp [bh, a8]
@[simp] theorem kX : bh .eql (.int k a) (.int k b) = some (.bool (a == b)) := by simp [bh, a8]
@[simp] theorem lq : bh .neq (.int k a) (.int k b) = some (.bool (a != b)) := by simp [bh, a8]
@[simp] theorem kW : bh .and (.int k a) (.int k b) = some (.int k (bits .and k a b)) := by simp [bh, a8]
@[simp] theorem nc : bh .or (.int k a) (.int k b) = some (.int k (bits .or k a b)) := by simp [bh, a8]
@[simp] theorem lz : bh .xor (.int k a) (.int k b) = some (.int k (bits .xor k a b)) := by simp [bh, a8]
theorem rk (h:b≠0):bh .quo (.int k a) (.int k b)=some (.int k (k.wrap (a.tdiv b))):=by simp [bh,a8,h]
theorem rq (h:b≠0):bh .rem (.int k a) (.int k b)=some (.int k (a.tmod b)):=by simp [bh,a8,h]
end
@[simp] theorem km (k : IntKind) (n : Int) : (AV.int k n).cells = [.int k n] := rfl
@[simp] theorem jA (b : Bool) : (AV.bool b).cells = [.bool b] := rfl
@[simp] theorem kq (b : ByteArray) : (AV.str b).cells = [.str b] := rfl
@[simp] theorem jD (i o : Nat) : (AV.aC i o).cells = [.aC i o] := rfl
@[simp] theorem jE (i o l z : Nat) : (AV.aD i o l z).cells = [.aD i o l z] := rfl
@[simp] theorem jC : AV.aO.cells = [.aO] := rfl
@[simp] theorem jB : AV.b9.cells = [.b9] := rfl
@[simp] theorem kj (c : List AV) : (AV.agg c).cells = c := rfl
@[simp] theorem qT : AV.aB [] = true := rfl
@[simp] theorem pJ (v : AV) (r : List AV) : AV.aB (v :: r) = (v.sc && AV.aB r) := rfl
@[simp] theorem py (cs : List AV) (off : Nat) : setFrom cs off [] = cs := rfl
@[simp] theorem oL (cs : List AV) (off : Nat) (v : AV) (r : List AV) : setFrom cs off (v :: r) = setFrom (cs.set off v) (off + 1) r := rfl
@[simp] theorem qO (k : IntKind) (n : Int) : (AV.int k n).sc = true := rfl
@[simp] theorem oG (b : Bool) : (AV.bool b).sc = true := rfl
@[simp] theorem qP (b : ByteArray) : (AV.str b).sc = true := rfl
@[simp] theorem oJ (i o : Nat) : (AV.aC i o).sc = true := rfl
@[simp] theorem oK (i o l z : Nat) : (AV.aD i o l z).sc = true := rfl
@[simp] theorem oI : AV.aO.sc = true := rfl
@[simp] theorem oH : AV.b9.sc = true := rfl
@[simp] theorem pr (d : Nat) (v : AV) (e : Env) : aL (some d) v e = (d, v) :: e := rfl
@[simp] theorem po (v : AV) (e : Env) : aL none v e = e := rfl
@[simp] theorem pC (call : ae) (ops : List aj) (e : Env) (gs : List H) : aY call ops e gs [] = true := rfl
@[simp] theorem pH (off id o : Nat) : eQ off (.aC id o) = some (.aC id (o + off)) := rfl
@[simp] theorem pG (off o : Nat) (c : List AV) : eQ off (.aJ c o) = some (.aJ c (o + off)) := rfl
@[simp] theorem oV (n sz id off : Nat) (i : AV) : cI n sz (.aC id off) i = (cG i n).bind fun j => some (.aC id (off + j * sz)) := rfl
@[simp] theorem oU (n sz off : Nat) (c : List AV) (i : AV) : cI n sz (.aJ c off) i = (cG i n).bind fun j => some (.aJ c (off + j * sz)) := rfl
noncomputable def Lp (A:a7) (vE:List Nat) (c:aF) (e:Env) (h:H):dk:=bo (fun e h=>aK (aQ A) bo c (ax e vE) h) e h
theorem rH (A:a7) (vE:List Nat) (c:aF) (e:Env) (h:H):aK (aQ A) bo (.loop vE c) e h=Lp A vE c e h:=rfl
theorem sK {A:a7} {vE:List Nat} {c:aF} {e e':Env} {h h':H} {r} (h1:aK (aQ A) bo c (ax e vE) h=some (.normal,e',h')) (h2:Lp A vE c e' h'=some r):Lp A vE c e h=some r:=jb h1 h2
theorem sJ {A:a7} {vE:List Nat} {c:aF} {e e':Env} {h h':H} {i:Nat} (h1:aK (aQ A) bo c (ax e vE) h=some (.exit i,e',h')):Lp A vE c e h=some (.exit i,e',h'):=jL h1
theorem td {A:a7} {vE:List Nat} {c:aF} {e e':Env} {h h':H} (h1:aK (aQ A) bo c (ax e vE) h=some (.ret,e',h')):Lp A vE c e h=some (.ret,e',h'):=kH h1
theorem tR {c:ae} {l:bE} {a b:aF} {e e1:Env} {h h1:H} {r} (h1':aK c l a e h=some (.normal,e1,h1)) (h2:aK c l b e1 h1=some r):aK c l (.seq a b) e h=some r:=by
 simp only[aK,h1',uo];exact h2
theorem tT {c:ae} {l:bE} {a b:aF} {e e1:Env} {h h1:H} {i:Nat} (h1':aK c l a e h=some (.exit i,e1,h1)):aK c l (.seq a b) e h=some (.exit i,e1,h1):=by
 simp only[aK,h1',uo]
theorem tS {c:ae} {l:bE} {a b:aF} {e e1:Env} {h h1:H} (h1':aK c l a e h=some (.ret,e1,h1)):aK c l (.seq a b) e h=some (.ret,e1,h1):=by
 simp only[aK,h1',uo]
theorem pN {A:a7} {id:Nat} {k vE:List Nat} {c:aF} {e e1:Env} {h h1:H} (hl:Lp A vE c e h=some (.exit id,e1,h1)):aK (aQ A) bo (.block id (.loop vE c) k) e h=some (.normal,ax e1 k,h1):=by
 simp only[aK,uc]
 exact⟨_,hl,by simp⟩
theorem tB {A:a7} {f:Nat} {fn:eO} {args:List AV} {h h2:H} {e:Env} {vs:List AV} {v:AV} (hf:A f=some fn) (hnp:args.length=fn.np) (hp:fn.pure=true)
 (hx:aK (aQ A) bo fn.body (params 0 args) h.dG=some (.ret,e,h2)) (hres:cm e h2 fn.res=some vs) (hs:snap h2.get h.next 16 true (cZ vs)=some v):aQ A f args h=some (v,h):=by
 refine j0 hf ?_
 unfold eM
 rw[if_pos hnp]
 simp only[hp,if_true,hx,uo,fin,hres,gq,hs]
theorem sY {A:a7} {f:Nat} {fn:eO} {args:List AV} {h h2:H} {e:Env} {vs:List AV} (hf:A f=some fn) (hnp:args.length=fn.np) (hp:fn.pure=false)
 (hx:aK (aQ A) bo fn.body (params 0 args) h=some (.ret,e,h2)) (hres:cm e h2 fn.res=some vs):aQ A f args h=some (cZ vs,h2):=by
 refine j0 hf ?_
 unfold eM
 rw[if_pos hnp]
 simp [hp,hx,fin,hres]
theorem fN {c:ae}:∀(os:List aj) (e:Env) (h:H),au c os e h=(aM c os e h).bind fun r=>some (r.1,r.2.1)
 |[],_,_=>rfl
 | o :: os, e, h => by
   simp only[au,aM]
   cases hv:ai c o e h with
   |none=>rfl
   | some r =>
     simp only[uo]
     rw[fN os]
     cases aM c os (aL o.dst r.1 e) r.2<;>rfl
section
variable (c:ae) (l:bE) (e:Env) (h:H)
theorem sN (ops:List aj) (vE:List Nat):aK c l (.oA ops vE) e h=(au c ops e h).bind fun r=>some (.normal,ax r.1 vE,r.2):=by rw[aK]
theorem kz (ord:List Nat) (ops:List aj) (vE:List Nat):aK c l (.ir ord ops [] vE) e h=(au c ops e h).bind fun r=>some (.normal,ax r.1 vE,r.2):=by
 rw[fN]
 simp only[aK]
 cases aM c ops e h<;>simp
theorem sP (a b:aF):aK c l (.seq a b) e h=(aK c l a e h).bind fun r=>match r with|(.normal,e',h')=>aK c l b e' h'|r=>some r:=by rw[aK];rfl
theorem rG (x:X) (a b:aF) (vE:List Nat):aK c l (.cond x a b vE) e h=match x.ev e with
 | .bool t=>(if t then aK c l a e h else aK c l b e h).bind fun r=>match r with|(.normal,e',h')=>some (.normal,ax e' vE,h')|r=>some r
 |_=>none:=by rw[aK];rfl
theorem qV (id:Nat) (x:aF) (vE:List Nat):aK c l (.block id x vE) e h=(aK c l x e h).bind fun r=>match r with
 |(.normal,e',h')=>some (.normal,ax e' vE,h')
 |(.exit j,e',h')=>if j=id then some (.normal,ax e' vE,h')else some (.exit j,e',h')
 |(.ret,e',h')=>some (.ret,e',h'):=by rw[aK];rfl
theorem mh:aK c l .skip e h=some (.normal,e,h):=by rw[aK]
theorem nw:aK c l .ret e h=some (.ret,e,h):=by rw[aK]
theorem mg (i:Nat):aK c l (.exit i) e h=some (.exit i,e,h):=by rw[aK]
end
def I (n:Int):AV:=.int .i64 n
theorem s8 {n:Int} (h1: -9223372036854775808≤n) (h2:n<9223372036854775808):IntKind.wrap .i64 n=n:=by
 have e:IntKind.wrap .i64 n=if n%18446744073709551616≥9223372036854775808 then n%18446744073709551616-18446744073709551616 else n%18446744073709551616:=by
  simp [IntKind.wrap,IntKind.bits,IntKind.signed]
 rw[e];split<;>omega
def mX (n:Nat) (C:Nat→AV):List AV:=(List.range n).map C
def tF (C:Nat→AV) (i:Nat) (v:AV):Nat→AV:=fun j=>if j=i then v else C j
@[simp] theorem qQ (n : Nat) (C : Nat → AV) : (mX n C).length = n := by simp [mX]
theorem fy {n:Nat} {C:Nat→AV} {i:Nat} (h:i<n):(mX n C)[i]?=some (C i):=by simp [mX,h]
@[simp] theorem pD {n : Nat} {C : Nat → AV} {i : Nat} (h : i < (mX n C).length) : (mX n C)[i] = C i := by simp [mX]
theorem s7 {n:Nat} {C:Nat→AV} {i:Nat} (h:i<n) (v:AV):(mX n C).set i v=mX n (tF C i v):=by
 apply List.ext_getElem?
 intro j
 by_cases hj:j<n
 · by_cases e:j=i
   · subst e;rw[uL (by simpa using hj),fy hj];simp [tF]
   · rw[List.getElem?_set_ne (by omega),fy hj,fy hj];simp [tF,e]
 · rw[List.getElem?_eq_none (by simp;omega),List.getElem?_eq_none (by simp;omega)]
theorem sZ {n:Nat} {C:Nat→AV} {i k:Nat} (h:i<n):gE false k (mX n C) i=some (C i):=fy h
def ints (l:List Int):List AV:=l.map I
@[simp] theorem pf (l : List Int) : (ints l).length = l.length := by simp [ints]
theorem sf {l:List Int} {i:Nat} {x:Int} (h:l[i]?=some x):(ints l)[i]?=some (I x):=by simp [ints,h]
theorem js:∀l:List Int,AV.aB (ints l)=true
 |[]=>rfl
 |x::l=>by simp [ints,AV.aB,I,AV.sc];exact js l
theorem pd (a b:List Int):ints (a++b)=ints a++ints b:=by simp [ints]
def Rd (h:H) (v:AV) (cs:List AV):Prop:=aR h 1 v=some (cs.length,cs)∧∀s,v≠.str s
theorem Rd.len {h:H} {v:AV} {cs:List AV} (r:Rd h v cs):iG false v=some (I cs.length):=by
 obtain⟨r,hs⟩:=r
 unfold aR at r
 split at r
 · obtain⟨h1,h2⟩:=uf (ud r);subst h2;rfl
 · exact absurd rfl (hs _)
 · split at r
   · simp only[uc]at r
     obtain⟨c,_,r⟩:=r
     split at r
     · obtain⟨h1,h2⟩:=uf (ud r);simp [iG,I,h1]
     · cases r
   · cases r
 · split at r
   · split at r
     · obtain⟨h1,h2⟩:=uf (ud r);simp [iG,I,h1]
     · cases r
   · cases r
 · cases r
theorem Rd.mono {h g:H} {v:AV} {cs:List AV} (r:Rd h v cs) (hg:∀id c,h.get id=some c→g.get id=some c):Rd g v cs:=by
 obtain⟨r,hs⟩:=r
 refine⟨?_,hs⟩
 unfold aR at r ⊢
 split at r
 · exact r
 · exact r
 · split at r
   · rename_i q;simp only[if_pos q,uc]at r ⊢
     obtain⟨c,h1,r⟩:=r
     exact⟨c,hg _ _ h1,r⟩
   · cases r
 · exact r
 · cases r
theorem jV {i n:Nat} (h:i<n):cG (I i) n=some i:=by
 simp [cG,nh,I];omega
theorem Rd.elem {h : H} {v : AV} {cs : List AV} (r : Rd h v cs) {i : Nat} {c : AV} (hc : cs[i]? = some c) : ∃ p, fB 1 v (I i) = some p ∧ ∀ g : H, (∀ id c, h.get id = some c → g.get id = some c) → bN false 1 p g = some c := by
 obtain⟨r,hs⟩:=r
 have hi:i<cs.length:=(um.1 hc).1
 unfold aR at r
 split at r
 · obtain⟨h1,h2⟩:=uf (ud r);subst h2;simp at hi
 · exact absurd rfl (hs _)
 · rename_i id off len s
   split at r
   · rename_i q
     subst q
     simp only[uc]at r
     obtain⟨d,hd,r⟩:=r
     split at r
     · obtain⟨h1,h2⟩:=uf (ud r)
       refine⟨.aC id (off+i),by simp [fB,jV (h1 ▸ hi)],fun g hg=> ?_⟩
       simp only[bN,hg _ _ hd,uo,gE,uq,uS]
       rw[←h2,uQ]at hc
       split at hc
       · rwa [uI]at hc
       · cases hc
     · cases r
   · cases r
 · rename_i t cells off len s
   split at r
   · rename_i q
     subst q
     split at r
     · obtain⟨h1,h2⟩:=uf (ud r)
       refine⟨.aJ cells (off+i),by simp [fB,jV (h1 ▸ hi)],fun g hg=> ?_⟩
       simp only[bN,gE,uq,uS]
       rw[←h2,uQ]at hc
       split at hc
       · rwa [uI]at hc
       · cases hc
     · cases r
   · cases r
 · cases r
def mV (h:H) (v:AV) (cs:List AV):Prop:=(v=.aO∧cs=[])∨∃id,v=.aD id 0 cs.length 1∧h.get id=some cs∧h.floor≤id∧cs≠[]
theorem mV.mono {h g:H} {v:AV} {cs:List AV} (o:mV h v cs) (hf:g.floor=h.floor) (hg:∀i,v.id?=some i→g.get i=h.get i):mV g v cs:=by
 rcases o with o|⟨id,rfl,h1,h2,h3⟩
 · exact .inl o
 · exact .inr ⟨id,rfl,by rw[hg id rfl];exact h1,by rw[hf];exact h2,h3⟩
theorem mV.sc {h:H} {v:AV} {cs:List AV} (o:mV h v cs):v.sc=true:=by
 rcases o with ⟨rfl,_⟩|⟨id,rfl,_⟩<;>rfl
theorem mV.lt {h:H} {v:AV} {cs:List AV} (o:mV h v cs) {i:Nat} (hi:v.id?=some i):i<h.next:=by
 rcases o with ⟨rfl,_⟩|⟨id,rfl,h1,_⟩
 · cases hi
 · obtain rfl:=ud hi;exact h.lt _ _ h1
theorem mV.app {h:H} {v:AV} {cs:List AV} (o:mV h v cs) (hfn:h.floor≤h.next) {z:Nat} (c:AV) (hc:c.sc=true) (hr:roomy z (cs.length+1)=true):
 ∃v' h',dC h 1 z v 1 [c]=some (v',h')∧mV h' v' (cs++[c])∧h'.floor=h.floor∧h.next≤h'.next∧(∀i,v.id?≠some i→i≠h.next→h'.get i=h.get i)∧v'.id?=some h.next:=by
 have ha:AV.aB [c]=true:=by simp [AV.aB,hc]
 rcases o with ⟨rfl,rfl⟩|⟨id,rfl,hg,hf,hne⟩
 · refine⟨.aD h.next 0 1 1,h.alloc [c], ?_,.inr ⟨h.next,rfl,by simp [H.aV], ?_,by simp⟩,by simp,by simp,fun i _ hi=>by rw[H.aV,if_neg hi],rfl⟩
   · unfold dC
     rw[if_neg (by omega),if_neg (by simp [ha])]
     simp only[List.length_nil,uC]at hr
     simp only[hr,if_true]
   · simp;omega
 · refine⟨.aD h.next 0 (cs.length+1) 1,(h.del id).alloc (cs++[c]), ?_,.inr ⟨h.next,by simp,by simp [H.aV], ?_,by simp⟩,by simp,by simp,fun i h1 h2=> ?_,rfl⟩
   · unfold dC
     rw[if_neg (by omega),if_neg (by simp [ha])]
     simp only[hf,and_self,if_true,hg,uo]
     rw[if_neg (by omega),if_pos ⟨by omega,hr⟩]
     simp
   · have:=h.lt id cs hg;simp;omega
   · rw[H.aV,H.jc,if_neg h2,H.dJ,if_neg]
     intro e;subst e;exact h1 rfl
def cU (h:H) (p:Option AV):Option (AV×H):=p.bind fun v=>some (v,h)
theorem qK (h:H) (v:AV):cU h (some v)=some (v,h):=ui rfl rfl
def sG (h:H) (neg:Bool) (p:Option Bool):Option (AV×H):=p.bind fun b=>some (oR neg b,h)
theorem qL (h:H) (neg b:Bool):sG h neg (some b)=some (oR neg b,h):=ui rfl rfl
theorem sH (b:Bool):oR false b=.bool b:=ui rfl rfl
theorem sI (b:Bool):oR true b=.bool (!b):=ui rfl rfl
def qM (p:Option H):Option (AV×H):=p.bind fun h=>some (.bot,h)
theorem qN (h:H):qM (some h)=some (.bot,h):=ui rfl rfl
def mN (h:H) (a b:AV) (c:AV):Option (AV×H):=match c with| .bool t=>some (if t then a else b,h)|_=>none
theorem oz (h:H) (a b:AV):mN h a b (.bool true)=some (a,h):=ui rfl rfl
theorem ou (h:H) (a b:AV):mN h a b (.bool false)=some (b,h):=ui rfl rfl
def je (h:H) (c:AV):Option (AV×H):=match c with| .aC i o=>some (.aC i o,h)| .aJ c o=>some (.aJ c o,h)| .fn f a b=>some (.fn f a b,h)| .iface t v=>some (.iface t v,h)|_=>none
theorem nP (h:H) (i o:Nat):je h (.aC i o)=some (.aC i o,h):=ui rfl rfl
theorem nN (h:H) (c:List AV) (o:Nat):je h (.aJ c o)=some (.aJ c o,h):=ui rfl rfl
theorem nM (h:H) (f:Nat) (a b:List AV):je h (.fn f a b)=some (.fn f a b,h):=ui rfl rfl
theorem nO (h:H) (t:Nat) (v:AV):je h (.iface t v)=some (.iface t v,h):=ui rfl rfl
def su (h:H) (c:AV):Option (AV×H):=match c with| .bool b=>some (.bool (!b),h)|_=>none
theorem qt (h:H) (b:Bool):su h (.bool b)=some (.bool (!b),h):=ui rfl rfl
def sq (h:H) (c:AV):Option (AV×H):=match c with| .int k n=>some (.int k (k.wrap (0-n)),h)|_=>none
theorem tz (h:H) (k:IntKind) (n:Int):sq h (.int k n)=some (.int k (k.wrap (0-n)),h):=ui rfl rfl
def sg (h:H) (c:AV):Option (AV×H):=match c with| .int k n=>some (.int k (bits .xor k (if k.signed then-1 else k.max) n),h)|_=>none
theorem tw (h:H) (k:IntKind) (n:Int):sg h (.int k n)=some (.int k (bits .xor k (if k.signed then-1 else k.max) n),h):=ui rfl rfl
def oY (h:H) (k:IntKind) (c:AV):Option (AV×H):=match c with| .int _ n=>some (.int k (k.wrap n),h)|_=>none
theorem ns (h:H) (j k:IntKind) (n:Int):oY h k (.int j n)=some (.int k (k.wrap n),h):=ui rfl rfl
def px (h:H) (c:AV):Option (AV×H):=match c with| .str s=>some (.str s,h)|_=>none
theorem oF (h:H) (s:ByteArray):px h (.str s)=some (.str s,h):=ui rfl rfl
def rF (h:H) (neg:Bool) (a b:AV):Option (AV×H):=match a,b with| .bool a,.bool b=>some (oR neg (a==b),h)|_,_=>none
theorem tt (h:H) (neg a b:Bool):rF h neg (.bool a) (.bool b)=some (oR neg (a==b),h):=ui rfl rfl
def pb (h:H) (i:Nat) (v:AV):Option (AV×H):=match v with| .bJ vs=>cU h (vs[i]?)|_=>none
theorem nB (h:H) (i:Nat) (vs:List AV):pb h i (.bJ vs)=cU h (vs[i]?):=ui rfl rfl
def rK (h:H) (agg:Bool) (off n:Nat) (v:AV):Option (AV×H):=match v with| .agg cs=>cU h (gE agg n cs off)|_=>none
theorem p9 (h:H) (agg:Bool) (off n:Nat) (cs:List AV):rK h agg off n (.agg cs)=cU h (gE agg n cs off):=ui rfl rfl
def mS (h:H) (t:Nat) (v:AV):Option (AV×H):=match v with| .iface u v=>if u=t then some (v,h)else none|_=>none
theorem oP (h:H) (t:Nat) (v:AV):mS h t (.iface t v)=some (v,h):=by simp [mS]
def jZ (c:ae) (args:List AV) (h:H) (f:AV):Option (AV×H):=match f with| .fn k first captured=>c k (first++args++captured) h|_=>none
theorem nq (c:ae) (args:List AV) (h:H) (k:Nat):jZ c args h (.fn k [] [])=c k args h:=by simp [jZ]
theorem lX (c:ae) (args:List AV) (h:H) (k:Nat) (f g:List AV):jZ c args h (.fn k f g)=c k (f++args++g) h:=ui rfl rfl
def dZ (h:H) (p:Option (List AV×(Nat→AV))):Option (AV×H):=p.bind fun b=>some (b.2 h.next,h.alloc b.1)
theorem lQ (h:H) (cs:List AV) (f:Nat→AV):dZ h (some (cs,f))=some (f h.next,h.alloc cs):=ui rfl rfl
def ru (h:H) (p:Option (List AV)):Option (AV×H):=p.bind fun cs=>some (.agg cs,h)
theorem pI (h:H) (cs:List AV):ru h (some cs)=some (.agg cs,h):=ui rfl rfl
def th (h:H) (x:AV) (p:Option (Nat×List AV)):Option (AV×H):=p.bind fun q=>(kg q.2).bind fun l=>match x with| .str _=>none|_=>some (.str ⟨l.toArray⟩,h)
section
variable (c:ae) (e:Env) (h:H)
theorem sx (x:X):ah c e h (.mv x)=some (x.ev e,h):=ui rfl rfl
theorem om (x a b:X):ah c e h (.pick x a b)=mN h (a.ev e) (b.ev e) (x.ev e):=ui rfl rfl
theorem fY (z:List AV):ah c e h (.alloc z)=dZ h (aX e (.alloc z)):=ui rfl rfl
theorem iy (n:Nat) (x:X):ah c e h (.box n x)=dZ h (aX e (.box n x)):=ui rfl rfl
theorem fp (a b:Nat) (z:List AV) (ps):ah c e h (.cw a b z ps)=dZ h (aX e (.cw a b z ps)):=ui rfl rfl
theorem gD (a b:Nat) (z:List AV) (x y:X):ah c e h (.iw a b z x y)=dZ h (aX e (.iw a b z x y)):=ui rfl rfl
theorem nS (x:X):ah c e h (.oE x)=dZ h (aX e (.oE x)):=ui rfl rfl
theorem mD (z:List AV) (ps:List (Nat×Nat×X)):ah c e h (.build z ps)=ru h (dH z (ps.map fun p=>(p.1,p.2.1,p.2.2.ev e))):=ui rfl rfl
theorem n9 (agg:Bool) (n:Nat) (p:X):ah c e h (.load agg n p)=cU h (bN agg n (p.ev e) h):=ui rfl rfl
theorem mH (n:Nat) (p v:X):ah c e h (.store n p v)=qM (cJ n (p.ev e) (v.ev e) h):=ui rfl rfl
theorem oj (x:X):ah c e h (.nL x)=je h (x.ev e):=ui rfl rfl
theorem qw (o:Bo) (x y:X):ah c e h (.bin o x y)=cU h (bh o (x.ev e) (y.ev e)):=ui rfl rfl
theorem qz (k:Nat) (neg:Bool) (x y:X):ah c e h (.kv k neg x y)=sG h neg (fj k (x.ev e) (y.ev e)):=ui rfl rfl
theorem qy (neg:Bool) (x y:X):ah c e h (.rE neg x y)=rF h neg (x.ev e) (y.ev e):=ui rfl rfl
theorem qE (x:X):ah c e h (.not x)=su h (x.ev e):=ui rfl rfl
theorem qD (x:X):ah c e h (.neg x)=sq h (x.ev e):=ui rfl rfl
theorem qB (x:X):ah c e h (.inv x)=sg h (x.ev e):=ui rfl rfl
theorem nU (k:IntKind) (x:X):ah c e h (.conv k x)=oY h k (x.ev e):=ui rfl rfl
theorem oo (x:X):ah c e h (.same x)=px h (x.ev e):=ui rfl rfl
theorem qv (x:X):ah c e h (.kg x)=th h (x.ev e) (aR h 1 (x.ev e)):=ui rfl rfl
theorem oh (t:Nat) (x:X):ah c e h (.nK t x)=if(x.ev e).sc then some (.iface t (x.ev e),h)else none:=ui rfl rfl
theorem oe (f:Nat) (a b:List X):ah c e h (.nJ f a b)=some (.fn f (aW e a) (aW e b),h):=ui rfl rfl
theorem qG (x:X) (lo hi:Option X):ah c e h (.s6 x lo hi)=cU h (ni (x.ev e) (lo.map (X.ev e)) (hi.map (X.ev e))):=ui rfl rfl
theorem sy (sz:Nat) (x:X) (lo hi mx:Option X):ah c e h (.sl sz x lo hi mx)=cU h (rz h sz (x.ev e) (lo.map (X.ev e)) (hi.map (X.ev e)) (mx.map (X.ev e))):=ui rfl rfl
theorem qF (n sz:Nat) (x:X) (lo hi:Option X):ah c e h (.re n sz x lo hi)=cU h (lM h n sz (x.ev e) (lo.map (X.ev e)) (hi.map (X.ev e))):=ui rfl rfl
theorem nX (off:Nat) (x:X):ah c e h (.nC off x)=cU h (eQ off (x.ev e)):=ui rfl rfl
theorem qA (agg:Bool) (off n:Nat) (x:X):ah c e h (.sQ agg off n x)=rK h agg off n (x.ev e):=ui rfl rfl
theorem nY (sz:Nat) (x i:X):ah c e h (.nD sz x i)=cU h (fB sz (x.ev e) (i.ev e)):=ui rfl rfl
theorem mG (n sz:Nat) (x i:X):ah c e h (.j4 n sz x i)=cU h (cI n sz (x.ev e) (i.ev e)):=ui rfl rfl
theorem n7 (x i:X):ah c e h (.idxs x i)=cU h (lG (x.ev e) (i.ev e)):=ui rfl rfl
theorem nZ (agg:Bool) (n sz:Nat) (x i:X):ah c e h (.nG agg n sz x i)=cU h (lF agg n sz (x.ev e) (i.ev e)):=ui rfl rfl
theorem nW (x:X) (i:Nat):ah c e h (.nz x i)=pb h i (x.ev e):=ui rfl rfl
def mu (c:ae) (h:H) (t f:Nat) (d:Bool) (xs:List AV) (v:AV):Option (AV×H):=match v with| .iface u v=>if u=t then(gN d v h).bind fun x=>c f (x::xs) h else none|_=>none
def qj (c:ae) (h:H) (f:Nat) (xs:List AV) (p:Option AV):Option (AV×H):=p.bind fun x=>c f (x::xs) h
theorem qk (c:ae) (h:H) (f:Nat) (xs:List AV) (x:AV):qj c h f xs (some x)=c f (x::xs) h:=rfl
theorem qh (c:ae) (h:H) (t f:Nat) (xs:List AV) (v:AV):mu c h t f false xs (.iface t v)=c f (v::xs) h:=by simp [mu,gN]
theorem qi (c:ae) (h:H) (t f:Nat) (xs:List AV) (v:AV):mu c h t f true xs (.iface t v)=qj c h f xs (bN false 1 v h):=by simp [mu,gN,qj]
theorem oq (x:X) (t:Nat):ah c e h (.oO x t)=mS h t (x.ev e):=ui rfl rfl
theorem n8 (r:X) (t f:Nat) (d:Bool) (xs:List X):ah c e h (.inv2 r t f d xs)=mu c h t f d (aW e xs) (r.ev e):=ui rfl rfl
theorem nT (f:X) (args:List X):ah c e h (.call f args)=jZ c (aW e args) h (f.ev e):=ui rfl rfl
theorem qu (a b:Nat) (x y:X):ah c e h (.app a b x y)=j9 h a b (x.ev e) (y.ev e):=ui rfl rfl
theorem nR (a b:Nat) (z:List AV) (x y:X):ah c e h (.jt a b z x y)=gJ h a b z (x.ev e) (y.ev e):=ui rfl rfl
theorem qC (s:Bool) (x:X):ah c e h (.len s x)=cU h (iG s (x.ev e)):=ui rfl rfl
theorem qx (x:X):ah c e h (.cap x)=cU h (pF (x.ev e)):=ui rfl rfl
theorem nV (n:Nat) (x y:X):ah c e h (.copy n x y)=gK h n (x.ev e) (y.ev e):=ui rfl rfl
theorem mE (n:Nat) (z:List AV) (x:X):ah c e h (.clear n z x)=qM (dW h n z (x.ev e)):=ui rfl rfl
end
theorem lL (e:Env):aW e []=[]:=ui rfl rfl
theorem kd (e:Env) (x:X) (r:List X):aW e (x::r)=x.ev e::aW e r:=ui rfl rfl
def tu (c:ae) (d:Option Nat) (r:List aj) (e:Env) (p:Option (AV×H)):Option (Env×H):=p.bind fun q=>au c r (aL d q.1 e) q.2
theorem rW (c:ae) (d:Option Nat) (r:List aj) (e:Env) (v:AV) (h:H):tu c d r e (some (v,h))=au c r (aL d v e) h:=ui rfl rfl
def kE (w:Bool) (c:ae) (e:Env) (h:H) (op:bR) (g:AV):Option (AV×H):=match g with| .bool b=>if b=w then ah c e h op else some (.bJ [],h)| .bJ []=>some (.bJ [],h)|_=>none
theorem qg (c:ae) (e:Env) (h:H) (op:bR):kE true c e h op (.bool true)=ah c e h op:=by simp [kE]
theorem qc (c:ae) (e:Env) (h:H) (op:bR):kE false c e h op (.bool false)=ah c e h op:=by simp [kE]
theorem qf (c:ae) (e:Env) (h:H) (op:bR):kE true c e h op (.bool false)=some (.bJ [],h):=by simp [kE]
theorem qe (c:ae) (e:Env) (h:H) (op:bR):kE false c e h op (.bool true)=some (.bJ [],h):=by simp [kE]
theorem rQ (w:Bool) (c:ae) (e:Env) (h:H) (op:bR):kE w c e h op (.bJ [])=some (.bJ [],h):=by simp [kE]
theorem mo (c:ae) (d:Option Nat) (op:bR) (g:Nat) (w:Bool) (e:Env) (h:H):ai c ⟨d,op,some (g,w)⟩ e h=kE w c e h op (look e g):=by
 unfold ai kE
 dsimp only
 cases look e g with
 |bJ vs=>cases vs<;>rfl
 |_=>rfl
theorem ot (c:ae) (e:Env) (h:H):au c [] e h=some (e,h):=ui rfl rfl
theorem sB (c:ae) (d:Option Nat) (op:bR) (r:List aj) (e:Env) (h:H):au c (⟨d,op,none⟩::r) e h=tu c d r e (ah c e h op):=ui rfl rfl
theorem sA (c:ae) (d:Option Nat) (op:bR) (g:Nat) (w:Bool) (r:List aj) (e:Env) (h:H):au c (⟨d,op,some (g,w)⟩::r) e h=tu c d r e (kE w c e h op (look e g)):=by
 rw[au,mo];rfl
def tv (vE:List Nat) (p:Option (Env×H)):dk:=p.bind fun q=>some (.normal,ax q.1 vE,q.2)
theorem rX (vE:List Nat) (e:Env) (h:H):tv vE (some (e,h))=some (.normal,ax e vE,h):=ui rfl rfl
def sU (c:ae) (l:bE) (b:aF) (p:dk):dk:=p.bind fun r=>match r with|(.normal,e',h')=>aK c l b e' h'|r=>some r
theorem rY (c:ae) (l:bE) (b:aF) (e:Env) (h:H):sU c l b (some (.normal,e,h))=aK c l b e h:=ui rfl rfl
theorem r8 (c:ae) (l:bE) (b:aF) (i:Nat) (e:Env) (h:H):sU c l b (some (.exit i,e,h))=some (.exit i,e,h):=ui rfl rfl
theorem rZ (c:ae) (l:bE) (b:aF) (e:Env) (h:H):sU c l b (some (.ret,e,h))=some (.ret,e,h):=ui rfl rfl
def sS (vE:List Nat) (p:dk):dk:=p.bind fun r=>match r with|(.normal,e',h')=>some (.normal,ax e' vE,h')|r=>some r
theorem rT (vE:List Nat) (e:Env) (h:H):sS vE (some (.normal,e,h))=some (.normal,ax e vE,h):=ui rfl rfl
theorem rV (vE:List Nat) (i:Nat) (e:Env) (h:H):sS vE (some (.exit i,e,h))=some (.exit i,e,h):=ui rfl rfl
theorem rU (vE:List Nat) (e:Env) (h:H):sS vE (some (.ret,e,h))=some (.ret,e,h):=ui rfl rfl
def sR (c:ae) (l:bE) (a b:aF) (e:Env) (h:H) (t:AV):dk:=match t with| .bool t=>if t then aK c l a e h else aK c l b e h|_=>none
theorem rS (c:ae) (l:bE) (a b:aF) (e:Env) (h:H):sR c l a b e h (.bool true)=aK c l a e h:=ui rfl rfl
theorem rR (c:ae) (l:bE) (a b:aF) (e:Env) (h:H):sR c l a b e h (.bool false)=aK c l b e h:=ui rfl rfl
def qb (id:Nat) (vE:List Nat) (p:dk):dk:=p.bind fun r=>match r with
 |(.normal,e',h')=>some (.normal,ax e' vE,h')
 |(.exit j,e',h')=>if j=id then some (.normal,ax e' vE,h')else some (.exit j,e',h')
 |(.ret,e',h')=>some (.ret,e',h')
theorem rM (id:Nat) (vE:List Nat) (e:Env) (h:H):qb id vE (some (.normal,e,h))=some (.normal,ax e vE,h):=ui rfl rfl
theorem rO (id:Nat) (vE:List Nat) (e:Env) (h:H):qb id vE (some (.exit id,e,h))=some (.normal,ax e vE,h):=by simp [qb]
theorem rP {id j:Nat} (hj:j≠id) (vE:List Nat) (e:Env) (h:H):qb id vE (some (.exit j,e,h))=some (.exit j,e,h):=by simp [qb,hj]
theorem rN (id:Nat) (vE:List Nat) (e:Env) (h:H):qb id vE (some (.ret,e,h))=some (.ret,e,h):=ui rfl rfl
section
variable (c:ae) (l:bE) (e:Env) (h:H)
theorem rh (ops:List aj) (vE:List Nat):aK c l (.oA ops vE) e h=tv vE (au c ops e h):=by rw[aK];rfl
theorem mZ (ord:List Nat) (ops:List aj) (vE:List Nat):aK c l (.ir ord ops [] vE) e h=tv vE (au c ops e h):=by rw[kz];rfl
theorem ri (a b:aF):aK c l (.seq a b) e h=sU c l b (aK c l a e h):=by rw[aK];rfl
theorem pE (x:X) (a b:aF) (vE:List Nat):aK c l (.cond x a b vE) e h=sS vE (sR c l a b e h (x.ev e)):=by
 rw[aK];unfold sR;cases hx:x.ev e with
 |bool t=>cases t<;>rfl
 |_=>rfl
theorem mY (id:Nat) (x:aF) (vE:List Nat):aK c l (.block id x vE) e h=qb id vE (aK c l x e h):=by rw[aK];rfl
end
theorem my (t:Nat) (v:AV) (r:Env):look ((t,v)::r) t=v:=if_pos rfl
theorem kG {s t:Nat} (hst:s≠t) (v:AV) (r:Env):look ((s,v)::r) t=look r t:=if_neg hst
theorem rJ (e:Env) (n:Nat):(X.t n).ev e=look e n:=ui rfl rfl
theorem rI (e:Env) (v:AV):(X.c v).ev e=v:=ui rfl rfl
theorem oB (e:Env) (t:Nat) (r:List Nat):ax e (t::r)=(t,look e t)::ax e r:=ui rfl rfl
theorem oC (e:Env):ax e []=[]:=ui rfl rfl
theorem sD (d:Nat) (v:AV) (e:Env):aL (some d) v e=(d,v)::e:=ui rfl rfl
theorem sC (v:AV) (e:Env):aL none v e=e:=ui rfl rfl
theorem mM (i:Nat):params i []=[]:=ui rfl rfl
theorem mL (i:Nat) (v:AV) (r:List AV):params i (v::r)=(i,v)::params (i+1) r:=ui rfl rfl
def tN (id off sz:Nat) (p:Option Nat):Option AV:=p.bind fun j=>some (.aC id (off+j* sz))
def tO (c:List AV) (off sz:Nat) (p:Option Nat):Option AV:=p.bind fun j=>some (.aJ c (off+j* sz))
theorem r9 (id off sz j:Nat):tN id off sz (some j)=some (.aC id (off+j* sz)):=ui rfl rfl
theorem se (c:List AV) (off sz j:Nat):tO c off sz (some j)=some (.aJ c (off+j* sz)):=ui rfl rfl
theorem nF (n sz id off:Nat) (i:AV):cI n sz (.aC id off) i=tN id off sz (cG i n):=ui rfl rfl
theorem nE (n sz off:Nat) (c:List AV) (i:AV):cI n sz (.aJ c off) i=tO c off sz (cG i n):=ui rfl rfl
theorem p8 (off id o:Nat):eQ off (.aC id o)=some (.aC id (o+off)):=ui rfl rfl
theorem p7 (off o:Nat) (c:List AV):eQ off (.aJ c o)=some (.aJ c (o+off)):=ui rfl rfl
def tP (agg:Bool) (n off:Nat) (p:Option (List AV)):Option AV:=p.bind fun cs=>gE agg n cs off
theorem sE (agg:Bool) (n off:Nat) (cs:List AV):tP agg n off (some cs)=gE agg n cs off:=ui rfl rfl
theorem qn (agg:Bool) (n id off:Nat) (h:H):bN agg n (.aC id off) h=tP agg n off (h.get id):=ui rfl rfl
theorem qm (agg:Bool) (n off:Nat) (cs:List AV) (h:H):bN agg n (.aJ cs off) h=gE agg n cs off:=ui rfl rfl
theorem sF (n:Nat) (cs:List AV) (off:Nat):gE false n cs off=cs[off]?:=by simp [gE]
def tD (h:H) (id off n:Nat) (v:List AV) (p:Option (List AV)):Option H:=p.bind fun cs=>if h.floor≤id∧v.length=n∧off+n≤cs.length∧AV.aB v=true then some (h.set id (setFrom cs off v))else none
theorem oN (n id off:Nat) (v:AV) (h:H):cJ n (.aC id off) v h=tD h id off n v.cells (h.get id):=ui rfl rfl
theorem tU {h:H} {id off:Nat} {v:AV} {cs:List AV} (h1:h.floor≤id) (h2:off<cs.length) (h3:v.sc=true):tD h id off 1 [v] (some cs)=some (h.set id (cs.set off v)):=by
 simp only[tD,uo]
 rw[if_pos ⟨h1,rfl,h2,by simp [h3]⟩];rfl
theorem pW (i o:Nat):fj 0 (.aC i o) .b9=some false:=ui rfl rfl
theorem pU (c:List AV) (o:Nat):fj 0 (.aJ c o) .b9=some false:=ui rfl rfl
theorem pV:fj 0 .b9 .b9=some true:=ui rfl rfl
theorem pZ (i o l z:Nat):fj 1 (.aD i o l z) .aO=some false:=ui rfl rfl
theorem pX (t:Bool) (c:List AV) (o l z:Nat):fj 1 (.aU t c o l z) .aO=some false:=ui rfl rfl
theorem pY:fj 1 .aO .aO=some true:=ui rfl rfl
theorem tI {a b:Int} (h:a=b):(a==b)=true:=by simp [h]
theorem tH {a b:Int} (h:a≠b):(a==b)=false:=by simp [h]
theorem tK {a b:Int} (h:a≠b):(a !=b)=true:=by simp [h]
theorem tJ {a b:Int} (h:a=b):(a !=b)=false:=by simp [h]
theorem tV (n:Int):I n=.int .i64 n:=rfl
theorem nH (s:ByteArray):iG true (.str s)=some (.int .i64 s.size):=ui rfl rfl
theorem tZ (n:Int):(I n).sc=true:=rfl
attribute [go_sem] qk qh qi n8 rW qg qc qf qe rQ ot sB sA rX rY r8 rZ rT rV rU rS rR rM rO rN rP rh mZ ri pE mY mh nw mg my kG rJ rI oB oC sD sC mM mL qK qL sH sI qN oz ou nP nN nM nO qt ns oF nB p9 oP nq lX lQ pI sx om fY iy fp gD mD n9 mH oj qw qz qy qE qD qB nU oo qv oh oe qG sy qF nX qA nY mG n7 nZ nW oq nT qu nR qC qx nV mE lL kd r9 se nF nE p8 p7 sE qn qm sF oN km jA kq jD jE jC jB kj qO oG qP oJ oK oI oH ne_eq not_false_eq_true Nat.zero_add Nat.add_zero Nat.mul_one Bool.not_true Bool.not_false kV ly lj lh k9 kZ kY kX lq kW nc lz gt_iff_lt ge_iff_le List.cons_append List.nil_append List.append_nil List.append_assoc pW pU pV pZ pX pY nH decide_true decide_false List.length_cons List.length_nil List.set_cons_zero List.set_cons_succ List.getElem?_cons_zero List.getElem?_cons_succ
attribute [go_sem] Nat.reduceEqDiff reduceIte Nat.reduceAdd Nat.reduceMul Nat.reduceLT Nat.reduceLeDiff Int.reduceBEq Int.reduceBNe Int.reduceLT Int.reduceLE Int.reduceEq
end Ab
