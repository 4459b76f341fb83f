/- Part A2. -/
import Derived.ProofKit
import Derived.SizedLaws
import Derived.Carry
import Derived.ChangeArms
import Derived.Attr
import Derived.Test.YtmckmpeekikfdaaGreatA1
set_option linter.unusedSimpArgs false
set_option linter.unusedVariables false
namespace Ab
open Go RowKit
theorem dN (n:Nat):(∀a b:AV,sizeOf a≤n→AV.beq a b=true→a=b)∧(∀a b:List AV,sizeOf a≤n→AV.fS a b=true→a=b):=by
 induction n with
 | zero =>
   refine⟨fun a b h=> ?_,fun a b h=> ?_⟩
   · cases a<;>simp at h
   · cases a<;>simp at h
 | succ n ih =>
   obtain⟨i1,i2⟩:=ih
   refine⟨fun a b h hb=> ?_,fun a b h hb=> ?_⟩
   · cases a<;>cases b<;>simp only[AV.beq,vA,beq_iff_eq,vw]at hb<;>try simp only[AV.bool.sizeOf_spec,AV.aK.sizeOf_spec,AV.aV.sizeOf_spec,AV.fn.sizeOf_spec,AV.iface.sizeOf_spec,AV.agg.sizeOf_spec,AV.bL.sizeOf_spec]at h
     case aK.aK=>rw[i2 _ _ (by omega) hb.1,hb.2]
     case aV.aV=>rw[i2 _ _ (by omega) hb.2.1,hb.1,hb.2.2.1,hb.2.2.2.1,hb.2.2.2.2]
     case fn.fn=>rw[hb.1,i2 _ _ (by omega) hb.2.1,i2 _ _ (by omega) hb.2.2]
     case iface.iface=>rw[hb.1,i1 _ _ (by omega) hb.2]
     case agg.agg=>rw[i2 _ _ (by omega) hb]
     case bL.bL=>rw[i2 _ _ (by omega) hb]
     case str.str a b=>exact congrArg AV.str (ByteArray.ext (by have:(a.data==b.data)=true:=hb;simpa using this))
     all_goals simp_all
   · cases a<;>cases b<;>simp only[AV.fS,vA,vw]at hb<;>try simp only[List.cons.sizeOf_spec]at h
     · rfl
     · rw[i1 _ _ (by omega) hb.1,i2 _ _ (by omega) hb.2]
theorem beq_eq {a b:AV} (h:AV.beq a b=true):a=b:=(dN _).1 a b (vB _) h
theorem n9 {a b:List AV} (h:AV.fS a b=true):a=b:=(dN _).2 a b (vB _) h
structure Gw (h g:H):Prop where
 nx:h.next≤g.next
 get:∀id,id<h.next→g.get id=h.get id
theorem Gw.refl (h:H):Gw h h:=⟨vB _,fun _ _=>rfl⟩
theorem Gw.trans {a b c:H} (h:Gw a b) (k:Gw b c):Gw a c:=⟨vT h.nx k.nx,fun id hi=>by rw[k.get id (Nat.lt_of_lt_of_le hi h.nx),h.get id hi]⟩
theorem Gw.alloc (h:H) (cs:List AV):Gw h (h.alloc cs):=⟨by simp,fun id hi=>by rw[H.aW];rw[if_neg (by omega)]⟩
theorem Gw.some {h g:H} (k:Gw h g) {id:Nat} {cs:List AV} (hg:h.get id=.some cs):g.get id=.some cs:=by rw[k.get id (h.lt id cs hg)];exact hg
theorem fX {call:ah} {e:Env} {h h':H} {o:bT} {v:AV} (hl:o.aO=false) (hb:o.aI=false) (hr:o.reads=false) (hev:ai call e h o=some (v,h')) (G:H):ai call e G o=some (v,G):=by
 obtain rfl:=bI hl hb hev
 cases o<;>simp only[bT.aO,bT.aI,bT.reads,Bool.true_eq_false,reduceCtorEq]at hl hb hr<;>simp only[ai,vk]at hev ⊢
 all_goals first
  |(obtain⟨q1,q2,hev⟩:=hev;exact⟨q1,q2,by rw[(vo (vm hev)).1]⟩)
  |(rw[(vo (vm hev)).1];done)
  |skip
 all_goals repeat' split at hev
 all_goals first
  |(cases hev;done)
  |(obtain⟨q,_⟩:=vo (vm hev);rw[q];done)
  |(obtain⟨q,_⟩:=vo (vm hev);simp [*];done)
  |skip
 all_goals try simp only[vk]at hev
 all_goals
  obtain⟨q1,q2,q3⟩:=hev
  obtain⟨q,_⟩:=vo (vm q3)
  simp [*]
theorem ju {call : ah} {e : Env} {h h' : H} {o : bT} {v : AV} (hl : o.aO = false) (hb : o.aI = false) (hev : ai call e h o = some (v, h')) {G : H} (k : Gw h G) : ai call e G o = some (v, G) := by
 cases hr:o.reads with
 |false=>exact fX hl hb hr hev G
 | true =>
   cases o<;>simp only[bT.reads,vw]at hr<;>simp only[ai,vk]at hev ⊢
   case load agg n p=>
    obtain⟨x,h1,h2⟩:=hev
    refine⟨x, ?_,by rw[(vo (vm h2)).1]⟩
    unfold bP at *
    split at h1
    · simp only[vk]at h1 ⊢
      obtain⟨cs,q1,q2⟩:=h1
      exact⟨cs,k.some q1,q2⟩
    · exact h1
    · cases h1
   case kW x =>
    obtain⟨y,h1,l,h2,h3⟩:=hev
    refine⟨y, ?_,l,h2, ?_⟩
    · unfold aS at *
      split at h1
      · exact h1
      · exact h1
      · split at h1
        · rename_i hs;simp only[if_pos hs,vk]at h1 ⊢
          obtain⟨cs,q1,q2⟩:=h1
          exact⟨cs,k.some q1,q2⟩
        · cases h1
      · exact h1
      · cases h1
    · split at h3
      · cases h3
      · rw[(vo (vm h3)).1]
   case sl sz x a b c =>
    obtain⟨y,h1,h2⟩:=hev
    refine⟨y, ?_,by rw[(vo (vm h2)).1]⟩
    unfold sQ at *
    split at h1
    · split at h1
      · exact h1
      · split at h1
        · rename_i hs;simp only[if_pos hs,vk]at h1 ⊢
          obtain⟨cs,q1,q2⟩:=h1
          exact⟨cs,k.some q1,q2⟩
        · cases h1
      · exact h1
      · cases h1
    · exact h1
   case sF n sz x a b=>
    obtain⟨y,h1,h2⟩:=hev
    refine⟨y, ?_,by rw[(vo (vm h2)).1]⟩
    unfold mQ at *
    split at h1
    · split at h1
      · rename_i hs;simp only[if_pos hs,vk]at h1 ⊢
        obtain⟨cs,q1,q2⟩:=h1
        exact⟨cs,k.some q1,q2⟩
      · cases h1
    · cases h1
theorem j6 {call:ah} {e:Env} {h h':H} {o:ak} {v:AV} (hl:o.op.aO=false) (hb:o.op.aI=false) (hev:aj call o e h=some (v,h')) {G:H} (k:Gw h G):aj call o e G=some (v,G):=by
 unfold aj at *
 split at hev
 · exact ju hl hb hev k
 · split at hev
   · split at hev
     · rename_i q;rw[if_pos q];exact ju hl hb hev k
     · rename_i q;rw[if_neg q];rw[(vo (vm hev)).1]
   · rw[(vo (vm hev)).1]
   · cases hev
theorem j5 {call:ah} {e:Env} {h h':H} {o:ak} {v:AV} (hl:o.op.aO=false) (hb:o.op.aI=false) (hr:o.op.reads=false) (hev:aj call o e h=some (v,h')) (G:H):aj call o e G=some (v,G):=by
 unfold aj at *
 split at hev
 · exact fX hl hb hr hev G
 · split at hev
   · split at hev
     · rename_i q;rw[if_pos q];exact fX hl hb hr hev G
     · rename_i q;rw[if_neg q];rw[(vo (vm hev)).1]
   · rw[(vo (vm hev)).1]
   · cases hev
theorem lE {call:ah} {e:Env} {h h':H} {o:ak} {v:AV} (hl:o.op.aO=false) (hev:aj call o e h=some (v,h')):Gw h h':=by
 have key:∀{v h'},ai call e h o.op=some (v,h')→Gw h h':=by
  intro v h' hev
  cases hb:o.op.aI with
  |false=>rw[bI hl hb hev];exact .refl _
  |true=>obtain⟨b,_,_,rfl⟩:=cF hb hev;exact .alloc _ _
 unfold aj at hev
 repeat' split at hev
 all_goals first
  |exact key hev
  |(cases hev;done)
  |(obtain⟨_,rfl⟩:=vo (vm hev);exact .refl _)
theorem bW {call : ah} {e : Env} {h h' : H} {o : ak} {v : AV} (hb : o.op.aI = true) (hev : aj call o e h = some (v, h')) :
 (v=.bL []∧h'=h∧∀G,aj call o e G=some (.bL [],G))∨∃b,aY e o.op=some b∧v=b.2 h.next∧h'=h.alloc b.1∧v.id?=some h.next∧∀G,aj call o e G=ai call e G o.op:=by
 have key:ai call e h o.op=some (v,h')→(∀G,aj call o e G=ai call e G o.op)→∃b,aY e o.op=some b∧v=b.2 h.next∧h'=h.alloc b.1∧v.id?=some h.next∧∀G,aj call o e G=ai call e G o.op:=by
  intro hev hg
  obtain⟨b,h1,h2,h3⟩:=cF hb hev
  exact⟨b,h1,h2,h3,h2 ▸ mT h1 _,hg⟩
 unfold aj at hev
 split at hev
 · rename_i q;exact .inr (key hev fun G=>by unfold aj;rw[q])
 · rename_i g want q
   split at hev
   · rename_i b q2
     split at hev
     · rename_i q3;exact .inr (key hev fun G=>by unfold aj;simp only[q,q2,if_pos q3])
     · rename_i q3
       obtain⟨rfl,rfl⟩:=vo (vm hev)
       exact .inl ⟨rfl,rfl,fun G=>by unfold aj;simp only[q,q2,if_neg q3]⟩
   · rename_i q2
     obtain⟨rfl,rfl⟩:=vo (vm hev)
     exact .inl ⟨rfl,rfl,fun G=>by unfold aj;simp only[q,q2]⟩
   · cases hev
def nl:List ak→Nat
 |[]=>0
 |o::r=>(if o.op.aO=true then 1 else 0)+nl r
theorem eY (a b:List ak):nl (a++b)=nl a+nl b:=by
 induction a with
 |nil=>simp [nl]
 |cons o a ih=>simp only[List.cons_append,nl,ih];omega
theorem bY {os:List ak} {p:Nat} {x:ak} (hx:os[p]?=some x):nl (os.take (p+1))=nl (os.take p)+(if x.op.aO=true then 1 else 0):=by
 rw[List.take_add_one,hx,eY];simp [nl]
theorem gK {os:List ak} {p q:Nat} (h:p≤q):nl (os.take p)≤nl (os.take q):=by
 have:os.take q=os.take p++(os.take q).drop p:=by
  have:=(List.take_append_drop p (os.take q)).symm
  rwa [List.take_take,Nat.min_eq_left h]at this
 rw[this,eY];omega
theorem jE (os:List ak) (p:Nat):nl (os.take p)≤nl os:=by
 conv=>rhs;rw[←List.take_append_drop p os]
 rw[eY];omega
theorem iG : ∀ (os : List ak) (p k : Nat), k < nl (os.take p) → ∃ (q : Nat) (x : ak), q < p ∧ os[q]? = some x ∧ x.op.aO = true ∧ nl (os.take q) = k := by
 intro os p
 induction p with
 |zero=>intro k hk;simp [nl]at hk
 | succ p ih =>
   intro k hk
   cases hx:os[p]? with
   | none =>
     have:os.take (p+1)=os.take p:=by rw[List.take_add_one,hx];simp
     rw[this]at hk
     obtain⟨q,x,a,b⟩:=ih k hk
     exact⟨q,x,by omega,b⟩
   | some x =>
     rw[bY hx]at hk
     by_cases hk':k<nl (os.take p)
     · obtain⟨q,y,a,b⟩:=ih k hk'
       exact⟨q,y,by omega,b⟩
     · have hl:x.op.aO=true:=by
        cases hl:x.op.aO with
        |true=>rfl
        |false=>rw[if_neg (by simp [hl])]at hk;omega
       rw[if_pos hl]at hk
       exact⟨p,x,by omega,hx,hl,by omega⟩
theorem cH {call:ah}:∀(a b:List ak) (e:Env) (h:H),aw call (a++b) e h=(aw call a e h).bind fun r=>aw call b r.1 r.2
 |[],b,e,h=>rfl
 | o :: a, b, e, h => by
   simp only[List.cons_append,aw]
   cases hv:aj call o e h with
   |none=>rfl
   |some r=>simp only[vu];exact cH a b _ _
theorem cY {call:ah}:∀{os:List ak} {e e':Env} {h h':H} {gs},aN call os e h=some (e',h',gs)→∃G,gs[0]?=some G∧Gw h G
 |[],_,_,h,_,_,hev=>by cases hev;exact⟨h,rfl,.refl _⟩
 | o :: os, _, _, h, _, _, hev => by
   simp only[aN,vk]at hev
   obtain⟨⟨v,h1⟩,hv,⟨e2,h2,gs'⟩,h4,h5⟩:=hev
   cases hl:o.op.aO with
   |true=>simp only[hl,if_true]at h5;cases h5;exact⟨h,rfl,.refl _⟩
   | false =>
     simp only[hl,vw,vS]at h5
     cases h5
     obtain⟨G,g1,g2⟩:=cY h4
     exact⟨G,g1,(lE hl hv).trans g2⟩
theorem ft {call:ah}:∀{os:List ak} {e e':Env} {h h':H} {gs},aN call os e h=some (e',h',gs)→gs[nl os]?=some h'
 |[],_,_,_,_,_,hev=>by cases hev;rfl
 | o :: os, _, _, _, _, _, hev => by
   simp only[aN,vk]at hev
   obtain⟨⟨v,h1⟩,hv,⟨e2,h2,gs'⟩,h4,h5⟩:=hev
   have:=ft h4
   cases hl:o.op.aO with
   |true=>simp only[hl,if_true]at h5;cases h5;simp only[nl,hl,if_true,Nat.add_comm 1,vI];exact this
   |false=>simp only[hl,vw,vS]at h5;cases h5;simp only[nl,hl,vw,vS,vF];exact this
theorem ij {call : ah} : ∀ {os : List ak} {e e' : Env} {h h' : H} {gs}, aN call os e h = some (e', h', gs) → ∀ {p : Nat} {x : ak}, os[p]? = some x → ∃ e1 h1 v h2 G,
 aw call (os.take p) e h=some (e1,h1)∧aj call x e1 h1=some (v,h2)∧aw call (os.drop (p+1)) (aM x.dst v e1) h2=some (e',h')∧
 gs[nl (os.take p)+(if x.op.aO=true then 1 else 0)]?=some G∧Gw h2 G∧(x.op.aO=true→gs[nl (os.take p)]?=some h1)
 |[],_,_,_,_,_,_,p,x,hx=>by simp at hx
 | o :: os, e, _, h, _, _, hev, p, x, hx => by
   simp only[aN,vk]at hev
   obtain⟨⟨v,h1⟩,hv,⟨e2,h2,gs'⟩,h4,h5⟩:=hev
   cases p with
   | zero =>
     simp at hx;subst hx
     obtain⟨G,g1,g2⟩:=cY h4
     refine⟨e,h,v,h1,G,rfl,hv, ?_, ?_,g2, ?_⟩
     · obtain⟨rfl,h6⟩:=vo (vm h5);obtain⟨rfl,_⟩:=vo h6
       exact cf h4
     · cases hl:o.op.aO with
       |true=>simp only[hl,if_true]at h5;cases h5;simpa [nl]using g1
       |false=>simp only[hl,vw,vS]at h5;cases h5;simpa [nl]using g1
     · intro hl;simp only[hl,if_true]at h5;cases h5;rfl
   | succ p =>
     obtain⟨e3,h3,u,h6,G,a1,a2,a3,a4,a5,a6⟩:=ij h4 (p:=p) (x:=x) (by simpa using hx)
     refine⟨e3,h3,u,h6,G, ?_,a2, ?_, ?_,a5, ?_⟩
     · simp only[vH,aw,hv,vu];exact a1
     · obtain⟨rfl,h7⟩:=vo (vm h5);obtain⟨rfl,_⟩:=vo h7
       simpa using a3
     · cases hl:o.op.aO with
       |true=>simp only[hl,if_true]at h5;cases h5;simp only[vH,nl,hl,if_true];rw[vz,Nat.add_comm 1,vI];exact a4
       |false=>simp only[hl,vw,vS]at h5;cases h5;simp only[vH,nl,hl,vw,vS,vF];exact a4
     · intro hx'
       have a6:=a6 hx'
       cases hl:o.op.aO with
       |true=>simp only[hl,if_true]at h5;cases h5;simp only[vH,nl,hl,if_true];rw[Nat.add_comm 1,vI];exact a6
       |false=>simp only[hl,vw,vS]at h5;cases h5;simp only[vH,nl,hl,vw,vS,vF];exact a6
def jr (os:List ak):List Nat:=os.filterMap (·.dst)
theorem bc {call:ah}:∀{os:List ak} {e e':Env} {h h':H},aw call os e h=some (e',h')→∀t,t∉jr os→look e' t=look e t
 |[],_,_,_,_,hev,t,_=>by cases hev;rfl
 | o :: os, e, _, _, _, hev, t, ht => by
   simp only[aw,vk]at hev
   obtain⟨⟨v,h1⟩,hv,h4⟩:=hev
   have hd:o.dst≠some t∧t∉jr os:=by
    unfold jr at ht ⊢
    rw[List.filterMap_cons]at ht
    cases hd:o.dst with
    |none=>rw[hd]at ht;exact⟨nofun,ht⟩
    |some d=>rw[hd]at ht;simp only[vR,not_or]at ht;exact⟨fun q=>ht.1 (vm q).symm,ht.2⟩
   rw[bc h4 t hd.2]
   cases hd':o.dst with
   |none=>rfl
   | some d =>
     simp only[aM,look]
     rw[if_neg (fun q=>hd.1 (by rw[hd',q]))]
end Ab
namespace Ab
open Go RowKit
structure Z where
 i:Nat
 x:ak
 m:Nat
def ie (o:Oper):List Nat:=(o.after.toList.filter (Region.binds .any)).map (·.on)
def kO:List Z→Nat→Option Nat
 |[],_=>none
 |z::r,e=>if z.i=e then some z.m else kO r e
def iX (acc:List Z):List Nat→Option Nat
 |[]=>some 0
 |e::r=>(kO acc e).bind fun m=>(iX acc r).bind fun m'=>some ((m|||2^e)|||m')
def oH (L:Lk) (nt:Nat) (ops:Array Oper):List Nat→List Z→Option (List Z)
 |[],_=>some []
 |i::r,acc=>(ops[i]?).bind fun o=>(bu L nt ops o).bind fun x=>(iX acc (ie o)).bind fun m=>(oH L nt ops r (⟨i,x,m⟩::acc)).bind fun zs=>some (⟨i,x,m⟩::zs)
def dS:List (Nat×List Nat)→Nat→List Nat
 |[],_=>[]
 |(q,ks)::r,p=>if q=p then ks else dS r p
def bK (fl:List Nat) (z y:Z):Bool:=
 decide (z.i≠y.i)&&((match z.x.dst with|none=>true|some d=>decide (y.x.dst≠some d)&&(!(y.x.tm.contains d)||y.m.testBit z.i))&&
 ((match y.x.dst with|none=>true|some d=> !(z.x.tm.contains d)||(y.m.testBit z.i&&fl.isEmpty))&&(!(z.x.op.aO&&y.x.op.aO)||y.m.testBit z.i)))
def dD (z:Z) (j:Nat):Nat→List Z→Bool
 |_,[]=>true
 |q,y::r=>if y.x.op.aO=true then((!(z.m.testBit y.i)||decide (q<j))&&(!(y.m.testBit z.i)||decide (j≤q)))&&dD z j (q+1) r else dD z j q r
def ef (zs:List Z) (fl:List Nat) (own n:Nat) (z:Z):Bool:=
 ((match z.x.dst with|none=> !z.x.op.aI&&fl.isEmpty|some d=> !(z.x.tm.contains d)||fl.isEmpty))&&
 (!(z.x.op.aI||z.x.op.reads)||(List.range (n+1)).all fun j=>j==own|| !dD z j 0 zs||fl.contains j)
def pW (all:List Z) (fl:List (Nat×List Nat)) (n:Nat):Nat→Nat→List Z→Bool
 |_,_,[]=>true
 |p,own,z::r=>ef all (dS fl p) own n z&&(r.all (bK (dS fl p) z)&&pW all fl n (p+1) (if z.x.op.aO=true then own+1 else own) r)
def kL (L:Lk) (nt:Nat) (ops:Array Oper) (ord:List Nat) (fl:List (Nat×List Nat)):Option (List ak):=
 (oH L nt ops ord []).bind fun zs=>
 if ord.length=ops.size∧(List.range ops.size).all (ord.contains ·)=true∧pW zs fl (nl (zs.map (·.x))) 0 0 zs=true then some (zs.map (·.x))else none
theorem dZ {L:Lk} {nt:Nat} {ops:Array Oper}:∀{ord:List Nat} {acc zs:List Z},oH L nt ops ord acc=some zs→zs.map (·.i)=ord∧∀z∈zs,∃o,ops[z.i]?=some o∧bu L nt ops o=some z.x
 |[],_,_,h=>by obtain rfl:=vm h;exact⟨rfl,fun z hz=>by simp at hz⟩
 | i :: r, acc, zs, h => by
   simp only[oH,vk]at h
   obtain⟨o,h1,x,h2,m,h3,zs',h4,h5⟩:=h
   obtain rfl:=vm h5
   obtain⟨g1,g2⟩:=dZ h4
   refine⟨by simp [g1],fun z hz=> ?_⟩
   rcases vR.1 hz with rfl|hz
   · exact⟨o,h1,h2⟩
   · exact g2 z hz
theorem iC:∀{acc:List Z} {e m:Nat},kO acc e=some m→∃z∈acc,z.i=e∧z.m=m
 |[],_,_,h=>by cases h
 | z :: r, e, m, h => by
   unfold kO at h
   split at h
   · rename_i q;exact⟨z,by simp,q,vm h⟩
   · obtain⟨y,hy,q⟩:=iC h;exact⟨y,by simp [hy],q⟩
theorem dc {acc : List Z} : ∀ {es : List Nat} {m : Nat}, iX acc es = some m → (∀ e ∈ es, ∃ z ∈ acc, z.i = e) ∧ ∀ k, m.testBit k = true → ∃ e ∈ es, k = e ∨ ∃ z ∈ acc, z.i = e ∧ z.m.testBit k = true
 |[],m,h=>by obtain rfl:=vm h;exact⟨fun e he=>by simp at he,fun k hk=>by simp at hk⟩
 | e :: es, m, h => by
   simp only[iX,vk]at h
   obtain⟨m1,h1,m2,h2,h3⟩:=h
   obtain rfl:=vm h3
   obtain⟨g1,g2⟩:=dc h2
   obtain⟨z,hz,hz1,hz2⟩:=iC h1
   refine⟨fun e' he=> ?_,fun k hk=> ?_⟩
   · rcases vR.1 he with rfl|he
     · exact⟨z,hz,hz1⟩
     · exact g1 e' he
   · rw[Nat.testBit_or,Nat.testBit_or,vN,vN]at hk
     rcases hk with (hk|hk)|hk
     · exact⟨e,List.mem_cons_self,.inr ⟨z,hz,hz1,hz2.symm ▸ hk⟩⟩
     · rw[Nat.testBit_two_pow]at hk
       exact⟨e,List.mem_cons_self,.inl (of_decide_eq_true hk).symm⟩
     · obtain⟨e',he',q⟩:=g2 k hk
       exact⟨e',by simp [he'],q⟩
def Cl (ops:Array Oper) (done:Nat→Prop):Prop:=∀i o,ops[i]?=some o→done i→∀e∈ie o,done e
theorem gI {L : Lk} {nt : Nat} {ops : Array Oper} {done : Nat → Prop} (hcl : Cl ops done) : ∀ {ord : List Nat} {acc zs : List Z}, oH L nt ops ord acc = some zs →
 (∀z∈acc,done z.i→∀k,z.m.testBit k=true→done k)→∀z∈zs,done z.i→∀k,z.m.testBit k=true→done k
 |[],_,_,h,_=>by obtain rfl:=vm h;intro z hz;simp at hz
 | i :: r, acc, zs, h, ha => by
   simp only[oH,vk]at h
   obtain⟨o,h1,x,h2,m,h3,zs',h4,h5⟩:=h
   obtain rfl:=vm h5
   have hz:∀z∈((⟨i,x,m⟩:Z)::acc),done z.i→∀k,z.m.testBit k=true→done k:=by
    intro z hz hd k hk
    rcases vR.1 hz with rfl|hz
    · obtain⟨e,he,q⟩:=(dc h3).2 k hk
      have hde:=hcl i o h1 hd e he
      rcases q with rfl|⟨y,hy,hy1,hy2⟩
      · exact hde
      · exact ha y hy (hy1 ▸ hde) k hy2
    · exact ha z hz hd k hk
   intro z hzm
   rcases vR.1 hzm with rfl|hzm
   · exact hz _ (by simp)
   · exact gI hcl h4 hz z hzm
theorem iF {L : Lk} {nt : Nat} {ops : Array Oper} {done : Nat → Prop} : ∀ {ord : List Nat} {acc zs : List Z}, oH L nt ops ord acc = some zs → (∀ z ∈ acc, done z.i) → (∃ z ∈ zs, ¬ done z.i) → ∃ z ∈ zs, ¬ done z.i ∧ ∃ o, ops[z.i]? = some o ∧ ∀ e ∈ ie o, done e
 |[],_,_,h,_,hx=>by obtain rfl:=vm h;obtain⟨z,hz,_⟩:=hx;simp at hz
 | i :: r, acc, zs, h, ha, hx => by
   simp only[oH,vk]at h
   obtain⟨o,h1,x,h2,m,h3,zs',h4,h5⟩:=h
   obtain rfl:=vm h5
   by_cases hd:done i
   · obtain⟨z,hz,hnd⟩:=hx
     have hz':z∈zs':=by
      rcases vR.1 hz with rfl|hz
      · exact absurd hd hnd
      · exact hz
     obtain⟨y,hy,q⟩:=iF h4 (fun y hy=>by
      rcases vR.1 hy with rfl|hy
      · exact hd
      · exact ha y hy) ⟨z,hz',hnd⟩
     exact⟨y,by simp [hy],q⟩
   · refine⟨⟨i,x,m⟩,by simp,hd,o,h1,fun e he=> ?_⟩
     obtain⟨z,hz,hze⟩:=(dc h3).1 e he
     exact hze ▸ ha z hz
theorem iI {all : List Z} {fl : List (Nat × List Nat)} {n : Nat} : ∀ {l : List Z} {p0 own : Nat}, pW all fl n p0 own l = true →
 (∀p z,l[p]?=some z→ef all (dS fl (p0+p)) (own+nl ((l.take p).map (·.x))) n z=true)∧∀p q z y,p<q→l[p]?=some z→l[q]?=some y→bK (dS fl (p0+p)) z y=true
 |[],_,_,_=>⟨fun p z h=>by simp at h,fun p q z y _ h=>by simp at h⟩
 | z0 :: l, p0, own, h => by
   simp only[pW,vA,List.all_eq_true]at h
   obtain⟨h1,h2,h3⟩:=h
   obtain⟨g1,g2⟩:=iI h3
   refine⟨fun p z hz=> ?_,fun p q z y hpq hz hy=> ?_⟩
   · cases p with
     |zero=>simp at hz;subst hz;simpa [nl]using h1
     | succ p =>
       have:=g1 p z (by simpa using hz)
       rw[show p0+1+p=p0+(p+1)by omega]at this
       rw[vH,List.map_cons,nl]
       cases hl:z0.x.op.aO with
       |true=>simp only[hl,if_true]at this ⊢;rw[←vz own 1];exact this
       |false=>simp only[hl,vw,vS]at this ⊢;rw[vF];exact this
   · cases q with
     |zero=>omega
     | succ q =>
       cases p with
       |zero=>simp at hz;subst hz;exact h2 y (vE (by simpa using hy))
       | succ p =>
         have:=g2 p q z y (by omega) (by simpa using hz) (by simpa using hy)
         rwa [show p0+1+p=p0+(p+1)by omega]at this
theorem dL {z : Z} {j : Nat} : ∀ {l : List Z} {q : Nat}, (∀ p y, l[p]? = some y → y.x.op.aO = true → (z.m.testBit y.i = true → q + nl ((l.take p).map (·.x)) < j) ∧ (y.m.testBit z.i = true → j ≤ q + nl ((l.take p).map (·.x)))) → dD z j q l = true
 |[],_,_=>rfl
 | y :: l, q, h => by
   unfold dD
   split
   · rename_i hl
     have h0:=h 0 y rfl hl
     simp only[List.take_zero,List.map_nil,nl,Nat.add_zero]at h0
     rw[vA,vA,vN,vN]
     refine⟨⟨?_, ?_⟩, ?_⟩
     · cases hb:z.m.testBit y.i with
       |false=>exact .inl rfl
       |true=>exact .inr (decide_eq_true (h0.1 hb))
     · cases hb:y.m.testBit z.i with
       |false=>exact .inl rfl
       |true=>exact .inr (decide_eq_true (h0.2 hb))
     · exact dL fun p x hx hxl=>by
        have:=h (p+1) x (by simpa using hx) hxl
        rw[vH,List.map_cons,nl,if_pos hl,←vz]at this
        exact this
   · rename_i hl
     exact dL fun p x hx hxl=>by
      have:=h (p+1) x (by simpa using hx) hxl
      rw[vH,List.map_cons,nl,if_neg hl,vF]at this
      exact this
theorem fD {call:ah} {ops:List ak} {e:Env} {gs:List H}:∀{fl:List (Nat×List Nat)},aZ call ops e gs fl=true→∀p k,k∈dS fl p→bE call ops e gs p k=true
 |[],_,p,k,hk=>by simp [dS]at hk
 | (q, ks) :: r, h, p, k, hk => by
   simp only[aZ,vA,List.all_eq_true]at h
   unfold dS at hk
   split at hk
   · rename_i e;subst e;exact h.1 k hk
   · exact fD h.2 p k hk
theorem bg (t:Nat):∀(l:List Nat) (e0 E:Env),look (l.map (fun s=>(s,look e0 s))++E) t=if t∈l then look e0 t else look E t
 |[],_,_=>by simp
 | s :: l, e0, E => by
   simp only[List.map_cons,List.cons_append,look]
   by_cases hs:s=t
   · subst hs;simp
   · rw[if_neg hs,bg t l e0 E]
     have:t∈s::l↔t∈l:=by simp [Ne.symm hs]
     by_cases ht:t∈l
     · rw[if_pos ht,if_pos (this.2 ht)]
     · rw[if_neg ht,if_neg (fun q=>ht (this.1 q))]
def r9 (zs:List Z) (dn:Nat→Bool):List Nat:=zs.filterMap fun z=>if dn z.i then none else z.x.dst
def cut (zs:List Z) (dn:Nat→Bool) (e0 E:Env):Env:=(r9 zs dn).map (fun s=>(s,look e0 s))++E
theorem bX {zs:List Z} {dn:Nat→Bool} {t:Nat}:t∈r9 zs dn↔∃z∈zs,dn z.i=false∧z.x.dst=some t:=by
 unfold r9
 rw[List.mem_filterMap]
 constructor
 · rintro ⟨z,hz,h⟩
   split at h
   · cases h
   · rename_i q;exact⟨z,hz,by simpa using q,h⟩
 · rintro ⟨z,hz,h1,h2⟩
   exact⟨z,hz,by simp [h1,h2]⟩
end Ab
namespace Ab
open Go RowKit
section
variable {L:Lk} {w0:World}
theorem R.gw {ι:Io} {M:Mm} {h G:H} {w:World} (r:R L w0 ι M h w) (k:Gw h G):R L w0 ι M G w:=by
 have g:∀id cs l,G.get id=some cs→ι id=some l→h.get id=some cs:=fun id cs l a b=>by rw[k.get id (r.j3 id l b)]at a;exact a
 exact⟨r.below,fun id l q=>Nat.lt_of_lt_of_le (r.j3 id l q) k.nx,fun id cs l a b=>r.gU id cs l (g _ _ _ a b) b,fun id cs l a b=>r.own id cs l (g _ _ _ a b) b,fun id cs l a b=>r.val id cs l (g _ _ _ a b) b,
  fun i j cs cs' l l' a b c d=>r.fU i j cs cs' l l' (g _ _ _ a c) (g _ _ _ b d) c d,r.au,fun b o v id cs l m a c=>r.gV b o v id cs l m (g _ _ _ a c) c⟩
theorem Gr.gw {h h2 G:H} {ι ι':Io} {M M':Mm} (a:Gr h ι M h2 ι' M') (k:Gw h2 G):Gr h ι M G ι' M':=⟨vT a.nx k.nx,a.io,a.mm,a.iH⟩
theorem ki {ι : Io} {M : Mm} {w : World} {call : ah} {nt : Nat} {ops : Array Oper} {i : Nat} {o : Oper} {x : ak} (hi : ops[i]? = some o) (hc : bu L nt ops o = some x)
 {e:Env} {a:Act} (he:a7 L ι M e a.tmps) {h h':H} {v:AV} (hev:aj call x e h=some (v,h')) {K:Act→World→Prop} {Q:Exit→Act→World→Prop}
 (h1:bR L o.op=some x.op→ai call e h x.op=some (v,h')→o.wp L.P a w K Q) (h2:v=.bL []→h'=h→K (a.put o.dst undef) w):wpOp L.P ops Q i K a w:=by
 obtain⟨hop,hdst,_,hg⟩:=bV hc
 unfold wpOp
 simp only[hi]
 unfold aj at hev
 rcases hg with ⟨hg1,hg2⟩|⟨j,want,t,hg1,ht,hg2⟩
 · rw[hg2]at hev
   have:Region.wanted o (yielded ops a.tmps)=true:=by simp [Region.wanted,hg1]
   rw[if_pos this]
   exact .inl (h1 hop hev)
 · rw [hg2] at hev
   simp only at hev
   split at hev
   · rename_i b hb
     have q1:=he t
     rw[hb]at q1
     have q2:=iA q1.bQ
     have hy:yielded ops a.tmps j=some b:=by simp [yielded,ht,q2]
     split at hev
     · rename_i hbw
       have:Region.wanted o (yielded ops a.tmps)=true:=by simp [Region.wanted,hg1,hy,hbw]
       rw[if_pos this]
       exact .inl (h1 hop hev)
     · rename_i hbw
       have:¬Region.wanted o (yielded ops a.tmps)=true:=by simp [Region.wanted,hg1,hy,hbw]
       rw[if_neg this]
       obtain⟨q3,q4⟩:=vo (vm hev)
       exact h2 q3.symm q4.symm
   · rename_i hb
     have q1:=he t
     rw[hb]at q1
     have:¬Region.wanted o (yielded ops a.tmps)=true:=by simp [Region.wanted,hg1,dF ht q1]
     rw[if_neg this]
     obtain⟨q3,q4⟩:=vo (vm hev)
     exact h2 q3.symm q4.symm
   · cases hev
theorem dP {call:ah} {e:Env} {h h':H} {o:ak} {v:AV} (hl:o.op.aO=false) (hb:o.op.aI=false) (hev:aj call o e h=some (v,h')):h'=h:=by
 unfold aj at hev
 split at hev
 · exact bI hl hb hev
 · split at hev
   · split at hev
     · exact bI hl hb hev
     · exact(vo (vm hev)).2.symm
   · exact(vo (vm hev)).2.symm
   · cases hev
structure DH (L:Lk) (nt:Nat) (ops:Array Oper) (call:ah) (ord:List Nat) (zs:List Z) (fl:List (Nat×List Nat)) (e0:Env) (h0:H) (E:Env) (hN:H) (gs:List H):Prop where
 mz:oH L nt ops ord []=some zs
 len:ord.length=ops.size
 all:∀k,k<ops.size→k∈ord
 one:∀(p:Nat) (z:Z),zs[p]?=some z→ef zs (dS fl p) (nl ((zs.map (·.x)).take p)) (nl (zs.map (·.x))) z=true
 pair:∀(p q:Nat) (z y:Z),p<q→zs[p]?=some z→zs[q]?=some y→bK (dS fl p) z y=true
 ev:aN call (zs.map (·.x)) e0 h0=some (E,hN,gs)
 st:aZ call (zs.map (·.x)) E gs fl=true
 nm:aQ call
variable {nt:Nat} {ops:Array Oper} {call:ah} {ord:List Nat} {zs:List Z} {fl:List (Nat×List Nat)} {e0:Env} {h0:H} {E:Env} {hN:H} {gs:List H}
theorem DH.of {os:List ak} (hc:kL L nt ops ord fl=some os) (hev:aN call os e0 h0=some (E,hN,gs)) (hst:aZ call os E gs fl=true) (hn:aQ call):∃zs,os=zs.map (·.x)∧DH L nt ops call ord zs fl e0 h0 E hN gs:=by
 unfold kL at hc
 simp only[vk]at hc
 obtain⟨zs,h1,h2⟩:=hc
 split at h2
 · rename_i hq
   obtain rfl:=vm h2
   obtain⟨q1,q2,q3⟩:=hq
   obtain⟨g1,g2⟩:=iI q3
   refine⟨zs,rfl,h1,q1,fun k hk=> ?_,fun p z hz=> ?_,fun p q z y h a b=>by simpa using g2 p q z y h a b,hev,hst,hn⟩
   · have:=List.all_eq_true.1 q2 k (List.mem_range.2 hk)
     simpa using this
   · have:=g1 p z hz
     simpa [List.map_take]using this
 · cases h2
theorem DH.zx (d:DH L nt ops call ord zs fl e0 h0 E hN gs) {p:Nat} {z:Z} (hz:zs[p]?=some z):(zs.map (·.x))[p]?=some z.x:=by simp [hz]
theorem DH.inj (d:DH L nt ops call ord zs fl e0 h0 E hN gs) {p q:Nat} {z y:Z} (hz:zs[p]?=some z) (hy:zs[q]?=some y) (h:z.i=y.i):p=q:=by
 rcases Nat.lt_trichotomy p q with hlt|rfl|hlt
 · have:=d.pair p q z y hlt hz hy
   simp [bK,h]at this
 · rfl
 · have:=d.pair q p y z hlt hy hz
   simp [bK,h]at this
theorem DH.oo (d:DH L nt ops call ord zs fl e0 h0 E hN gs) {p q:Nat} {z y:Z} (hz:zs[p]?=some z) (hy:zs[q]?=some y) {t:Nat} (h1:z.x.dst=some t) (h2:y.x.dst=some t):p=q:=by
 rcases Nat.lt_trichotomy p q with hlt|rfl|hlt
 · have:=d.pair p q z y hlt hz hy
   simp [bK,h1,h2]at this
 · rfl
 · have:=d.pair q p y z hlt hy hz
   simp [bK,h1,h2]at this
theorem DH.uW (d:DH L nt ops call ord zs fl e0 h0 E hN gs) {i:Nat} (hi:i<ops.size):∃(p:Nat) (z:Z),zs[p]?=some z∧z.i=i:=by
 have:=d.all i hi
 rw[←(dZ d.mz).1]at this
 obtain⟨z,hz,rfl⟩:=List.mem_map.1 this
 obtain⟨p,hp⟩:=vM.1 hz
 exact⟨p,z,hp,rfl⟩
theorem DH.take (d:DH L nt ops call ord zs fl e0 h0 E hN gs) {p t:Nat} (h:t∈jr ((zs.map (·.x)).take p)):∃(q:Nat) (y:Z),q<p∧zs[q]?=some y∧y.x.dst=some t:=by
 unfold jr at h
 obtain⟨x,hx,hd⟩:=List.mem_filterMap.1 h
 obtain⟨q,hq⟩:=vM.1 hx
 rw[vU]at hq
 split at hq
 · rename_i hlt
   rw[vJ]at hq
   obtain⟨y,hy,rfl⟩:=vn.1 hq
   exact⟨q,y,hlt,hy,hd⟩
 · cases hq
theorem DH.drop (d:DH L nt ops call ord zs fl e0 h0 E hN gs) {p t:Nat} (h:t∈jr ((zs.map (·.x)).drop p)):∃(q:Nat) (y:Z),p≤q∧zs[q]?=some y∧y.x.dst=some t:=by
 unfold jr at h
 obtain⟨x,hx,hd⟩:=List.mem_filterMap.1 h
 obtain⟨q,hq⟩:=vM.1 hx
 rw[vL,vJ]at hq
 obtain⟨y,hy,rfl⟩:=vn.1 hq
 exact⟨p+q,y,by omega,hy,hd⟩
theorem c9 {d:Option Nat} {v:AV} {e:Env} {t:Nat} (h:d≠some t):look (aM d v e) t=look e t:=by
 cases d with
 |none=>rfl
 |some s=>simp only[aM,look];rw[if_neg (fun q=>h (by rw[q]))]
theorem cZ {v:AV} {e:Env} {t:Nat}:look (aM (some t) v e) t=v:=by simp [aM,look]
theorem DH.e6 (d:DH L nt ops call ord zs fl e0 h0 E hN gs) {p q:Nat} (hpq:p≤q) {e1 e2:Env} {h1 h2:H} (a:aw call ((zs.map (·.x)).take p) e0 h0=some (e1,h1)) (b:aw call ((zs.map (·.x)).take q) e0 h0=some (e2,h2)):h1.next≤h2.next:=by
 have:(zs.map (·.x)).take q=(zs.map (·.x)).take p++((zs.map (·.x)).take q).drop p:=by
  have:=(List.take_append_drop p ((zs.map (·.x)).take q)).symm
  rwa [List.take_take,Nat.min_eq_left hpq]at this
 rw[this,cH,a]at b
 exact cI d.nm b
theorem DH.eh (d:DH L nt ops call ord zs fl e0 h0 E hN gs) {p:Nat} {z:Z} (hz:zs[p]?=some z) {e1:Env} {h1 h2:H} {v:AV} (a:aw call ((zs.map (·.x)).take p) e0 h0=some (e1,h1)) (b:aj call z.x e1 h1=some (v,h2)):aw call ((zs.map (·.x)).take (p+1)) e0 h0=some (aM z.x.dst v e1,h2):=by
 rw[List.take_add_one,d.zx hz,cH,a]
 simp [aw,b]
structure Inv (L:Lk) (w0:World) (ops:Array Oper) (call:ah) (zs:List Z) (e0:Env) (h0:H) (E:Env) (gs:List H) (ι0:Io) (M0:Mm) (a0:Act) (listed:Array Bool) (a:Act) (w:World) (ι:Io) (M:Mm) (G:H) (j:Nat):Prop where
 sz:listed.size=ops.size
 cl:Cl ops (fun i=>listed.getD i false=true)
 hG:gs[j]?=some G
 ld:∀(p:Nat) (z:Z),zs[p]?=some z→z.x.op.aO=true→(listed.getD z.i false=true↔nl ((zs.map (·.x)).take p)<j)
 le:j≤nl (zs.map (·.x))
 gr:Gr h0 ι0 M0 G ι M
 r:R L w0 ι M G w
 env:a7 L ι M (cut zs (fun i=>listed.getD i false) e0 E) a.tmps
 uC:a.tmps.size=a0.tmps.size
 uQ:a.defers=a0.defers
 bi:∀(q:Nat) (y:Z) (eq:Env) (hq:H) (v:AV) (h':H) (id:Nat),zs[q]?=some y→y.x.op.aI=true→listed.getD y.i false=false→aw call ((zs.map (·.x)).take q) e0 h0=some (eq,hq)→aj call y.x eq hq=some (v,h')→v.id?=some id→ι id=none
theorem gC {listed:Array Bool} {i k:Nat} (hi:i<listed.size):(listed.setIfInBounds i true).getD k false=true↔k=i∨listed.getD k false=true:=by
 by_cases h:k=i
 · subst h;simp [hi]
 · rw[getD_set_ne false (fun q=>h q.symm)];simp [h]
theorem Inv.next (d : DH L nt ops call ord zs fl e0 h0 E hN gs) {ι0 : Io} {M0 : Mm} {a0 : Act} {listed : Array Bool} {a : Act} {w : World} {ι : Io} {M : Mm} {G : H} {j : Nat} (inv : Inv L w0 ops call zs e0 h0 E gs ι0 M0 a0 listed a w ι M G j) (hnt : nt ≤ a0.tmps.size)
 {p:Nat} {z:Z} (hz:zs[p]?=some z) (hnd:listed.getD z.i false=false) {o:Oper} (hio:ops[z.i]?=some o) (hc:bu L nt ops o=some z.x) (hed:∀e∈ie o,listed.getD e false=true)
 {e1:Env} {h2:H} {v:AV} (t3:aw call ((zs.map (·.x)).drop (p+1)) (aM z.x.dst v e1) h2=some (E,hN))
 {ι':Io} {M':Mm} {G':H} {j':Nat} {v':Value} {w':World} (hG:gs[j']?=some G')
 (hld:∀(q:Nat) (y:Z),zs[q]?=some y→y.x.op.aO=true→(y.i=z.i∨listed.getD y.i false=true↔nl ((zs.map (·.x)).take q)<j')) (hle:j'≤nl (zs.map (·.x))) (hle1:nS ι ι') (hle2:nX M M') (hgr:Gr h0 ι0 M0 G' ι' M') (hr:R L w0 ι' M' G' w') (hv:V L ι' M' v v')
 (hbi:∀(q:Nat) (y:Z) (eq:Env) (hq:H) (u:AV) (h':H) (id:Nat),zs[q]?=some y→y.x.op.aI=true→q≠p→listed.getD y.i false=false→aw call ((zs.map (·.x)).take q) e0 h0=some (eq,hq)→aj call y.x eq hq=some (u,h')→u.id?=some id→ι' id=none):
 Inv L w0 ops call zs e0 h0 E gs ι0 M0 a0 (listed.setIfInBounds z.i true) (a.put o.dst v') w' ι' M' G' j':=by
 obtain⟨_,hdst,hlt,_⟩:=bV hc
 have hi:z.i<listed.size:=by rw[inv.sz];exact(vK.1 hio).1
 have hg:∀k,((listed.setIfInBounds z.i true).getD k false=true↔k=z.i∨listed.getD k false=true):=fun k=>gC hi
 refine⟨by simp [inv.sz], ?_,hG, ?_,hle,hgr,hr, ?_,by rw[gN];exact inv.uC,by rw[put_defers];exact inv.uQ, ?_⟩
 · intro k o' hk hd e he
   rw[hg]at hd ⊢
   rcases hd with rfl|hd
   · rw[hio]at hk;obtain rfl:=vm hk
     exact .inr (hed e he)
   · exact .inr (inv.cl k o' hk hd e he)
 · intro q y hy hl
   rw[hg];exact hld q y hy hl
 · have key:∀t,look (cut zs (fun i=>(listed.setIfInBounds z.i true).getD i false) e0 E) t=look (aM z.x.dst v (cut zs (fun i=>listed.getD i false) e0 E)) t:=by
    intro t
    by_cases ht:z.x.dst=some t
    · rw [ht, cZ, cut, bg]
      rw[if_neg]
      · rw[bc t3 t (fun q=>by
         obtain⟨s,y,hs,hy,hyd⟩:=d.drop q
         have:=d.oo hz hy ht hyd;omega),ht,cZ]
      · intro q
        obtain⟨y,hy,hyu,hyd⟩:=bX.1 q
        obtain⟨s,hs⟩:=vM.1 hy
        obtain rfl:=d.oo hz hs ht hyd
        rw[hz]at hs;obtain rfl:=vm hs
        rw[(hg z.i).2 (.inl rfl)]at hyu;cases hyu
    · rw [c9 ht, cut, cut, bg, bg]
      have:t∈r9 zs (fun i=>(listed.setIfInBounds z.i true).getD i false)↔t∈r9 zs (fun i=>listed.getD i false):=by
       rw[bX,bX]
       constructor
       · rintro ⟨y,hy,hyu,hyd⟩
         refine⟨y,hy, ?_,hyd⟩
         cases hb:listed.getD y.i false with
         |false=>rfl
         |true=>rw[(hg y.i).2 (.inr hb)]at hyu;cases hyu
       · rintro ⟨y,hy,hyu,hyd⟩
         refine⟨y,hy, ?_,hyd⟩
         cases hb:(listed.setIfInBounds z.i true).getD y.i false with
         |false=>rfl
         | true =>
           rcases (hg y.i).1 hb with q|q
           · obtain⟨s,hs⟩:=vM.1 hy
             obtain rfl:=d.inj hs hz q
             rw[hz]at hs;obtain rfl:=vm hs
             exact absurd hyd ht
           · rw[hyu]at q;cases q
      by_cases hu:t∈r9 zs (fun i=>listed.getD i false)
      · rw[if_pos hu,if_pos (this.2 hu)]
      · rw[if_neg hu,if_neg (fun q=>hu (this.1 q))]
   intro t
   rw[key t]
   have:=(inv.env.mono hle1 hle2).put (a:=a) (d:=z.x.dst) (v:=v) hv (fun s hs=>by
    rw[inv.uC];exact Nat.lt_of_lt_of_le (hlt s (by rw[←hdst];exact hs)) hnt)
   rw[hdst]at this ⊢
   exact this t
 · intro q y eq hq u h' id hy hb hu hp hev hid
   have hne:q≠p:=fun e=>by
    subst e
    rw[hz]at hy;obtain rfl:=vm hy
    rw[(hg z.i).2 (.inl rfl)]at hu;cases hu
   refine hbi q y eq hq u h' id hy hb hne ?_ hp hev hid
   cases hb:listed.getD y.i false with
   |false=>rfl
   |true=>rw[(hg y.i).2 (.inr hb)]at hu;cases hu
end
end Ab
namespace Ab
open Go RowKit
section
variable {L:Lk} {w0:World}
variable {nt:Nat} {ops:Array Oper} {call:ah} {ord:List Nat} {zs:List Z} {fl:List (Nat×List Nat)} {e0:Env} {h0:H} {E:Env} {hN:H} {gs:List H}
theorem DH.qi (d:DH L nt ops call ord zs fl e0 h0 E hN gs) {done:Nat→Prop} (hcl:Cl ops done) {p:Nat} {z:Z} (hz:zs[p]?=some z) (hd:done z.i) {k:Nat} (hk:z.m.testBit k=true):done k:=
 gI hcl d.mz (fun z hz=>by simp at hz) z (vE hz) hd k hk
theorem lQ {f:List Nat} {z y:Z} (h:bK f z y=true) (h1:z.x.op.aO=true) (h2:y.x.op.aO=true):y.m.testBit z.i=true:=by
 simp only[bK,vA,h1,h2,Bool.not_true,Bool.false_or,Bool.true_and]at h
 exact h.2.2.2
theorem nI {f:List Nat} {z y:Z} (h:bK f z y=true) {t:Nat} (h1:z.x.dst=some t) (h2:t∈y.x.tm):y.m.testBit z.i=true:=by
 simp only[bK,vA,h1,vN,Bool.not_eq_true']at h
 rcases h.2.1.2 with q|q
 · rw[List.contains_iff_mem.2 h2]at q;cases q
 · exact q
theorem nH {f:List Nat} {z y:Z} (h:bK f z y=true) {t:Nat} (h1:y.x.dst=some t) (h2:t∈z.x.tm):y.m.testBit z.i=true∧f=[]:=by
 simp only[bK,vA,h1,vN,Bool.not_eq_true']at h
 rcases h.2.2.1 with q|q
 · rw[List.contains_iff_mem.2 h2]at q;cases q
 · exact⟨q.1,by simpa using q.2⟩
theorem nB {l:List Z} {f:List Nat} {own n:Nat} {z:Z} (h:ef l f own n z=true) {t:Nat} (h1:z.x.dst=some t) (h2:t∈z.x.tm):f=[]:=by
 simp only[ef,vA,h1,vN,Bool.not_eq_true']at h
 rcases h.1 with q|q
 · rw[List.contains_iff_mem.2 h2]at q;cases q
 · simpa using q
theorem oP {l:List Z} {f:List Nat} {own n:Nat} {z:Z} (h:ef l f own n z=true) (hf:f≠[]):∃t,z.x.dst=some t:=by
 simp only[ef,vA]at h
 cases hd:z.x.dst with
 |some t=>exact⟨t,rfl⟩
 |none=>rw[hd]at h;simp at h;exact absurd h.1.2 hf
theorem lM {l:List Z} {f:List Nat} {own n:Nat} {z:Z} (h:ef l f own n z=true) (hb:z.x.op.aI=true∨z.x.op.reads=true) {j:Nat} (hj:j≤n) (hs:dD z j 0 l=true):j=own∨j∈f:=by
 simp only[ef,vA,vN,Bool.not_eq_true',List.all_eq_true,List.mem_range]at h
 have h2:=h.2.resolve_left (by rcases hb with q|q<;>simp [q])
 rcases h2 j (by omega)with (q|q)|q
 · exact .inl (by simpa using q)
 · rw[hs]at q;cases q
 · exact .inr (by simpa using q)
theorem DH.uM (d : DH L nt ops call ord zs fl e0 h0 E hN gs) {dn : Nat → Bool} {p : Nat} {z : Z} (hz : zs[p]? = some z) (hnd : dn z.i = false)
 (anc:∀(q:Nat) (y:Z),zs[q]?=some y→z.m.testBit y.i=true→y.i≠z.i→dn y.i=true) (desc:∀(q:Nat) (y:Z),zs[q]?=some y→y.m.testBit z.i=true→dn y.i=false)
 {e1:Env} {h1 h2:H} {v:AV} (t1:aw call ((zs.map (·.x)).take p) e0 h0=some (e1,h1)) (t3:aw call ((zs.map (·.x)).drop (p+1)) (aM z.x.dst v e1) h2=some (E,hN)):
 cn e1 (cut zs dn e0 E) z.x.tm∧(dS fl p≠[]→cn e1 E z.x.tm):=by
 have main:∀t∈z.x.tm,look e1 t=look (cut zs dn e0 E) t∧(dS fl p≠[]→look e1 t=look E t):=by
  intro t ht
  rw[cut,bg]
  by_cases hu:∃(q:Nat) (y:Z),zs[q]?=some y∧y.x.dst=some t
  · obtain⟨q,y,hy,hyd⟩:=hu
    have uniq:∀(s:Nat) (u:Z),zs[s]?=some u→u.x.dst=some t→s=q:=fun s u hs hd=>d.oo hs hy hd hyd
    rcases Nat.lt_trichotomy q p with hlt|rfl|hlt
    · have hm:=nI (d.pair q p y z hlt hy hz) hyd ht
      have hne:y.i≠z.i:=fun e=>by have:=d.inj hy hz e;omega
      have hdy:=anc q y hy hm hne
      have hE:look E t=look e1 t:=by
       rw[bc t3 t (fun m=>by obtain⟨s,u,a,b,c⟩:=d.drop m;have:=uniq s u b c;omega)]
       exact c9 fun e=>by have:=uniq p z hz e;omega
      rw[if_neg]
      · exact⟨hE.symm,fun _=>hE.symm⟩
      · intro m
        obtain⟨u,hu1,hu2,hu3⟩:=bX.1 m
        obtain⟨s,hs⟩:=vM.1 hu1
        have:=uniq s u hs hu3;subst this
        rw[hy]at hs;obtain rfl:=vm hs
        rw[hdy]at hu2;cases hu2
    · rw[hz]at hy;obtain rfl:=vm hy
      have hf:=nB (d.one q z hz) hyd ht
      rw[if_pos (bX.2 ⟨z,vE hz,hnd,hyd⟩)]
      exact⟨bc t1 t fun m=>by obtain⟨s,u,a,b,c⟩:=d.take m;have:=uniq s u b c;omega,fun q=>absurd hf q⟩
    · obtain⟨hm,hf⟩:=nH (d.pair p q z y hlt hz hy) hyd ht
      have hdy:=desc q y hy hm
      rw[if_pos (bX.2 ⟨y,vE hy,hdy,hyd⟩)]
      exact⟨bc t1 t fun m=>by obtain⟨s,u,a,b,c⟩:=d.take m;have:=uniq s u b c;omega,fun q=>absurd hf q⟩
  · have hE:look E t=look e1 t:=by
     rw[bc t3 t (fun m=>by obtain⟨s,u,a,b,c⟩:=d.drop m;exact hu ⟨s,u,b,c⟩)]
     exact c9 fun e=>hu ⟨p,z,hz,e⟩
    rw[if_neg]
    · exact⟨hE.symm,fun _=>hE.symm⟩
    · intro m
      obtain⟨u,hu1,hu2,hu3⟩:=bX.1 m
      obtain⟨s,hs⟩:=vM.1 hu1
      exact hu ⟨s,u,hs,hu3⟩
 exact⟨fun t ht=>(main t ht).1,fun hf t ht=>(main t ht).2 hf⟩
set_option maxHeartbeats 1000000 in
theorem Inv.step (hcal : Callee L w0 call) (hbod : cO L) (d : DH L nt ops call ord zs fl e0 h0 E hN gs) {ι0 : Io} {M0 : Mm} {a0 : Act} {listed : Array Bool} {a : Act} {w : World} {ι : Io} {M : Mm} {G : H} {j : Nat}
 (inv:Inv L w0 ops call zs e0 h0 E gs ι0 M0 a0 listed a w ι M G j) (hnt:nt≤a0.tmps.size) {i:Nat} (hi:i∈Region.ready .any ops listed) {Q:Exit→Act→World→Prop} {K:Act→World→Prop}
 (hK:∀a' w' ι' M' G' j',Inv L w0 ops call zs e0 h0 E gs ι0 M0 a0 (listed.setIfInBounds i true) a' w' ι' M' G' j'→K a' w'):wpOp L.P ops Q i K a w:=by
 obtain⟨hun,o,hio,hed'⟩:=mem_ready.1 hi
 have hin:i<ops.size:=(vK.1 hio).1
 have hnd:listed.getD i false=false:=by
  rw[vC]at hun ⊢
  rw[Array.getElem?_eq_getElem (by rw[inv.sz];exact hin)]at hun ⊢
  exact hun
 have hed:∀e∈ie o,listed.getD e false=true:=by
  intro e he
  unfold ie at he
  obtain⟨x,hx,rfl⟩:=List.mem_map.1 he
  obtain⟨hx1,hx2⟩:=List.mem_filter.1 hx
  exact hed' x (by simpa using hx1) hx2
 obtain⟨p,z,hz,rfl⟩:=d.uW hin
 obtain⟨o',ho',hc⟩:=(dZ d.mz).2 z (vE hz)
 rw[hio]at ho';obtain rfl:=vm ho'
 obtain⟨e1,h1,v,h2,G1,t1,t2,t3,t4,t5,t6⟩:=ij d.ev (d.zx hz)
 have hcl':Cl ops (fun k=>k=z.i∨listed.getD k false=true):=by
  intro k o2 hk hd e he
  rcases hd with rfl|hd
  · rw[hio]at hk;obtain rfl:=vm hk;exact .inr (hed e he)
  · exact .inr (inv.cl k o2 hk hd e he)
 have anc:∀(q:Nat) (y:Z),zs[q]?=some y→z.m.testBit y.i=true→y.i≠z.i→listed.getD y.i false=true:=fun q y hy hm hne=>
  (d.qi hcl' hz (.inl rfl) hm).resolve_left hne
 have desc:∀(q:Nat) (y:Z),zs[q]?=some y→y.m.testBit z.i=true→listed.getD y.i false=false:=fun q y hy hm=>by
  cases hb:listed.getD y.i false with
  |false=>rfl
  |true=>have:listed.getD z.i false=true:=d.qi inv.cl hy hb hm;rw[hnd]at this;cases this
 obtain⟨ag,agE⟩:=d.uM (dn:=fun k=>listed.getD k false) hz hnd anc desc t1 t3
 have hev:aj call z.x (cut zs (fun i=>listed.getD i false) e0 E) h1=some (v,h2):=by rw[←cG ag];exact t2
 have hlt1:∀(q:Nat) (y:Z),zs[q]?=some y→y.x.op.aO=true→q<p→z.x.op.aO=true→nl ((zs.map (·.x)).take q)<nl ((zs.map (·.x)).take p):=fun q y hy hl hq _=>by
  have:=bY (d.zx hy);rw[if_pos hl]at this
  have:=gK (os:=zs.map (·.x)) (Nat.succ_le_of_lt hq)
  simp only[Nat.succ_eq_add_one]at this;omega
 have hbi0:∀(ι':Io),(∀id l,id<G.next→ι' id=some l→ι id=some l)→(∀id l,ι' id=some l→id<G.next)→
  ∀(q:Nat) (y:Z) (eq:Env) (hq:H) (u:AV) (h':H) (id:Nat),zs[q]?=some y→y.x.op.aI=true→q≠p→listed.getD y.i false=false→aw call ((zs.map (·.x)).take q) e0 h0=some (eq,hq)→aj call y.x eq hq=some (u,h')→u.id?=some id→ι' id=none:=by
  intro ι' hold hdom q y eq hq u h' id hy hb hne hu hp hev' hid
  cases hc:ι' id with
  |none=>rfl
  | some l =>
    have:=hold id l (hdom id l hc) hc
    rw[inv.bi q y eq hq u h' id hy hb hu hp hev' hid]at this;cases this
 have hld0:z.x.op.aO=false→∀(q:Nat) (y:Z),zs[q]?=some y→y.x.op.aO=true→(y.i=z.i∨listed.getD y.i false=true↔nl ((zs.map (·.x)).take q)<j):=by
  intro hzl q y hy hl
  rw[←inv.ld q y hy hl]
  constructor
  · rintro (e|e)
    · have:=d.inj hy hz e;subst this
      rw[hz]at hy;obtain rfl:=vm hy
      rw[hzl]at hl;cases hl
    · exact e
  · exact .inr
 have quiet:z.x.op.aO=false→aj call z.x (cut zs (fun i=>listed.getD i false) e0 E) G=some (v,G)→wpOp L.P ops Q z.i K a w:=by
  intro hzl hq
  refine e5 hcal hbod hio hc inv.env inv.r hq fun v' w' hout=> ?_
  obtain⟨ι',M',a1,a2,a3,r',hv'⟩:=hout
  exact hK _ _ _ _ _ _ (inv.next d hnt hz hnd hio hc hed t3 inv.hG (hld0 hzl) inv.le a1 a2 (inv.gr.trans ⟨vB _,a1,a2,a3⟩) r' hv' (hbi0 ι' a3 r'.j3))
 by_cases hzl:z.x.op.aO=true
 ·
  have hjp:nl ((zs.map (·.x)).take p)=j:=by
   have g1:j≤nl ((zs.map (·.x)).take p):=by
    have:=inv.ld p z hz hzl
    rcases Nat.lt_or_ge (nl ((zs.map (·.x)).take p)) j with q|q
    · rw[this.2 q]at hnd;cases hnd
    · exact q
   rcases Nat.lt_or_ge j (nl ((zs.map (·.x)).take p))with q|q
   · obtain⟨s,x,hs,hx,hxl,hxn⟩:=iG _ _ _ q
     rw[vJ]at hx
     obtain⟨y,hy,rfl⟩:=vn.1 hx
     have hm:=lQ (d.pair s p y z hs hy hz) hxl hzl
     have hne:y.i≠z.i:=fun e=>by have:=d.inj hy hz e;omega
     have:=(inv.ld s y hy hxl).1 (anc s y hy hm hne)
     omega
   · omega
  have hGe:G=h1:=by have:=t6 hzl;rw[hjp,inv.hG]at this;exact vm this
  subst hGe
  rw[if_pos hzl,hjp]at t4
  refine e5 hcal hbod hio hc inv.env inv.r hev fun v' w' hout=> ?_
  obtain⟨ι',M',a1,a2,a3,r',hv'⟩:=hout
  have hgr:Gr G ι M h2 ι' M':=⟨cq d.nm t2,a1,a2,a3⟩
  refine hK _ _ _ _ _ _ (inv.next d hnt hz hnd hio hc hed t3 t4 ?_ ?_ a1 a2 (inv.gr.trans (hgr.gw t5)) (r'.gw t5) hv' ?_)
  · intro q y hy hl
    rcases Nat.lt_trichotomy q p with hlt|rfl|hlt
    · have h3:=hlt1 q y hy hl hlt hzl
      have h4:=(inv.ld q y hy hl).2 (by omega)
      exact⟨fun _=>by omega,fun _=>.inr h4⟩
    · rw[hz]at hy;obtain rfl:=vm hy
      exact⟨fun _=>by omega,fun _=>.inl rfl⟩
    · have h3:=bY (d.zx hz);rw[if_pos hzl]at h3
      have h4:=gK (os:=zs.map (·.x)) (Nat.succ_le_of_lt hlt)
      simp only[Nat.succ_eq_add_one]at h4
      constructor
      · rintro (e|e)
        · have:=d.inj hy hz e;omega
        · have:=(inv.ld q y hy hl).1 e;omega
      · intro h5;omega
  · have h3:=bY (d.zx hz);rw[if_pos hzl]at h3
    have:=jE (zs.map (·.x)) (p+1);omega
  · intro q y eq hq u h' id hy hb hne hu hp hev' hid
    cases hcc:ι' id with
    |none=>rfl
    | some l =>
      rcases bW hb hev' with ⟨rfl,_,_⟩|⟨b,_,_,rfl,hid',_⟩
      · cases hid
      · rw[hid]at hid';obtain rfl:=vm hid'
        rcases Nat.lt_or_gt_of_ne hne with hlt|hlt
        · have h3:=d.e6 (Nat.succ_le_of_lt hlt) (d.eh hy hp hev') t1
          simp only[bo]at h3
          have:=a3 _ l (by omega) hcc
          rw[inv.bi q y eq hq u _ _ hy hb hu hp hev' hid]at this;cases this
        · have h3:=d.e6 (Nat.succ_le_of_lt hlt) (d.eh hz t1 t2) hp
          have:=r'.j3 _ l hcc
          omega
 · have hzl' : z.x.op.aO = false := by simpa using hzl
   rw[if_neg hzl,Nat.add_zero]at t4
   have stage:z.x.op.aI=true∨z.x.op.reads=true→j=nl ((zs.map (·.x)).take p)∨j∈dS fl p:=by
    intro hbr
    refine lM (d.one p z hz) hbr inv.le (dL fun q y hy hl=> ?_)
    have hne:y.i≠z.i:=fun e=>by
     have:=d.inj hy hz e;subst this
     rw[hz]at hy;obtain rfl:=vm hy
     rw[hzl']at hl;cases hl
    rw[vF,List.map_take]
    refine⟨fun hm=>(inv.ld q y hy hl).1 (anc q y hy hm hne),fun hm=> ?_⟩
    rcases Nat.lt_or_ge (nl ((zs.map (·.x)).take q)) j with h3|h3
    · have:=(inv.ld q y hy hl).2 h3;rw[desc q y hy hm]at this;cases this
    · exact h3
   have stable:j∈dS fl p→∃t,z.x.dst=some t∧look E t=v∧bE call (zs.map (·.x)) E gs p j=true:=by
    intro hj
    obtain⟨t,ht⟩:=oP (d.one p z hz) (fun q=>by rw[q]at hj;simp at hj)
    refine⟨t,ht, ?_,fD d.st p j hj⟩
    rw[bc t3 t (fun m=>by obtain⟨s,u,a,b,c⟩:=d.drop m;have:=d.oo hz b ht c;omega),ht,cZ]
   cases hzb:z.x.op.aI with
   | false =>
     refine quiet hzl' ?_
     cases hzr:z.x.op.reads with
     |false=>exact j5 hzl' hzb hzr hev G
     | true =>
       rcases stage (.inr hzr)with hj|hj
       · rw[←hj,inv.hG]at t4;obtain rfl:=vm t4
         obtain rfl:=dP hzl' hzb t2
         exact j6 hzl' hzb hev t5
       · obtain⟨t,ht,hE,hst⟩:=stable hj
         have hagE:=agE (fun q=>by rw[q]at hj;simp at hj)
         simp only[bE,d.zx hz,inv.hG,hzb,vw,vS,ht,Option.map_some,hE]at hst
         split at hst
         · rename_i u g' hu
           have:=beq_eq hst;subst this
           obtain rfl:=dP hzl' hzb hu
           rw[←cG ag,cG hagE];exact hu
         · cases hst
   | true =>
     rcases bW hzb hev with ⟨rfl,rfl,hskip⟩|⟨b,hb1,rfl,rfl,hid,_⟩
     · exact quiet hzl' (hskip G)
     · have hget:G.get h1.next=some b.1:=by
        rcases stage (.inl hzb)with hj|hj
        · rw[←hj,inv.hG]at t4;obtain rfl:=vm t4
          exact t5.some (by simp [H.aW])
        · obtain⟨t,ht,hE,hst⟩:=stable hj
          have hagE:=agE (fun q=>by rw[q]at hj;simp at hj)
          have hbE:aY E z.x.op=some b:=by
           rw[←hb1,←cT (e:=e1) fun t ht=>hagE t (List.mem_append_right _ ht),cT fun t ht=>ag t (List.mem_append_right _ ht)]
          simp only[bE,d.zx hz,inv.hG,hzb,if_true,ht,Option.map_some,hE,hbE,hid]at hst
          split at hst
          · rename_i q;have:=vm q;rw[this]at hid;cases hid
          · rename_i q;obtain rfl:=vm q
            simp only[hid]at hst
            split at hst
            · rename_i cs hcs;rw[hcs,n9 hst]
            · cases hst
          · cases hst
       have hnone:ι h1.next=none:=inv.bi p z e1 h1 _ _ _ hz hzb hnd t1 t2 hid
       refine ki hio hc inv.env hev (fun hop _=> ?_) (fun q _=>by rw[q]at hid;cases hid)
       obtain⟨v',w',g1,hm⟩:=fp inv.env hop (cs:=b.1) (mk:=b.2) hb1
       refine aa g1 ?_
       obtain⟨dr,arr,ty,fz,rfl,hfz,hlen,hval,hv⟩:=hm.ex
       have rn:=(inv.r.drew dr).rk (id:=h1.next) hnone (cs:=b.1) (arr:=arr) (t:=ty) (fz:=fz) (h':=G) hfz (vB _) (G.lt _ _ hget)
        (fun i c q=>by
          by_cases e:i=h1.next
          · subst e;rw[hget]at q;exact .inl ⟨rfl,(vm q).symm⟩
          · exact .inr ⟨e,q⟩) hlen hval
       refine hK _ _ _ _ _ _ (inv.next d hnt hz hnd hio hc hed t3 inv.hG (hld0 hzl') inv.le (Io.eQ _ hnone) (fun _ _ _ q=>q) ⟨inv.gr.nx,fun _ _ q=>Io.eQ _ hnone _ _ (inv.gr.io _ _ q),inv.gr.mm, ?_⟩ rn (hv _ _ (by simp [Io.put])) ?_)
       · intro id l hid' q
         refine inv.gr.iH id l hid' ?_
         have:=d.e6 (Nat.zero_le p) (e1:=e0) (h1:=h0) rfl t1
         simp only[Io.put]at q
         rwa [if_neg (by omega)]at q
       · intro q y eq hq u h' id hy hb hne hu hp hev' hid2
         have h3:=inv.bi q y eq hq u h' id hy hb hu hp hev' hid2
         simp only[Io.put]
         rw[if_neg]
         · exact h3
         · rintro rfl
           rcases bW hb hev' with ⟨rfl,_,_⟩|⟨b',_,_,rfl,hid',_⟩
           · cases hid2
           · rw[hid2]at hid'
             have hid':=vm hid'
             rcases Nat.lt_or_gt_of_ne hne with hlt|hlt
             · have h4:=d.e6 (Nat.succ_le_of_lt hlt) (d.eh hy hp hev') t1
               simp only[bo]at h4;omega
             · have h4:=d.e6 (Nat.succ_le_of_lt hlt) (d.eh hz t1 t2) hp
               simp only[bo]at h4;omega
end
end Ab
namespace Ab
open Go RowKit
theorem hZ {α:Type} {p q:α→Bool}:∀{l:List α},(∀x∈l,q x=true→p x=true)→∀{x:α},x∈l→p x=true→q x=false→l.countP q<l.countP p
 |[],_,x,hx,_,_=>by simp at hx
 | y :: l, h, x, hx, hp, hq => by
   have hle:l.countP q≤l.countP p:=List.countP_mono_left fun z hz=>h z (by simp [hz])
   rw[List.countP_cons,List.countP_cons]
   rcases vR.1 hx with rfl|hx
   · rw[hp,hq];simp;omega
   · have:=hZ (fun z hz=>h z (by simp [hz])) hx hp hq
     have h2:=h y (by simp)
     cases hqy:q y with
     |false=>simp;omega
     |true=>rw[h2 hqy];simp;omega
section
variable {L:Lk} {w0:World}
variable {nt:Nat} {ops:Array Oper} {call:ah} {ord:List Nat} {zs:List Z} {fl:List (Nat×List Nat)} {e0:Env} {h0:H} {E:Env} {hN:H} {gs:List H}
theorem Inv.fin (d:DH L nt ops call ord zs fl e0 h0 E hN gs) {ι0:Io} {M0:Mm} {a0:Act} {listed:Array Bool} {a:Act} {w:World} {ι:Io} {M:Mm} {G:H} {j:Nat}
 (inv:Inv L w0 ops call zs e0 h0 E gs ι0 M0 a0 listed a w ι M G j) (hall:∀z∈zs,listed.getD z.i false=true):G=hN∧a7 L ι M E a.tmps:=by
 have hj:j=nl (zs.map (·.x)):=by
  rcases Nat.lt_or_ge j (nl (zs.map (·.x)))with h|h
  · obtain⟨q,x,_,hx,hl,hn⟩:=iG (zs.map (·.x)) (zs.map (·.x)).length j (by rw[List.take_length];exact h)
    rw[vJ]at hx
    obtain⟨y,hy,rfl⟩:=vn.1 hx
    have:=(inv.ld q y hy hl).1 (hall y (vE hy))
    omega
  · have:=inv.le;omega
 have hG:=inv.hG
 rw[hj,ft d.ev]at hG
 refine⟨(vm hG).symm,fun t=> ?_⟩
 have:=inv.env t
 rw[cut,bg,if_neg]at this
 · exact this
 · intro m
   obtain⟨z,hz,hu,_⟩:=bX.1 m
   simp only[hall z hz]at hu;cases hu
theorem Inv.any (hcal : Callee L w0 call) (hbod : cO L) (d : DH L nt ops call ord zs fl e0 h0 E hN gs) {ι0 : Io} {M0 : Mm} {a0 : Act} (hnt : nt ≤ a0.tmps.size) {Q : Exit → Act → World → Prop}
 (hQ:∀ι' M' a' w',Gr h0 ι0 M0 hN ι' M'→R L w0 ι' M' hN w'→a7 L ι' M' E a'.tmps→a'.tmps.size=a0.tmps.size→a'.defers=a0.defers→Q .normal a' w'):
 ∀(fuel:Nat) {listed:Array Bool} {a:Act} {w:World} {ι:Io} {M:Mm} {G:H} {j:Nat},Inv L w0 ops call zs e0 h0 E gs ι0 M0 a0 listed a w ι M G j→(zs.countP fun z=> !listed.getD z.i false)≤fuel→wpAny L.P .any ops Q fuel listed a w:=by
 intro fuel
 have fin:∀{listed:Array Bool} {a:Act} {w:World} {ι:Io} {M:Mm} {G:H} {j:Nat},Inv L w0 ops call zs e0 h0 E gs ι0 M0 a0 listed a w ι M G j→(∀z∈zs,listed.getD z.i false=true)→Q .normal a w:=by
  intro listed a w ι M G j inv hall
  obtain⟨rfl,he⟩:=inv.fin d hall
  exact hQ _ _ _ _ inv.gr inv.r he inv.uC inv.uQ
 have mem:∀{listed:Array Bool},∀i∈Region.ready .any ops listed,∃z∈zs,z.i=i∧listed.getD z.i true=false:=by
  intro listed i hi
  obtain⟨hu,o,ho,_⟩:=mem_ready.1 hi
  obtain⟨p,z,hz,rfl⟩:=d.uW (vK.1 ho).1
  exact⟨z,vE hz,rfl,hu⟩
 have tf:∀{listed:Array Bool} {i:Nat},listed.getD i true=false→listed.getD i false=false:=by
  intro listed i h
  rw[vC]at h ⊢
  cases hg:listed[i]? with
  |none=>rfl
  |some b=>rw[hg]at h;exact h
 induction fuel with
 | zero =>
   intro listed a w ι M G j inv hc
   have hall:∀z∈zs,listed.getD z.i false=true:=by
    intro z hz
    have:=List.countP_eq_zero.1 (Nat.le_zero.1 hc) z hz
    simpa using this
   refine⟨?_,fin inv hall⟩
   cases hr:Region.ready .any ops listed with
   |nil=>rfl
   | cons i l =>
     obtain⟨z,hz,rfl,hu⟩:=mem i (by rw[hr];simp)
     have:=tf hu;rw[hall z hz]at this;cases this
 | succ fuel ih =>
   intro listed a w ι M G j inv hc
   refine⟨fun hr=> ?_,fun i hi=> ?_⟩
   · by_cases hall:∀z∈zs,listed.getD z.i false=true
     · exact fin inv hall
     · have:∃z∈zs,¬listed.getD z.i false=true:=by
        by_cases hx:∃z∈zs,¬listed.getD z.i false=true
        · exact hx
        · exact absurd (fun z hz=>by
           cases hb:listed.getD z.i false with
           |true=>rfl
           |false=>exact absurd ⟨z,hz,by simp [hb]⟩ hx) hall
       obtain⟨z,hz,hnd,o,ho,hed⟩:=iF (done:=fun i=>listed.getD i false=true) d.mz (fun z hz=>by simp at hz) this
       have:z.i∈Region.ready .any ops listed:=by
        refine mem_ready.2 ⟨?_,o,ho,fun e he hb=>hed e.on (List.mem_map.2 ⟨e,List.mem_filter.2 ⟨by simpa using he,hb⟩,rfl⟩)⟩
        have hlt:z.i<listed.size:=by rw[inv.sz];exact(vK.1 ho).1
        simp only[Bool.not_eq_true]at hnd
        rw[vC,Array.getElem?_eq_getElem hlt]at hnd ⊢
        exact hnd
       rw[hr]at this;cases this
   · refine inv.step hcal hbod d hnt hi fun a' w' ι' M' G' j' inv'=>ih inv' ?_
     obtain⟨z,hz,rfl,hu⟩:=mem i hi
     have hlt:z.i<listed.size:=by
      obtain⟨_,o,ho,_⟩:=mem_ready.1 hi
      rw[inv.sz];exact(vK.1 ho).1
     have:=hZ (l:=zs) (p:=fun z=> !listed.getD z.i false) (q:=fun y=> !(listed.setIfInBounds z.i true).getD y.i false) (fun y hy hq=>by
      cases hb:listed.getD y.i false with
      |false=>rfl
      |true=>rw[(gC hlt).2 (.inr hb)]at hq;cases hq) hz (by simp only[tf hu];rfl) (by simp only[(gC hlt).2 (.inl rfl)];rfl)
     omega
theorem j4 (hm : L.P.follows .mixedOrders = true) (hcal : Callee L w0 call) (hbod : cO L) (hn : aQ call) {os : List ak} (hc : kL L nt ops ord fl = some os) {ι : Io} {M : Mm} {w : World} {a : Act} {id : Nat}
 (he:a7 L ι M e0 a.tmps) (hnt:nt≤a.tmps.size) (r:R L w0 ι M h0 w) (hev:aN call os e0 h0=some (E,hN,gs)) (hst:aZ call os E gs fl=true) {Q:Exit→Act→World→Prop}
 (hQ:∀ι' M' a' w',Gr h0 ι M hN ι' M'→R L w0 ι' M' hN w'→a7 L ι' M' E a'.tmps→a'.tmps.size=a.tmps.size→a'.defers=a.defers→Q .normal a' w'):(Code.region id ops true).wp L.P Q a w:=by
 obtain⟨zs,rfl,d⟩:=DH.of hc hev hst hn
 refine wp_region_any hm ?_
 obtain⟨G,hG,hg⟩:=cY hev
 have hf:∀i,(Array.replicate ops.size false).getD i false=false:=fun i=>by
  rw[vC]
  cases h:(Array.replicate ops.size false)[i]? with
  |none=>rfl
  |some b=>obtain⟨hlt,hb⟩:=vK.1 h;simp at hb;simp [←hb]
 have inv:Inv L w0 ops call zs e0 h0 E gs ι M a (Array.replicate ops.size false) a {w with drawn:=w.drawn+1} ι M G 0:=by
  refine⟨by simp,fun i o _ h=>(by have h2:(Array.replicate ops.size false).getD i false=true:=h;rw[hf]at h2;cases h2),hG,fun p z _ _=>⟨fun h=>(by rw[hf]at h;cases h),fun h=>(by omega)⟩,Nat.zero_le _,⟨hg.nx,fun _ _ q=>q,fun _ _ _ q=>q,fun _ _ _ q=>q⟩,(r.drew _).gw hg,fun t=> ?_,rfl,rfl, ?_⟩
  · have hlk:look (cut zs (fun i=>(Array.replicate ops.size false).getD i false) e0 E) t=look e0 t:=by
     rw[cut,bg]
     by_cases hu:t∈r9 zs fun i=>(Array.replicate ops.size false).getD i false
     · rw[if_pos hu]
     · rw[if_neg hu]
       refine bc (cf d.ev) t fun m=>hu ?_
       have:t∈jr ((zs.map (·.x)).drop 0):=m
       obtain⟨q,y,_,hy,hd⟩:=d.drop this
       exact bX.2 ⟨y,vE hy,hf _,hd⟩
    rw[hlk];exact he t
  · intro q y eq hq v h' id hy hb _ hp hev' hid
    cases hι:ι id with
    |none=>rfl
    | some l =>
      rcases bW hb hev' with ⟨rfl,_,_⟩|⟨b,_,_,rfl,hid',_⟩
      · cases hid
      · rw[hid]at hid';obtain rfl:=vm hid'
        have h1:=r.j3 _ l hι
        have h2:=d.e6 (Nat.zero_le q) (e1:=e0) (h1:=h0) rfl hp
        omega
 refine inv.any hcal hbod d hnt hQ ops.size ?_
 refine vT List.countP_le_length ?_
 rw[←d.len,←(dZ d.mz).1];simp
def comp (L:Lk) (nt:Nat):Code→aG→Option aG
 | .skip,.skip=>some .skip
 | .region _ ops false,.pC _ xc=>(du L nt ops ops.toList).bind fun os=>some (.pC os xc)
 | .region _ ops true,.iW ord _ fl xc=>(kL L nt ops ord fl).bind fun os=>some (.iW ord os fl xc)
 | .seq a b,.seq x y=>(comp L nt a x).bind fun x'=>(comp L nt b y).bind fun y'=>some (.seq x' y')
 | .cond c a b,.cond _ x y xc=>(cX L c).bind fun c'=>(comp L nt a x).bind fun x'=>(comp L nt b y).bind fun y'=>some (.cond c' x' y' xc)
 | .block id c,.block _ x xc=>(comp L nt c x).bind fun x'=>some (.block id x' xc)
 | .loop c,.loop xc x=>(comp L nt c x).bind fun x'=>some (.loop xc x')
 | .exit id,.exit _=>some (.exit id)
 | .ret,.ret=>some .ret
 |_,_=>none
def nq:Ex→Exit
 | .normal=>.normal
 | .exit id=>.exit id
 | .ret=>.ret
theorem oj (hm : L.P.follows .mixedOrders = true) (hcal : Callee L w0 call) (hbod : cO L) (hn : aQ call) (k : Nat) : ∀ (c : Code) (x0 x : aG), comp L nt c x0 = some x → ∀ {e : Env} {a : Act} {ι : Io} {M : Mm} {h : H} {w : World} {ex : Ex} {e' : Env} {h' : H} {Q : Exit → Act → World → Prop},
 a7 L ι M e a.tmps→nt≤a.tmps.size→R L w0 ι M h w→aL call (aJ k) x e h=some (ex,e',h')→
 (∀ι' M' a' w',Gr h ι M h' ι' M'→R L w0 ι' M' h' w'→a7 L ι' M' e' a'.tmps→a'.tmps.size=a.tmps.size→a'.defers=a.defers→Q (nq ex) a' w')→c.wp L.P Q a w:=by
 intro c
 induction c with
 | skip =>
   intro x0 x hx e a ι M h w ex e' h' Q he hnt r hev hQ
   cases x0<;>simp only[comp,reduceCtorEq]at hx
   obtain rfl:=vm hx
   cases hev
   exact wp_skip (hQ _ _ _ _ (.refl _ _ _) r he rfl rfl)
 | region id ops dr =>
   intro x0 x hx e a ι M h w ex e' h' Q he hnt r hev hQ
   cases dr with
   | false =>
     cases x0<;>simp only[comp,reduceCtorEq]at hx
     simp only[vk]at hx
     obtain⟨os,h1,hx⟩:=hx
     obtain rfl:=vm hx
     simp only[aL,vk]at hev
     obtain⟨⟨e1,h2⟩,hv,hev⟩:=hev
     cases hev
     refine wp_region ?_
     have:=nG hcal hbod hn ops.toList 0 (Q:=Q) (fun j=>by simp) h1 he hnt r hv (fun ι' M' a' w' g r' he' hs hd=>hQ _ _ _ _ g r' (he'.ay _) hs hd)
     rwa [←List.range_eq_range',Array.length_toList]at this
   | true =>
     cases x0<;>simp only[comp,reduceCtorEq]at hx
     simp only[vk]at hx
     obtain⟨os,h1,hx⟩:=hx
     obtain rfl:=vm hx
     simp only[aL,vk]at hev
     obtain⟨⟨e1,h2,gs⟩,hv,hev⟩:=hev
     split at hev
     · rename_i hst
       cases hev
       exact j4 hm hcal hbod hn h1 he hnt r hv hst (fun ι' M' a' w' g r' he' hs hd=>hQ _ _ _ _ g r' (he'.ay _) hs hd)
     · cases hev
 | seq c1 c2 i1 i2 =>
   intro x0 x hx e a ι M h w ex e' h' Q he hnt r hev hQ
   cases x0<;>simp only[comp,reduceCtorEq]at hx
   simp only[vk]at hx
   obtain⟨y1,g1,y2,g2,hx⟩:=hx
   obtain rfl:=vm hx
   simp only[aL,vk]at hev
   obtain⟨⟨ex1,e1,h1⟩,hv,hev⟩:=hev
   refine wp_seq (i1 _ _ g1 he hnt r hv fun ι' M' a' w' g r' he' hs hd=> ?_)
   split at hev
   · rename_i q;cases q
     exact i2 _ _ g2 he' (by rw[hs];exact hnt) r' hev fun ι2 M2 a2 w2 gg r2 he2 hs2 hd2=>hQ _ _ _ _ (g.trans gg) r2 he2 (by rw[hs2,hs]) (by rw[hd2,hd])
   · rename_i hne
     cases hev
     have:Q (nq ex) a' w':=hQ _ _ _ _ g r' he' hs hd
     cases ex with
     |normal=>exact absurd rfl (hne _ _)
     |exit id=>exact this
     |ret=>exact this
 | cond cnd c1 c2 i1 i2 =>
   intro x0 x hx e a ι M h w ex e' h' Q he hnt r hev hQ
   cases x0<;>simp only[comp,reduceCtorEq]at hx
   simp only[vk]at hx
   obtain⟨c',g0,y1,g1,y2,g2,hx⟩:=hx
   obtain rfl:=vm hx
   simp only[aL]at hev
   split at hev
   · rename_i t ht
     have hc:=ar he g0
     rw[ht]at hc
     refine wp_cond (t:=t) hc.bQ ?_
     simp only[vk]at hev
     obtain⟨⟨ex1,e1,h1⟩,hv,hev⟩:=hev
     have hout:ex1=ex∧h1=h'∧∀ι' M' (tm:Array Value),a7 L ι' M' e1 tm→a7 L ι' M' e' tm:=by
      split at hev
      · rename_i q;cases q;cases hev;exact⟨rfl,rfl,fun _ _ _ he=>he.ay _⟩
      · cases hev;exact⟨rfl,rfl,fun _ _ _ he=>he⟩
     obtain⟨rfl,rfl,hr⟩:=hout
     cases t with
     |true=>exact i1 _ _ g1 he hnt r hv fun ι' M' a' w' g r' he' hs hd=>hQ _ _ _ _ g r' (hr _ _ _ he') hs hd
     |false=>exact i2 _ _ g2 he hnt r hv fun ι' M' a' w' g r' he' hs hd=>hQ _ _ _ _ g r' (hr _ _ _ he') hs hd
   · cases hev
 | block id c1 i1 =>
   intro x0 x hx e a ι M h w ex e' h' Q he hnt r hev hQ
   cases x0<;>simp only[comp,reduceCtorEq]at hx
   simp only[vk]at hx
   obtain⟨y1,g1,hx⟩:=hx
   obtain rfl:=vm hx
   simp only[aL,vk]at hev
   obtain⟨⟨ex1,e1,h1⟩,hv,hev⟩:=hev
   refine wp_block (i1 _ _ g1 he hnt r hv fun ι' M' a' w' g r' he' hs hd=> ?_)
   split at hev
   · rename_i q;cases q;cases hev;exact hQ _ _ _ _ g r' (he'.ay _) hs hd
   · rename_i j _ _ q;cases q
     simp only[nq,Exit.inBlock]
     split at hev
     · rename_i hj;cases hev;rw[if_pos hj];exact hQ _ _ _ _ g r' (he'.ay _) hs hd
     · rename_i hj;cases hev;rw[if_neg hj];exact hQ _ _ _ _ g r' he' hs hd
   · rename_i q;cases q;cases hev;exact hQ _ _ _ _ g r' he' hs hd
 | loop c1 i1 =>
   intro x0 x hx e a ι M h w ex e' h' Q he hnt r hev hQ
   cases x0<;>simp only[comp,reduceCtorEq]at hx
   rename_i xc y
   simp only[vk]at hx
   obtain⟨y1,g1,hx⟩:=hx
   obtain rfl:=vm hx
   simp only[aL]at hev
   have key:∀(n:Nat) {e:Env} {a:Act} {ι:Io} {M:Mm} {h:H} {w:World},a7 L ι M e a.tmps→nt≤a.tmps.size→R L w0 ι M h w→aJ n (fun e h=>aL call (aJ k) y1 (ay e xc) h) e h=some (ex,e',h')→
    (∀ι' M' a' w',Gr h ι M h' ι' M'→R L w0 ι' M' h' w'→a7 L ι' M' e' a'.tmps→a'.tmps.size=a.tmps.size→a'.defers=a.defers→Q (nq ex) a' w')→Code.rounds L.P c1 Q n a w:=by
    intro n
    induction n with
    |zero=>intro e a ι M h w _ _ _ hev;cases hev
    | succ n ih =>
      intro e a ι M h w he hnt r hev hQ
      simp only[aJ,vk]at hev
      obtain⟨⟨ex1,e1,h1⟩,hv,hev⟩:=hev
      refine i1 _ _ g1 (he.ay _) hnt r hv fun ι' M' a' w' g r' he' hs hd=> ?_
      split at hev
      · rename_i q;cases q
        exact ih he' (by rw[hs];exact hnt) r' hev fun ι2 M2 a2 w2 gg r2 he2 hs2 hd2=>hQ _ _ _ _ (g.trans gg) r2 he2 (by rw[hs2,hs]) (by rw[hd2,hd])
      · rename_i hne
        cases hev
        have:Q (nq ex) a' w':=hQ _ _ _ _ g r' he' hs hd
        cases ex with
        |normal=>exact absurd rfl (hne _ _)
        |exit id=>exact this
        |ret=>exact this
   exact wp_loop_rounds k (key k he hnt r hev hQ)
 | exit id =>
   intro x0 x hx e a ι M h w ex e' h' Q he hnt r hev hQ
   cases x0<;>simp only[comp,reduceCtorEq]at hx
   obtain rfl:=vm hx
   cases hev
   exact wp_exit (hQ _ _ _ _ (.refl _ _ _) r he rfl rfl)
 | ret =>
   intro x0 x hx e a ι M h w ex e' h' Q he hnt r hev hQ
   cases x0<;>simp only[comp,reduceCtorEq]at hx
   obtain rfl:=vm hx
   cases hev
   exact wp_ret (hQ _ _ _ _ (.refl _ _ _) r he rfl rfl)
 | _ =>
   intro x0 x hx
   cases x0<;>simp only[comp,reduceCtorEq]at hx
end
end Ab
namespace Ab
open Go RowKit
structure Kp (h h':H):Prop where
 fl:h'.floor=h.floor
 get:∀id,id<h.floor→h'.get id=h.get id
theorem Kp.refl (h:H):Kp h h:=⟨rfl,fun _ _=>rfl⟩
theorem Kp.trans {a b c:H} (h:Kp a b) (k:Kp b c):Kp a c:=⟨k.fl.trans h.fl,fun id hi=>by rw[k.get id (by rw[h.fl];exact hi),h.get id hi]⟩
theorem Kp.alloc {h:H} (hf:h.floor≤h.next) (cs:List AV):Kp h (h.alloc cs):=⟨H.jv h cs,fun id hi=>by rw[H.aW];rw[if_neg (by omega)]⟩
theorem Kp.set {h:H} {id:Nat} (hf:h.floor≤id) (cs:List AV):Kp h (h.set id cs):=⟨H.lG h id cs,fun i hi=>by rw[H.dw];rw[if_neg (by omega)]⟩
theorem Kp.del {h:H} {id:Nat} (hf:h.floor≤id):Kp h (h.del id):=⟨rfl,fun i hi=>by rw[H.dU];rw[if_neg (by omega)]⟩
def sJ (call:ah):Prop:=∀f a h v h',h.floor≤h.next→call f a h=some (v,h')→Kp h h'
theorem mg {h h':H} {sz by_:Nat} {a:AV} {n:Nat} {bs:List AV} {v:AV} (hf:h.floor≤h.next) (hh:dM h sz by_ a n bs=some (v,h')):Kp h h':=by
 unfold dM at hh
 repeat' split at hh
 all_goals first
  |(cases hh;done)
  |(obtain⟨_,rfl⟩:=vo (vm hh);exact .alloc hf _)
  |(obtain⟨_,rfl⟩:=vo (vm hh);exact .refl _)
  |skip
 rename_i hsf
 simp only[vk]at hh
 obtain⟨cs,_,hh⟩:=hh
 repeat' split at hh
 all_goals first
  |(cases hh;done)
  |(obtain⟨_,rfl⟩:=vo (vm hh);exact .set hsf.2 _)
  |(obtain⟨_,rfl⟩:=vo (vm hh);exact(Kp.del hsf.2).trans (Kp.alloc (show(h.del _).floor≤(h.del _).next from hf) _))
theorem ou {call : ah} (hc : sJ call) {e : Env} {h h' : H} {o : bT} {v : AV} (hf : h.floor ≤ h.next) (hev : ai call e h o = some (v, h')) : Kp h h' := by
 by_cases hb:o.aI=true
 · obtain⟨b,_,_,rfl⟩:=cF hb hev
   exact .alloc hf _
 by_cases hl:o.aO=true
 · cases o <;> simp only [bT.aO, vw] at hl <;> simp only [ai] at hev
   case store n p x=>
    simp only[vk,vp,vr]at hev
    obtain⟨h1,hs,_,rfl⟩:=hev
    unfold cR at hs
    split at hs
    · simp only[vk]at hs
      obtain⟨cs,_,hs⟩:=hs
      split at hs
      · rename_i q;obtain rfl:=vm hs;exact .set q.1 _
      · cases hs
    · cases hs
   case call f args=>
    split at hev
    · exact hc _ _ _ _ _ hf hev
    · cases hev
   case inv2=>
    split at hev
    · split at hev
      · simp only[vk]at hev
        obtain⟨_,_,hev⟩:=hev
        exact hc _ _ _ _ _ hf hev
      · cases hev
    · cases hev
   case app=>
    unfold kS at hev
    simp only[vk]at hev
    obtain⟨r,_,hev⟩:=hev
    exact mg hf hev
   case jP=>
    unfold g9 at hev
    repeat' split at hev
    all_goals first
     |(cases hev;done)
     |(obtain⟨_,rfl⟩:=vo (vm hev);exact .alloc hf _)
   case copy=>
    unfold hH at hev
    simp only[vk]at hev
    obtain⟨r,_,hev⟩:=hev
    split at hev
    · obtain⟨_,rfl⟩:=vo (vm hev);exact .refl _
    · split at hev
      · rename_i q
        simp only[vk]at hev
        obtain⟨r,_,hev⟩:=hev
        split at hev
        · obtain⟨_,rfl⟩:=vo (vm hev);exact .set q.2.1 _
        · cases hev
      · cases hev
    · cases hev
   case clear=>
    simp only[vk,vp,vr]at hev
    obtain⟨h1,hev,_,rfl⟩:=hev
    unfold eE at hev
    repeat' split at hev
    all_goals first
     |(cases hev;done)
     |(obtain rfl:=vm hev;exact .refl _)
     |skip
    rename_i q
    simp only[vk]at hev
    obtain⟨r,_,hev⟩:=hev
    split at hev
    · obtain rfl:=vm hev;exact .set q.2.1 _
    · cases hev
 · rw[bI (by simpa using hl) (by simpa using hb) hev];exact .refl _
theorem lF {call:ah} (hc:sJ call) {e:Env} {h h':H} {o:ak} {v:AV} (hf:h.floor≤h.next) (hev:aj call o e h=some (v,h')):Kp h h':=by
 unfold aj at hev
 repeat' split at hev
 all_goals first
  |exact ou hc hf hev
  |(obtain⟨_,rfl⟩:=vo (vm hev);exact .refl _)
  |(cases hev;done)
theorem Kp.fn {h h':H} (k:Kp h h') (hn:h.next≤h'.next) (hf:h.floor≤h.next):h'.floor≤h'.next:=by rw[k.fl];omega
theorem fZ {call:ah} (hn:aQ call) (hc:sJ call):∀{os:List ak} {e e':Env} {h h':H},h.floor≤h.next→aw call os e h=some (e',h')→Kp h h'
 |[],_,_,_,_,_,hev=>by obtain⟨_,rfl⟩:=vo (vm hev);exact .refl _
 | o :: os, _, _, _, _, hf, hev => by
   simp only[aw,vk]at hev
   obtain⟨r,h1,h2⟩:=hev
   have k:=lF hc hf h1
   exact k.trans (fZ hn hc (k.fn (cq hn h1) hf) h2)
def ux (F:Env→H→dE):Prop:=∀e h x e' h',h.floor≤h.next→F e h=some (x,e',h')→Kp h h'
theorem jz {F:Env→H→dE} (hN:kz F) (hF:ux F):∀n,ux (aJ n F)
 |0,_,_,_,_,_,_,h=>by cases h
 | n + 1, e, h, x, e', h', hf, hev => by
   simp only[aJ,vk]at hev
   obtain⟨⟨y,e1,h1⟩,ha,hb⟩:=hev
   have k:=hF _ _ _ _ _ hf ha
   split at hb
   · rename_i q;cases q
     exact k.trans (jz hN hF n _ _ _ _ _ (k.fn (hN _ _ _ _ _ ha) hf) hb)
   · cases hb;exact k
theorem cU {call : ah} (hn : aQ call) (hc : sJ call) (d : Nat) : ∀ (x : aG), ux (aL call (aJ d) x)
 | .skip,_,_,_,_,_,_,hev=>by cases hev;exact .refl _
 | .exit _,_,_,_,_,_,_,hev=>by cases hev;exact .refl _
 | .ret,_,_,_,_,_,_,hev=>by cases hev;exact .refl _
 | .pC ops xc, _, _, _, _, _, hf, hev => by
   simp only[aL,vk]at hev
   obtain⟨r,h1,h2⟩:=hev
   cases h2;exact fZ hn hc hf h1
 | .iW ord ops fl xc, _, _, _, _, _, hf, hev => by
   simp only[aL,vk]at hev
   obtain⟨r,h1,h2⟩:=hev
   split at h2
   · cases h2;exact fZ hn hc hf (cf h1)
   · cases h2
 | .seq a b, _, _, _, _, _, hf, hev => by
   simp only[aL,vk]at hev
   obtain⟨⟨y,e1,h1⟩,ha,hb⟩:=hev
   have k:=cU hn hc d a _ _ _ _ _ hf ha
   split at hb
   · rename_i q
     cases q
     exact k.trans (cU hn hc d b _ _ _ _ _ (k.fn (bw hn (cr d) a _ _ _ _ _ ha) hf) hb)
   · cases hb;exact k
 | .cond x a b xc, _, h0, _, _, _, hf, hev => by
   simp only[aL]at hev
   split at hev
   · simp only[vk]at hev
     obtain⟨⟨y,e1,h1⟩,ha,hb⟩:=hev
     have:Kp h0 h1:=by
      split at ha
      · exact cU hn hc d a _ _ _ _ _ hf ha
      · exact cU hn hc d b _ _ _ _ _ hf ha
     split at hb
     · rename_i q;cases q;cases hb;exact this
     · cases hb;exact this
   · cases hev
 | .block id c xc, _, _, _, _, _, hf, hev => by
   simp only[aL,vk]at hev
   obtain⟨⟨y,e1,h1⟩,ha,hb⟩:=hev
   have:=cU hn hc d c _ _ _ _ _ hf ha
   split at hb
   · rename_i q;cases q;cases hb;exact this
   · rename_i q;cases q
     split at hb<;>(cases hb;exact this)
   · rename_i q;cases q;cases hb;exact this
 | .loop xc c,_,_,_,_,_,hf,hev=>jz (fun _ _ _ _ _ h=>bw hn (cr d) c _ _ _ _ _ h) (fun _ _ _ _ _ hf h=>cU hn hc d c _ _ _ _ _ hf h) d _ _ _ _ _ hf hev
theorem jy (A : a8) : ∀ d, sJ (aT A d)
 |0,_,_,_,_,_,_,h=>by cases h
 | d + 1, f, args, h, v, h', hf, hev => by
   simp only[aT,vk]at hev
   obtain⟨fn,_,hr⟩:=hev
   unfold fe at hr
   split at hr
   · simp only[vk]at hr
     obtain⟨⟨y,e1,h1⟩,ha,hb⟩:=hr
     unfold fin at hb
     split at hb
     · cases hb
     · rename_i q;cases q
       simp only[vk]at hb
       obtain⟨vs,_,hb⟩:=hb
       split at hb
       · simp only[vk]at hb
         obtain⟨_,_,hb⟩:=hb
         cases hb;exact .refl _
       · rename_i hp;cases hb
         rw[if_neg hp]at ha
         exact cU (cJ A d) (jy A d) d _ _ _ _ _ _ hf ha
   · cases hr
end Ab
namespace Ab
open Go RowKit
section
variable {L:Lk} {w0:World} {ι ι1:Io} {M M1:Mm} {h h1:H} {w w1:World}
open Classical in
noncomputable def bC (M1:Mm) (ι1:Io) (h1:H) (fl:Nat) (w1:World):Mm:=fun b o=>
 match M1 b o with
 |some v=>some v
 |none=>if∃id cs l,fl≤id∧h1.get id=some cs∧ι1 id=some l∧l.block=b∧l.base≤o∧o<l.base+cs.length then w1.cell? (at' b o)else none
theorem dV (fl:Nat):nX M1 (bC M1 ι1 h1 fl w1):=fun b o v q=>by simp only[bC,q]
theorem j9 (r:R L w0 ι1 M1 h1 w1) {fl id:Nat} (hid:fl≤id) {cs:List AV} (hg:h1.get id=some cs) {l:Loc} (hl:ι1 id=some l) {i:Nat} (hi:i<cs.length) {v:Value} (hv:w1.cell? (at' l.block (l.base+i))=some v):bC M1 ι1 h1 fl w1 l.block (l.base+i)=some v:=by
 simp only[bC]
 split
 · rename_i u hu;rw[r.au _ _ _ hu]at hv;exact hv
 · rw[if_pos ⟨id,cs,l,hid,hg,hl,rfl,by omega,by omega⟩];exact hv
theorem gD {fl b o:Nat} {v:Value} (hv:bC M1 ι1 h1 fl w1 b o=some v):M1 b o=some v∨(w1.cell? (at' b o)=some v∧∃id cs l,fl≤id∧h1.get id=some cs∧ι1 id=some l∧l.block=b∧l.base≤o∧o<l.base+cs.length):=by
 simp only[bC]at hv
 split at hv
 · rename_i u hu;obtain rfl:=vm hv;exact .inl hu
 · split at hv
   · rename_i q;exact .inr ⟨hv,q⟩
   · cases hv
theorem R.back (r:R L w0 ι M h w) (r1:R L w0 ι1 M1 h1 w1) (hg:∀id,id<h.next→h1.get id=h.get id) (hι:nS ι ι1) (hM:nX M M1):R L w0 ι (bC M1 ι1 h1 h.next w1) h w1:=by
 have g:∀id cs l,h.get id=some cs→ι id=some l→h1.get id=some cs∧ι1 id=some l:=fun id cs l a b=>⟨by rw[hg id (r.j3 id l b)];exact a,hι _ _ b⟩
 refine⟨r1.below,r.j3,fun id cs l a b=>r1.gU id cs l (g _ _ _ a b).1 (g _ _ _ a b).2,fun id cs l a b=>r1.own id cs l (g _ _ _ a b).1 (g _ _ _ a b).2,fun id cs l a b i x hx=> ?_,r.fU,fun b o v hv=> ?_,fun b o v id cs l hv a c=> ?_⟩
 · obtain⟨v,q1,q2⟩:=r1.val id cs l (g _ _ _ a b).1 (g _ _ _ a b).2 i x hx
   obtain⟨v0,_,q3⟩:=r.val id cs l a b i x hx
   exact⟨v,q1,(q2.shrink hι q3).mono (fun _ _ q=>q) (dV _)⟩
 · rcases gD hv with q|⟨q,_⟩
   · exact r1.au b o v q
   · exact q
 · obtain⟨a1,c1⟩:=g _ _ _ a c
   rcases gD hv with q|⟨_,id',cs',l',q1,q2,q3,q4,q5,q6⟩
   · exact r1.gV b o v id cs l q a1 c1
   · intro hb
     have hne:id≠id':=fun e=>by have:=r.j3 id l c;omega
     have hlen:=(r1.gU id' cs' l' q2 q3)
     rcases r1.fU id id' cs cs' l l' a1 q2 c1 q3 hne (by omega)with hd|hd<;>omega
theorem bq {f:AV→Option AV}:∀{l l':List AV},fF f l=some l'→l'.length=l.length∧∀(i:Nat) (a':AV),l'[i]?=some a'→∃a,l[i]?=some a∧f a=some a'
 |[],l',h=>by obtain rfl:=vm h;exact⟨rfl,fun i a q=>by simp at q⟩
 | v :: r, l', h => by
   simp only[fF,vk]at h
   obtain⟨v',h1,r',h2,h3⟩:=h
   obtain rfl:=vm h3
   obtain⟨g1,g2⟩:=bq h2
   refine⟨by simp [g1],fun i a q=> ?_⟩
   cases i with
   |zero=>simp at q;subst q;exact⟨v,rfl,h1⟩
   |succ i=>simpa using g2 i a (by simpa using q)
theorem kq (r1 : R L w0 ι1 M1 h1 w1) {fl : Nat} (hold : ∀ id l, id < fl → ι1 id = some l → ι id = some l) : ∀ (n : Nat) (top : Bool) (a a' : AV) (v : Value), V L ι1 M1 a v → snap h1.get fl n top a = some a' →
 (top=true→V L ι (bC M1 ι1 h1 fl w1) a' v)∧(top=false→VI L (bC M1 ι1 h1 fl w1) a' v):=by
 intro n
 induction n with
 |zero=>intro top a a' v _ hs;cases hs
 | succ n ih =>
   intro top a a' v hV hs
   have au:∀{x:AV},VI L M1 x v→a'=x→(top=true→V L ι (bC M1 ι1 h1 fl w1) a' v)∧(top=false→VI L (bC M1 ι1 h1 fl w1) a' v):=by
    intro x hx e
    subst e
    exact⟨fun _=>.au (hx.mono (dV _)),fun _=>hx.mono (dV _)⟩
   have row:∀{t:Bool} {xs ys:List AV} {vs:List Value},fF (snap h1.get fl n t) xs=some ys→(∀(i:Nat) (a:AV) (v:Value),xs[i]?=some a→vs[i]?=some v→V L ι1 M1 a v)→
    (t=true→∀(i:Nat) (a:AV) (v:Value),ys[i]?=some a→vs[i]?=some v→V L ι (bC M1 ι1 h1 fl w1) a v)∧(t=false→∀(i:Nat) (a:AV) (v:Value),ys[i]?=some a→vs[i]?=some v→VI L (bC M1 ι1 h1 fl w1) a v):=by
    intro t xs ys vs hm hx
    obtain⟨_,g2⟩:=bq hm
    refine⟨fun ht i a v ha hv=> ?_,fun ht i a v ha hv=> ?_⟩
    · obtain⟨b,hb,hsb⟩:=g2 i a ha
      exact(ih t b a v (hx i b v hb hv) hsb).1 ht
    · obtain⟨b,hb,hsb⟩:=g2 i a ha
      exact(ih t b a v (hx i b v hb hv) hsb).2 ht
   have cells:∀{id:Nat} {cs:List AV} {l:Loc} {off m:Nat} {ys:List AV},¬id<fl→h1.get id=some cs→ι1 id=some l→fF (snap h1.get fl n false) ((cs.drop off).take m)=some ys→
    ∃vs:Nat→Value,(∀(i:Nat) (c:AV),ys[i]?=some c→bC M1 ι1 h1 fl w1 l.block (l.base+off+i)=some (vs i))∧∀(i:Nat) (c:AV),ys[i]?=some c→VI L (bC M1 ι1 h1 fl w1) c (vs i):=by
    intro id cs l off m ys hid hg hl hm
    obtain⟨_,g2⟩:=bq hm
    refine⟨fun i=>(w1.cell? (at' l.block (l.base+off+i))).getD undef, ?_⟩
    have key:∀(i:Nat) (c:AV),ys[i]?=some c→∃v,w1.cell? (at' l.block (l.base+off+i))=some v∧off+i<cs.length∧VI L (bC M1 ι1 h1 fl w1) c v:=by
     intro i c hc
     obtain⟨b,hb,hsb⟩:=g2 i c hc
     have hb':cs[off+i]?=some b:=by
      rw[vU]at hb
      split at hb
      · rwa [vL]at hb
      · cases hb
     obtain⟨v,q1,q2⟩:=r1.val id cs l hg hl (off+i) b hb'
     rw[←vz]at q1
     exact⟨v,q1,(vt.1 hb').1,(ih false b c v q2 hsb).2 rfl⟩
    refine⟨fun i c hc=> ?_,fun i c hc=> ?_⟩
    · obtain⟨v,q1,q2,_⟩:=key i c hc
      simp only[q1,Option.getD_some]
      rw[vz]
      exact j9 r1 (by omega) hg hl q2 (by rw[←vz];exact q1)
    · obtain⟨v,q1,_,q3⟩:=key i c hc
      simp only[q1,Option.getD_some];exact q3
   cases a with
   |bot=>cases hV with|au hx=>exact au hx (vm hs).symm
   |bool b=>cases hV with|au hx=>exact au hx (vm hs).symm
   |int k m=>cases hV with|au hx=>exact au hx (vm hs).symm
   |str s=>cases hV with|au hx=>exact au hx (vm hs).symm
   |cm=>cases hV with|au hx=>exact au hx (vm hs).symm
   |aK c o=>cases hV with|au hx=>exact au hx (vm hs).symm
   |aP=>cases hV with|au hx=>exact au hx (vm hs).symm
   |aV t c o l s=>cases hV with|au hx=>exact au hx (vm hs).symm
   |eV=>cases hV with|au hx=>exact au hx (vm hs).symm
   |eX=>cases hV with|au hx=>exact au hx (vm hs).symm
   | aE id off =>
     obtain⟨l,hl,rfl⟩:=hV.aU
     simp only[snap]at hs
     split at hs
     · rename_i hid
       cases top with
       |false=>cases hs
       |true=>obtain rfl:=vm hs;exact⟨fun _=>.aE (hold id l hid hl),nofun⟩
     · rename_i hid
       simp only[vk]at hs
       obtain⟨cs,hg,ys,hm,hs⟩:=hs
       obtain rfl:=vm hs
       have hm':fF (snap h1.get fl n false) ((cs.drop 0).take cs.length)=some ys:=by simpa using hm
       obtain⟨vs,k1,k2⟩:=cells hid hg hl hm'
       have:VI L (bC M1 ι1 h1 fl w1) (.aK ys off) (.pointer (some (at' l.block (l.base+off)))):=.aK vs (fun i c hc=>k1 i c hc) k2
       exact⟨fun _=>.au this,fun _=>this⟩
   | aF id off len sz =>
     obtain⟨l,cap,ad,hl,rfl,c1,c2,c3,c4⟩:=hV.aH
     simp only[snap]at hs
     split at hs
     · rename_i hid
       cases top with
       |false=>cases hs
       |true=>obtain rfl:=vm hs;exact⟨fun _=>.aF (hold id l hid hl) c1 c2 c3 c4,nofun⟩
     · rename_i hid
       simp only[vk]at hs
       obtain⟨cs,hg,hs⟩:=hs
       split at hs
       · rename_i hle
         simp only[vk]at hs
         obtain⟨ys,hm,hs⟩:=hs
         obtain rfl:=vm hs
         obtain⟨vs,k1,k2⟩:=cells hid hg hl hm
         have hlen:=(bq hm).1
         have hmul:len* sz≤cap* sz:=vD sz c1
         have:VI L (bC M1 ι1 h1 fl w1) (.aV false ys 0 len sz) (.slice (some ad) len cap):=
          .aV (b:=l.block) (base:=l.base+off) vs k1 k2 c1 (fun q=>by rw[c2 q];rfl) (by rw[hlen];simp only[List.length_take,List.length_drop];omega) nofun
         exact⟨fun _=>.au this,fun _=>this⟩
       · cases hs
   | agg cs =>
     simp only[snap,vk]at hs
     obtain⟨ys,hm,hs⟩:=hs
     obtain rfl:=vm hs
     obtain⟨vs,rfl,q1,q2⟩:=hV.dp
     have hl:=(bq hm).1
     obtain⟨k1,k2⟩:=row hm q2
     exact⟨fun ht=>.agg (by omega) (k1 ht),fun ht=>.agg (by omega) (k2 ht)⟩
   | bL cs =>
     simp only[snap,vk]at hs
     obtain⟨ys,hm,hs⟩:=hs
     obtain rfl:=vm hs
     obtain⟨vs,rfl,q1,q2⟩:=hV.kQ
     have hl:=(bq hm).1
     obtain⟨k1,k2⟩:=row hm q2
     exact⟨fun ht=>.bL (by omega) (k1 ht),fun ht=>.bL (by omega) (k2 ht)⟩
   | fn f as cs =>
     simp only[snap,vk]at hs
     obtain⟨ys,hm,zs,hm2,hs⟩:=hs
     obtain rfl:=vm hs
     obtain⟨fid,va,vc,rfl,q0,q1,q2,q3,q4⟩:=hV.eN
     have hl:=(bq hm).1
     have hl2:=(bq hm2).1
     obtain⟨k1,k2⟩:=row hm q3
     obtain⟨k3,k4⟩:=row hm2 q4
     exact⟨fun ht=>.fn q0 (by omega) (by omega) (k1 ht) (k3 ht),fun ht=>.fn q0 (by omega) (by omega) (k2 ht) (k4 ht)⟩
   | iface t x =>
     simp only[snap,vk]at hs
     obtain⟨y,hy,hs⟩:=hs
     obtain rfl:=vm hs
     obtain⟨tid,u,rfl,q1,q2⟩:=hV.bJ
     obtain⟨k1,k2⟩:=ih top x y u q2 hy
     exact⟨fun ht=>.iface q1 (k1 ht),fun ht=>.iface q1 (k2 ht)⟩
def cD (L:Lk):List ResultVar→Option (List RV)
 |[]=>some []
 | .tmp t::r=>(cD L r).bind fun rs=>some (.tmp t::rs)
 | .cell t ty::r=>(fH L.P ty).bind fun a=>(bU L.P ty).bind fun n=>(cD L r).bind fun rs=>some (.cell t a n::rs)
theorem e9 (r : R L w0 ι M h w) {e : Env} {tmps : Array Value} (he : a7 L ι M e tmps) : ∀ {l : List ResultVar} {rs : List RV} {vs : List AV}, cD L l = some rs → cu e h rs = some vs →
 ∃ vals : List Value, ((l.mapM fun
   | .tmp t=>pure (tmps.getD t undef)
   | .cell a t=>do loadVar t (←asAddr (tmps.getD a undef)):Sem (List Value)).run L.P w)=.ok vals w∧ax L ι M vs vals
 | [], rs, vs, hc, hr => by
   obtain rfl:=vm hc
   obtain rfl:=vm hr
   exact⟨[],rfl,rfl,fun i a v q=>by simp at q⟩
 | .tmp t :: l, rs, vs, hc, hr => by
   simp only[cD,vk]at hc
   obtain⟨rs',hc,q⟩:=hc
   obtain rfl:=vm q
   simp only[cu,nM,vk]at hr
   obtain⟨v,hv,vs',hr,q⟩:=hr
   obtain rfl:=vm hv
   obtain rfl:=vm q
   obtain⟨vals,g1,g2⟩:=e9 r he hc hr
   refine⟨tmps.getD t undef::vals, ?_,by simp [g2.1],fun i a v ha hv=> ?_⟩
   · simp only[List.mapM_cons,Sem.run_bind,Sem.run_pure,Result.andThen_ok,g1]
   · cases i with
     |zero=>simp at ha hv;subst ha;subst hv;rw[←vC];exact he t
     |succ i=>exact g2.2 i a v (by simpa using ha) (by simpa using hv)
 | .cell t ty :: l, rs, vs, hc, hr => by
   simp only[cD,vk]at hc
   obtain⟨ag,ha,n,hn,rs',hc,q⟩:=hc
   obtain rfl:=vm q
   simp only[cu,nM,vk]at hr
   obtain⟨v,hv,vs',hr,q⟩:=hr
   obtain rfl:=vm q
   obtain⟨vals,g1,g2⟩:=e9 r he hc hr
   have ht:=he t
   have hload:∃u,((do loadVar ty (←asAddr (tmps.getD t undef)):Sem Value).run L.P w)=.ok u w∧V L ι M v u:=by
    unfold bP at hv
    split at hv
    · rename_i id off q
      rw[q]at ht
      obtain⟨lo,hlo,hp⟩:=ht.aU
      simp only[vk]at hv
      obtain⟨cs,hg,hv⟩:=hv
      obtain⟨u,k1,k2⟩:=dy ha hn (r.row hg hlo) hv
      exact⟨u,by rw[hp];simpa [asAddr]using k1,k2⟩
    · rename_i cs off q
      rw[q]at ht
      obtain⟨b,base,hp,hrow⟩:=V.ch r ht
      obtain⟨u,k1,k2⟩:=dy ha hn hrow hv
      exact⟨u,by rw[hp];simpa [asAddr]using k1,k2⟩
    · cases hv
   obtain⟨u,k1,k2⟩:=hload
   refine⟨u::vals, ?_,by simp [g2.1],fun i a x hx hy=> ?_⟩
   · simp only[List.mapM_cons,Sem.run_bind,Sem.run_pure,Result.andThen_ok,g1]at k1 ⊢
     rw[k1];simp only[Result.andThen_ok,g1]
   · cases i with
     |zero=>simp at hx hy;subst hx;subst hy;exact k2
     |succ i=>exact g2.2 i a x (by simpa using hx) (by simpa using hy)
theorem gZ (r:R L w0 ι M h w) {e:Env} {fn:Func} {tmps:Array Value} (he:a7 L ι M e tmps) {rs:List RV} {vs:List AV} (hc:cD L fn.results.toList=some rs) (hr:cu e h rs=some vs):
 ∃v,(results fn tmps).run L.P w=.ok v w∧V L ι M (dj vs) v:=by
 obtain⟨vals,g1,g2⟩:=e9 r he hc hr
 unfold results
 rw[Array.mapM_eq_mapM_toList]
 have:(if hx:vals.toArray.size=1 then vals.toArray[0]else .tuple vals.toArray)=(if hx:vals.toArray.size=1 then vals.toArray[0]else .tuple vals.toArray):=rfl
 refine⟨if hx:vals.toArray.size=1 then vals.toArray[0]else .tuple vals.toArray, ?_, ?_⟩
 · simp only[Sem.run_bind,Sem.run_map,Sem.run_pure]
   erw [g1]
   rfl
 · match vs,vals,g2 with
   |[v],[u],g2=>simpa [dj]using g2.2 0 v u rfl rfl
   |[],[],g2=>simp only[dj];exact .bL g2.1 g2.2
   | a :: b :: vs, x :: y :: vals, g2 =>
     have:¬(x::y::vals).toArray.size=1:=by simp
     rw[dif_neg this]
     exact .bL g2.1 g2.2
   |[],_::_,g2=>cases g2.1
   |_::_,[],g2=>cases g2.1
   |[_],_::_::_,g2=>cases g2.1
   |_::_::_,[_],g2=>cases g2.1
end
end Ab
namespace Ab
open Go RowKit
structure eC (L:Lk) (A:a8):Prop where
 hm:L.P.follows .mixedOrders=true
 fns : ∀ (fid : FuncId) (f : Nat), L.mf fid = some f → ∃ fn c, L.P.funcs[fid]? = some fn ∧ fn.body = some c ∧ (fn.name == "runtime.NumGoroutine") = false ∧
  ∀af,A f=some af→(∃x0,comp L fn.ntmps c x0=some af.body)∧cD L fn.results.toList=some af.res
 vg:∀name t f d,L.iv name=some (t,f,d)→∀T,L.mt T=t→∃fid,L.mf fid=some f∧md L.P T name fid d
 vi:∀t k,L.ta t=some k→sG L.P t∧∀T,L.mt T=k→T=t
 eqs:∀t,L.sq t=true→L.P.stoodInHeld t=false
theorem eC.qE {L:Lk} {A:a8} (lk:eC L A):cO L:=⟨fun fid f h=>let ⟨fn,c,a,b,d,_⟩:=lk.fns fid f h;⟨fn,c,a,b,d⟩,lk.vg,lk.vi,lk.eqs⟩
theorem fB : ∀ (args : List AV) (k t : Nat), look (params k args) t = if k ≤ t then (args[t - k]?).getD .bot else .bot
 |[],k,t=>by simp [params,look]
 | v :: r, k, t => by
   simp only[params,look,fB r (k+1) t]
   by_cases h:k=t
   · subst h;simp
   · rw[if_neg h]
     by_cases hk:k≤t
     · have e:t-k=(t-(k+1))+1:=by omega
       rw[if_pos hk,if_pos (by omega),e,vI]
     · rw[if_neg hk,if_neg (by omega)]
section
variable {L:Lk} {w0:World} {ι:Io} {M:Mm} {h:H} {w:World}
theorem a7.params {args:List AV} {vals:List Value} (hr:ax L ι M args vals) (n:Nat):a7 L ι M (params 0 args) (vals.toArray++Array.replicate n undef):=by
 intro t
 rw[fB,if_pos (Nat.zero_le _),Nat.sub_zero]
 cases ha:args[t]? with
 |none=>exact .au (.bot _)
 | some a =>
   obtain⟨hlt,_⟩:=vt.1 ha
   have hlt':t<vals.length:=by rw[←hr.1];exact hlt
   have hv:vals[t]?=some vals[t]:=List.getElem?_eq_getElem hlt'
   have:=hr.2 t a _ ha hv
   rw[vC,Array.getElem?_append_left (by simpa using hlt')]
   simpa [hv]using this
theorem R.dQ (r:R L w0 ι M h w):R L w0 ι M h.dQ w:=⟨r.below,r.j3,r.gU,r.own,r.val,r.fU,r.au,r.gV⟩
theorem callee {A : a8} (lk : eC L A) : ∀ d, Callee L w0 (aT A d)
 |0,_,_,_,_,_,_,_,_,_,_,_,hev,_,_=>by cases hev
 | d + 1, f, fid, args, vals, ι, M, h, h', w, v, hmf, hev, r, hrow => by
   have ih:=callee lk d
   obtain⟨fn,c,hf,hb,_,hA⟩:=lk.fns fid f hmf
   simp only[aT,vk]at hev
   obtain⟨af,haf,hev⟩:=hev
   obtain⟨⟨x0,hx⟩,hres⟩:=hA af haf
   unfold fe at hev
   split at hev
   · rename_i hnp
     simp only[vk]at hev
     obtain⟨⟨ex,e1,h1⟩,hv,hfin⟩:=hev
     have hsz:fn.ntmps≤(vals.toArray++Array.replicate (fn.ntmps-vals.toArray.size) undef).size:=by simp;omega
     refine calls_of_wp hf hb ?_
     have hr':R L w0 ι M (if af.pure=true then h.dQ else h) w:=by
      split
      · exact r.dQ
      · exact r
     refine oj lk.hm ih lk.qE (cJ A d) d c x0 af.body hx (a:={tmps:=vals.toArray++Array.replicate (fn.ntmps-vals.toArray.size) undef,defers:=[]}) (a7.params hrow _) hsz hr' hv ?_
     intro ι1 M1 a1 w1 g r1 he1 _ hd1
     have post:∀(P:Value→World→Prop) (vs:List AV),cu e1 h1 af.res=some vs→(∀u,V L ι1 M1 (dj vs) u→P u w1)→bodyPost L.P fn (fun e w'=>∃v',e=.returned v'∧P v' w') .normal a1 w1:=by
      intro P vs hvs hP
      obtain⟨u,k1,k2⟩:=gZ r1 (fn:=fn) he1 hres hvs
      exact⟨hd1,u,k1,u,rfl,hP u k2⟩
     have main:∀vs,cu e1 h1 af.res=some vs→(if af.pure=true then(snap h1.get h.next gR true (dj vs)).bind fun v=>some (v,h)else some (dj vs,h1))=some (v,h')→
      bodyPost L.P fn (fun e w'=>∃v',e=.returned v'∧Out L w0 ι M h h' v v' w') .normal a1 w1:=by
      intro vs hvs hfin
      split at hfin
      · rename_i hp
        simp only[vk]at hfin
        obtain⟨v2,hsn,hfin⟩:=hfin
        obtain⟨rfl,rfl⟩:=vo (vm hfin)
        simp only[hp,if_true]at g hv
        have kp:=cU (cJ A d) (jy A d) d _ _ _ _ _ _ (vB _) hv
        refine post (fun u w'=>Out L w0 ι M h h v2 u w') vs hvs fun u hu=> ?_
        have hold:∀id l,id<h.next→ι1 id=some l→ι id=some l:=fun id l a b=>g.iH id l a b
        exact⟨ι,bC M1 ι1 h1 h.next w1,fun _ _ q=>q,fun b o x q=>dV _ b o x (g.mm _ _ _ q),fun _ _ _ q=>q,r.back r1 (fun id hid=>kp.get id hid) g.io g.mm,(kq r1 hold _ true _ _ _ hu hsn).1 rfl⟩
      · rename_i hp
        obtain⟨rfl,rfl⟩:=vo (vm hfin)
        rw[if_neg hp]at g
        exact post (fun u w'=>Out L w0 ι M h h1 (dj vs) u w') vs hvs fun u hu=>⟨ι1,M1,g.io,g.mm,g.iH,r1,hu⟩
     unfold fin at hfin
     split at hfin
     · cases hfin
     · rename_i hne q
       cases q
       simp only[vk]at hfin
       obtain⟨vs,hvs,hfin⟩:=hfin
       have:=main vs hvs hfin
       cases ex with
       |normal=>exact this
       |ret=>exact this
       |exit id=>exact(hne _ rfl).elim
   · cases hev
theorem jn {A:a8} (lk:eC L A):Callee L w0 (aR A):=by
 intro f fid args vals ι M h h' w v hmf hev r hrow
 obtain⟨n,hn⟩:=eM hev
 exact callee lk n f fid args vals ι M h h' w v hmf hn r hrow
end
end Ab
namespace Ab
open Go RowKit ChangeShapes WideShapes
def uj:Io:=fun _=>none
def vj:Mm:=fun _ _=>none
theorem R.start (L:Lk) (W:World) {M:Mm} (hM:∀b o v,M b o=some v→W.cell? (at' b o)=some v):R L W uj M H.empty W:=
 ⟨Below.refl _ _,fun _ _ h=>(by cases h),fun _ _ _ _ h=>(by cases h),fun _ _ _ _ h=>(by cases h),fun _ _ _ _ h=>(by cases h),fun _ _ _ _ _ _ _ _ h=>(by cases h),hM,fun _ _ _ _ _ _ _ _ h=>(by cases h)⟩
theorem lX {L:Lk} {A:a8} (lk:eC L A) {f:Nat} {fid:FuncId} {args:List AV} {vals:List Value} {M:Mm} {W:World} {h':H} (hm:L.mf fid=some f) (hM:∀b o v,M b o=some v→W.cell? (at' b o)=some v)
 (hc:aR A f args H.empty=some (.bool true,h')) (hr:ax L uj M args vals):Calls L.P fid vals.toArray W fun e W'=>e=.returned (.bool true)∧Below W.heap.size W W':=by
 refine(jn lk f fid args vals uj M H.empty h' W _ hm hc (R.start L W hM) hr).mono fun e W' ⟨v',he,ι',M',_,_,_,r',hv⟩=> ?_
 have:=hv.bQ
 subst this
 exact⟨he,r'.below⟩
theorem uh {a:Int} (w:(Lit.int .i64 a).wf=true): -9223372036854775808≤a∧a<9223372036854775808:=by
 simp only[Lit.wf,vA,decide_eq_true_eq]at w
 have h1:IntKind.min .i64= -9223372036854775808:=by decide
 have h2:IntKind.max .i64=9223372036854775807:=by decide
 rw[h1,h2]at w
 omega
theorem uO {s:ByteArray} (w:s.size≤reachBytes):s.size<140737488355328:=by
 unfold reachBytes at w;omega
theorem lU {H:Type} {enc:TypeId×Value→H} {P:Program} {f:Func} {s:ChangeSpec} {apart fresh handsOn:Bool} {W W':World} {args:Array Value} {ds gs:List (DataW H)} {before pa pv:List MemPlace} {t:TypeId}
 (hW:DataW.Whole enc P f.params.toList s.vars apart W args.toList ds gs before) (hb:Below W.heap.size W W')
 (hrt:f.resultTypes= #[t]) (hres:∀(b:Nat) (sp:Nat→Bool) (hd:Bool),DataW.Trod enc P W' b sp hd t (.bool true) (.lit (.bool true)) []) (hsr:(s.fn H (ds++gs)).results=[.lit (.bool true)])
 (hargs:DataW.TrodAll enc P W' 0 (fun b=>decide (b<W.heap.size)) true f.params.toList args.toList (s.fn H (ds++gs)).args pa)
 (hvars:DataW.TrodVars enc P W' (fun b=>decide (b<W.heap.size)) s.vars (s.fn H (ds++gs)).vars pv):
 s.post enc P f apart fresh handsOn false W args (.bool true) W':=by
 refine⟨ds,gs,before,[],pa,pv,hW, ?_,hargs,hvars,hb.frame _,fun h=>by cases h⟩
 rw[hrt,hsr]
 exact trodAll_mk1 (hres _ _ _)
end Ab
namespace Ab
open Go RowKit ChangeShapes WideShapes
inductive Ty where
 |bool
 |int (k:IntKind)
 |str
 |sl (e:Ty) (z b:Nat)
 |st (fs:List Ty)
mutual
inductive Sh (B:Nat):Ty→List AV→Prop where
 |bool (b:Bool):Sh B .bool [.bool b]
 |int {k:IntKind} {n:Int} (h:(Lit.int k n).wf=true):Sh B (.int k) [.int k n]
 |str {s:ByteArray} (h:s.size≤B):Sh B .str [.str s]
 |aP {e:Ty} {z b:Nat}:Sh B (.sl e z b) [.aP]
 |aV {e:Ty} {z b:Nat} (ess:List (List AV)) (h:∀es,es∈ess→Sh B e es) (hz:∀es,es∈ess→es.length=z) (hb:ess.length* b≤B):Sh B (.sl e z b) [.aV false ess.flatten 0 ess.length z]
 |st {fs:List Ty} {as:List AV} (h:jc B fs as):Sh B (.st fs) as
inductive jc (B:Nat):List Ty→List AV→Prop where
 |nil:jc B [] []
 |cons {f:Ty} {fs:List Ty} {a r:List AV} (h:Sh B f a) (hr:jc B fs r):jc B (f::fs) (a++r)
end
def kR (P:Program) (r:TypeId→Option (Ty×Nat)):Nat→List Field→Option (List Ty×Nat)
 |o,[]=>some ([],o)
 |o,f::l=>if f.offset=o then(r f.type).bind fun y=>if P.cellsOf f.type=y.2 then(kR P r (o+y.2) l).map fun x=>(y.1::x.1,x.2)else none else none
def kv (P : Program) : Nat → TypeId → Option (Ty × Nat)
 |0,_=>none
 | n + 1, t => match P.underlying t with
   |some .bool=>some (.bool,1)
   |some (.int k)=>some (.int k,1)
   |some .string=>some (.str,1)
   |some (.slice e)=>(kv P n e).bind fun y=>if 0<y.2∧P.cellsOf e=y.2 then some (.sl y.1 y.2 (P.bytesOf e),1)else none
   |some (.struct fs)=>(kR P (kv P n) 0 fs.toList).bind fun x=>if P.cellsOf t=x.2 then some (.st x.1,x.2)else none
   |_=>none
theorem nu {α : Type} {Q : Nat → α → Prop} : ∀ n : Nat, (∀ i, i < n → ∃ x, Q i x) → ∃ l : List α, l.length = n ∧ ∀ i x, l[i]? = some x → Q i x
 |0,_=>⟨[],rfl,fun i x h=>by simp at h⟩
 | n + 1, h => by
   obtain⟨l,hl,hq⟩:=nu n fun i hi=>h i (by omega)
   obtain⟨x,hx⟩:=h n (by omega)
   refine⟨l++[x],by simp [hl],fun i y hy=> ?_⟩
   by_cases c:i<l.length
   · rw[List.getElem?_append_left c]at hy;exact hq i y hy
   · rw[List.getElem?_append_right (by omega)]at hy
     have hi:i=n:=by
      rcases Nat.lt_or_ge n i with q|q
      · rw[List.getElem?_eq_none (by simp;omega)]at hy;cases hy
      · omega
     subst hi
     rw[hl,Nat.sub_self]at hy
     obtain rfl:=vm hy
     exact hx
theorem fy {α:Type} {z:Nat} (hz:0<z):∀(l:List (List α)) (_:∀x∈l,x.length=z) (i:Nat),l.flatten[i]?=(l[i/z]?).bind (·[i%z]?)
 |[],_,i=>by simp
 | x :: l, h, i => by
   have hx:=h x (by simp)
   rw[List.flatten_cons]
   by_cases c:i<z
   · rw[List.getElem?_append_left (by omega),Nat.div_eq_of_lt c,Nat.mod_eq_of_lt c];rfl
   · rw[List.getElem?_append_right (by omega),fy hz l (fun y hy=>h y (by simp [hy])),hx]
     have e1:i/z=(i-z)/z+1:=by rw[Nat.div_eq i z,if_pos ⟨hz,by omega⟩]
     have e2:i%z=(i-z)%z:=Nat.mod_eq_sub_mod (by omega)
     rw[e1,e2];rfl
theorem fA {α:Type} {z:Nat}:∀(l:List (List α)) (_:∀x∈l,x.length=z),l.flatten.length=l.length* z
 |[],_=>by simp
 | x :: l, h => by
   rw[List.flatten_cons,vV,fA l (fun y hy=>h y (by simp [hy])),h x (by simp),List.length_cons,Nat.succ_mul,Nat.add_comm]
def gX (W:World):Mm:=fun b o=>W.cell? (at' b o)
def Rel (L:Lk) (W:World) (as:List AV) (cs:List Value):Prop:=as.length=cs.length∧∀(i:Nat) (a:AV) (v:Value),as[i]?=some a→cs[i]?=some v→VI L (gX W) a v
section
variable {H:Type} {enc:TypeId×Value→H} {P:Program} {W:World} {L:Lk} {B:Nat}
theorem dk {e:TypeId}:∀{l:List (DataW H)} {d:DataW H},d∈l→∀n∈d.weights P e,n∈DataW.weightsAll P e l
 | x :: l, d, hd, n, hn => by
   rw[DataW.weightsAll,List.mem_append]
   rcases vR.1 hd with rfl|hd
   · exact .inl hn
   · exact .inr (dk hd n hn)
theorem iq {n : Nat} {r : TypeId → Option (Ty × Nat)} {cs : List Value}
 (ih:∀(t:TypeId) (y:Ty×Nat),r t=some y→∀(cs:List Value) (x:DataW H×List MemPlace),DataW.trod enc P W 0 (fun _=>true) true n t cs=some x→(∀k∈x.1.weights P t,k≤B)→∃as,Sh B y.1 as∧as.length=y.2∧Rel L W as cs):
 ∀ (fs : List Field) (o : Nat) (xs : List (DataW H × List MemPlace)) (y : List Ty × Nat), kR P r o fs = some y → xs.length = fs.length →
   (∀(i:Nat) (f:Field),fs[i]?=some f→DataW.trod enc P W 0 (fun _=>true) true n f.type ((cs.drop f.offset).take (P.cellsOf f.type))=xs[i]?)→
   (∀k∈DataW.weightsEach P (fs.map (·.type)) (xs.map (·.1)),k≤B)→
   ∃as,jc B y.1 as∧o+as.length=y.2∧∀(i:Nat) (a:AV) (v:Value),as[i]?=some a→cs[o+i]?=some v→VI L (gX W) a v
 | [], o, xs, y, hy, hl, ht, hw => by
   obtain rfl:=vm hy
   exact⟨[],.nil,rfl,fun i a v h=>by simp at h⟩
 |f::fs,o,[],y,hy,hl,ht,hw=>by simp at hl
 | f :: fs, o, x :: xs, y, hy, hl, ht, hw => by
   unfold kR at hy
   split at hy
   · rename_i ho
     obtain⟨y1,h1,hy⟩:=vk.1 hy
     split at hy
     · rename_i hc
       obtain⟨y2,h2,rfl⟩:=vn.1 hy
       simp only[List.map_cons,DataW.weightsEach,List.mem_append]at hw
       obtain⟨as,s1,l1,r1,r2⟩:=ih f.type y1 h1 _ x (ht 0 f rfl) (fun k hk=>hw k (.inl hk))
       obtain⟨bs,s2,l2,q2⟩:=iq ih fs (o+y1.2) xs y2 h2 (by simpa using hl) (fun i g hg=>ht (i+1) g hg) (fun k hk=>hw k (.inr hk))
       refine⟨as++bs,.cons s1 s2,by rw[vV];omega,fun i a v ha hv=> ?_⟩
       by_cases c:i<as.length
       · rw[List.getElem?_append_left c]at ha
         refine r2 i a v ha ?_
         rw[vU,if_pos (by omega),vL,ho];exact hv
       · rw[List.getElem?_append_right (by omega)]at ha
         refine q2 _ a v ha ?_
         rw[show o+y1.2+(i-as.length)=o+i by omega];exact hv
     · cases hy
   · cases hy
theorem mI (b o n:Nat):(at' b o).add n=at' b (o+n):=by
 unfold Addr.add at'
 split
 · rename_i h;rw[h];rfl
 · rfl
theorem lY {a:Addr} {v:Value} (h:W.cell? a=some v):a=at' a.block a.off:=by
 unfold World.cell? at h
 cases hs:a.spot with
 |none=>cases a;simp at hs;subst hs;rfl
 | some k =>
   rw[hs]at h
   split at h
   · simp at h
   · cases h
theorem nO : ∀ (m : Nat) (t : TypeId) (y : Ty × Nat), kv P m t = some y → ∀ (n : Nat) (cs : List Value) (x : DataW H × List MemPlace), DataW.trod enc P W 0 (fun _ => true) true n t cs = some x →
 (∀k∈x.1.weights P t,k≤B)→∃as,Sh B y.1 as∧as.length=y.2∧Rel L W as cs
 |0,t,y,hy,n,cs,x,hx,hw=>by cases hy
 | m + 1, t, y, hy, n, cs, x, hx, hw => by
   unfold kv at hy
   split at hy
   · rename_i hu
     obtain rfl:=vm hy
     obtain⟨b,rfl,rfl⟩:=DataW.trod_bool hu hx
     exact⟨_,.bool b,rfl,rfl,fun i a v ha hv=>by
      match i,ha,hv with
      |0,ha,hv=>simp at ha hv;subst ha;subst hv;exact .bool b⟩
   · rename_i k hu
     obtain rfl:=vm hy
     obtain⟨z,rfl,rfl,hz⟩:=DataW.trod_int hu hx
     exact⟨_,.int hz,rfl,rfl,fun i a v ha hv=>by
      match i,ha,hv with
      |0,ha,hv=>simp at ha hv;subst ha;subst hv;exact .int _ _⟩
   · rename_i hu
     obtain rfl:=vm hy
     obtain⟨s,rfl,rfl,hz⟩:=DataW.trod_string hu hx
     refine⟨_,.str (s:=s) (hw _ ?_),rfl,rfl,fun i a v ha hv=>by
      match i,ha,hv with
      |0,ha,hv=>simp at ha hv;subst ha;subst hv;exact .str _⟩
     simp [DataW.weights]
   · rename_i e hu
     obtain⟨y1,h1,hy⟩:=vk.1 hy
     split at hy
     · rename_i hc
       obtain⟨hz,hc⟩:=hc
       obtain rfl:=vm hy
       rcases DataW.trod_slice hu hx with ⟨rfl,rfl⟩|⟨a,len,cap,elems,rest,n',rfl,rfl,rfl,-,hl,hm,hlen,hel,hsp,-⟩
       · exact⟨_,.aP,rfl,rfl,fun i a v ha hv=>by
          match i,ha,hv with
          |0,ha,hv=>simp at ha hv;subst ha;subst hv;exact .aP⟩
       · obtain⟨hrl,hr⟩:=hsp rfl
         simp only[DataW.weights,hu,List.length_map,vR,List.mem_append]at hw
         have ha:cap≠0→a=at' a.block a.off:=by
          intro h0
          have:∃cs,W.cells? 0 (a.add (0* P.cellsOf e)) (P.cellsOf e)=some cs:=by
           by_cases c:0<len
           · have:=hel 0 c
             obtain⟨q,hq⟩:∃q,elems[0]?=some q:=⟨elems[0],by simp [hlen,c]⟩
             rw[hq]at this
             obtain⟨c1,c2,_⟩:=vk.1 this
             exact⟨c1,c2⟩
           · have:=hr 0 (by omega)
             obtain⟨q,hq⟩:∃q,rest[0]?=some q:=⟨rest[0]'(by omega),by simp⟩
             rw[hq]at this
             obtain⟨c1,c2,_⟩:=vk.1 this
             exact⟨c1,by rw[show len+0=0 by omega]at c2;exact c2⟩
          obtain⟨c1,c2⟩:=this
          obtain⟨-,k1,k2⟩:=World.cells?_some c2
          have k3:=k2 0 (by omega)
          have:(a.add (0* P.cellsOf e)).add 0=a:=by simp [Addr.add]
          rw[this]at k3
          obtain⟨v,hv⟩:∃v,c1[0]?=some v:=⟨c1[0]'(by omega),by simp⟩
          rw[hv]at k3
          exact lY k3
         have each:∀i,i<len→∃as,(Sh B y1.1 as∧as.length=y1.2)∧∀j,j<y1.2→∃v,W.cell? (at' a.block (a.off+(i* y1.2+j)))=some v∧∀c,as[j]?=some c→VI L (gX W) c v:=by
          intro i hi
          obtain⟨q,hq⟩:∃q,elems[i]?=some q:=⟨elems[i]'(by omega),by simp⟩
          have h2:=hel i hi
          rw[hq]at h2
          obtain⟨c1,c2,c3⟩:=vk.1 h2
          obtain⟨as,s1,l1,r1,r2⟩:=nO m e y1 h1 n' c1 q c3 (fun k hk=>hw k (.inr (.inl (dk (List.mem_map.2 ⟨q,vE hq,rfl⟩) k hk))))
          obtain⟨-,k1,k2⟩:=World.cells?_some c2
          refine⟨as,⟨s1,l1⟩,fun j hj=> ?_⟩
          have k3:=k2 j (by omega)
          have ea:=ha (by omega)
          generalize a.block=ab at *
          generalize a.off=ao at *
          subst ea
          rw[mI,mI,hc]at k3
          obtain⟨v,hv⟩:∃v,c1[j]?=some v:=⟨c1[j]'(by omega),by simp⟩
          rw[hv]at k3
          exact⟨v,by rw[←vz];exact k3,fun c hcc=>r2 j c v hcc hv⟩
         obtain⟨ess,le,he⟩:=nu len each
         have hzz:∀es∈ess,es.length=y1.2:=fun es hes=>by
          obtain⟨i,hi⟩:=List.getElem?_of_mem hes
          exact(he i es hi).1.2
         refine⟨_,.aV (b:=P.bytesOf e) ess (fun es hes=>by
          obtain⟨i,hi⟩:=List.getElem?_of_mem hes
          exact(he i es hi).1.1) hzz (vT (vD _ (by omega)) (hw _ (.inl rfl))),rfl,rfl,fun i c v hc' hv=> ?_⟩
         match i,hc',hv with
         | 0, hc', hv =>
           simp only[List.getElem?_cons_zero,vp]at hc' hv
           subst hc';subst hv
           have cell:∀(i:Nat) (c:AV),ess.flatten[i]?=some c→∃v,W.cell? (at' a.block (a.off+i))=some v∧VI L (gX W) c v:=by
            intro i c hi
            rw[fy hz ess hzz]at hi
            obtain⟨es,h3,h4⟩:=vk.1 hi
            obtain⟨v,h5,h6⟩:=(he _ es h3).2 (i%y1.2) (Nat.mod_lt _ hz)
            refine⟨v, ?_,h6 c h4⟩
            rw[Nat.mul_comm (i/y1.2),Nat.div_add_mod]at h5;exact h5
           rw[le]
           refine .aV (b:=a.block) (base:=a.off) (fun i=>(W.cell? (at' a.block (a.off+i))).getD default) (fun i c hi=> ?_) (fun i c hi=> ?_) hl (fun q=>ha q) ?_ (fun q=>by cases q)
           · obtain⟨v,h5,_⟩:=cell i c hi
             show W.cell? _=_
             rw[h5];rfl
           · obtain⟨v,h5,h6⟩:=cell i c hi
             rw[h5];exact h6
           · rw[fA ess hzz,le,vF];exact vD _ hl
     · cases hy
   · rename_i fs hu
     obtain⟨y1,h1,hy⟩:=vk.1 hy
     split at hy
     · rename_i hc
       obtain rfl:=vm hy
       obtain⟨xs,n',rfl,rfl,hl,hxl,hf⟩:=DataW.trod_struct hu hx
       simp only[DataW.weights,hu]at hw
       obtain⟨as,s1,l1,q1⟩:=iq (cs:=cs) (fun t y h cs x hx hw=>nO m t y h n' cs x hx hw) fs.toList 0 xs y1 h1 (by simpa using hxl) (fun i f h=>hf i f (by simpa using h)) hw
       refine⟨as,.st s1,by show as.length=y1.2;omega,by omega,fun i a v ha hv=>q1 i a v ha (by rw[vF];exact hv)⟩
     · cases hy
   · cases hy
def jT:Ty×List AV→AV
 |(.st _,as)=>.agg as
 |(_,as)=>as.headD .bot
inductive fO (L:Lk) (W:World) (B:Nat):List Value→List (Ty×List AV)→Prop where
 |nil:fO L W B [] []
 |cons {v:Value} {vs:List Value} {x:Ty×List AV} {r:List (Ty×List AV)} (h1:Sh B x.1 x.2) (h2:V L (fun _=>none) (gX W) (jT x) v) (hr:fO L W B vs r):fO L W B (v::vs) (x::r)
def fg (P:Program) (m:Nat):List TypeId→Option (List Ty)
 |[]=>some []
 |t::ts=>(kv P m t).bind fun y=>(fg P m ts).map fun r=>y.1::r
theorem fM {y:Ty} {as:List AV} {v:Value} (hy:∀fs,y≠.st fs) (h1:as.length=1) (hv:v.cells.toList=[v]) (h2:Rel L W as v.cells.toList):VI L (gX W) (jT (y,as)) v:=by
 match as,h1 with
 | [a], _ =>
   have:=h2.2 0 a v rfl (by rw[hv];rfl)
   cases y<;>first|exact this|exact absurd rfl (hy _)
theorem rS {fs:List Ty} {as:List AV} {cs:Array Value} (h2:Rel L W as (Value.agg cs).cells.toList):VI L (gX W) (jT (.st fs,as)) (.agg cs):=by
 have e:(Value.agg cs).cells.toList=cs.toList:=rfl
 rw[e]at h2
 have:Value.agg cs=.agg cs.toList.toArray:=by simp
 rw[this]
 exact .agg h2.1 h2.2
theorem sP {m : Nat} {t : TypeId} {y : Ty × Nat} {as : List AV} {v : Value} {base : Nat} (hy : kv P m t = some y) (hl : as.length = y.2) (hv : Value.okWide P W .any base t v) (h2 : Rel L W as v.cells.toList) : VI L (gX W) (jT (y.1, as)) v := by
 cases m with
 |zero=>cases hy
 | succ m =>
   unfold kv at hy
   unfold Value.okWide at hv
   split at hy
   · rename_i hu
     obtain rfl:=vm hy
     rw[hu]at hv
     unfold Cell.okWide Cell.ok at hv
     rw[hu]at hv
     cases v<;>first|exact hv.elim|exact fM (by intro fs e;cases e) hl rfl h2
   · rename_i k hu
     obtain rfl:=vm hy
     rw[hu]at hv
     unfold Cell.okWide Cell.ok at hv
     rw[hu]at hv
     cases v<;>first|exact hv.elim|exact fM (by intro fs e;cases e) hl rfl h2
   · rename_i hu
     obtain rfl:=vm hy
     rw[hu]at hv
     unfold Cell.okWide Cell.ok at hv
     rw[hu]at hv
     cases v<;>first|exact hv.elim|exact fM (by intro fs e;cases e) hl rfl h2
   · rename_i e hu
     obtain⟨y1,h1,hy⟩:=vk.1 hy
     split at hy
     · obtain rfl:=vm hy
       rw[hu]at hv
       unfold Cell.okWide Cell.ok at hv
       rw[hu]at hv
       cases v<;>first|exact hv.elim|exact fM (by intro fs e;cases e) hl rfl h2
     · cases hy
   · rename_i fs hu
     obtain⟨y1,h1,hy⟩:=vk.1 hy
     split at hy
     · obtain rfl:=vm hy
       rw[hu]at hv
       obtain⟨cs,rfl,_⟩:=hv
       exact rS h2
     · cases hy
   · cases hy
theorem kG {m base:Nat}:∀{ts:List TypeId} {vs:List Value} {ds:List (DataW H)} {ps:List MemPlace} {ys:List Ty},fg P m ts=some ys→DataW.TrodAll enc P W 0 (fun _=>true) true ts vs ds ps→
 (∀(j:Nat) t v,ts[j]?=some t→vs[j]?=some v→Value.okWide P W .any base t v)→(∀k∈DataW.weightsEach P ts ds,k≤B)→∃r:List (Ty×List AV),r.map (·.1)=ys∧fO L W B vs r
 |[],[],[],ps,ys,hy,_,_,_=>by obtain rfl:=vm hy;exact⟨[],rfl,.nil⟩
 | t :: ts, v :: vs, d :: ds, ps, ys, hy, ⟨p, q, ⟨n, h1⟩, h2, _⟩, hv, hw => by
   unfold fg at hy
   obtain⟨y,g1,hy⟩:=vk.1 hy
   obtain⟨r,g2,rfl⟩:=vn.1 hy
   simp only[DataW.weightsEach,List.mem_append]at hw
   obtain⟨as,s1,l1,r1⟩:=nO (L:=L) m t y g1 n _ (d,p) h1 (fun k hk=>hw k (.inl hk))
   obtain⟨r',e,g3⟩:=kG g2 h2 (fun j t v a b=>hv (j+1) t v a b) (fun k hk=>hw k (.inr hk))
   exact⟨(y.1,as)::r',by rw[List.map_cons,e],.cons s1 (.au (sP g1 l1 (hv 0 t v rfl rfl) r1)) g3⟩
 |[],_::_,_,_,_,_,h,_,_=>h.elim
 |[],[],_::_,_,_,_,h,_,_=>h.elim
 |_::_,[],_,_,_,_,h,_,_=>h.elim
 |_::_,_::_,[],_,_,_,h,_,_=>h.elim
theorem jk:∀{vs:List Value} {r:List (Ty×List AV)},fO L W B vs r→ax L uj (gX W) (r.map jT) vs∧∀x∈r,Sh B x.1 x.2
 |[],[],.nil=>⟨.nil,fun x h=>by cases h⟩
 | v :: vs, x :: r, .cons h1 h2 hr => by
   obtain⟨q1,q2⟩:=jk hr
   exact⟨.cons h2 q1,fun y hy=>by
    rcases vR.1 hy with rfl|hy
    · exact h1
    · exact q2 y hy⟩
theorem jh {W':World} (hl:laidOutB P=true) (hb:Below W.heap.size W W'):∀{ts:List TypeId} {vs:List Value} {ds:List (DataW H)} {ps:List MemPlace},
 ts.all (fun t=>P.readableRec t&&decide (t<P.types.size))=true→DataW.TrodAll enc P W 0 (fun _=>true) true ts vs ds ps→(∀x∈ps,x.block<W.heap.size)→DataW.TrodAll enc P W' 0 (fun b=>decide (b<W.heap.size)) true ts vs ds ps
 |[],[],[],_,_,h,_=>h
 | t :: ts, v :: vs, d :: ds, ps, ht, ⟨p, q, h1, h2, hp⟩, hlt => by
   subst hp
   simp only[List.all_cons,vA,decide_eq_true_eq]at ht
   exact⟨p,q,Below.trod hl ht.1.1 ht.1.2 h1 hb (fun x hx=>hlt x (List.mem_append_left _ hx)),jh hl hb ht.2 h2 (fun x hx=>hlt x (List.mem_append_right _ hx)),rfl⟩
 |[],_::_,_,_,_,h,_=>h.elim
 |[],[],_::_,_,_,h,_=>h.elim
 |_::_,[],_,_,_,h,_=>h.elim
 |_::_,_::_,[],_,_,h,_=>h.elim
end
theorem ui {C : Checked} {L : Lk} {A : a8} (lk : eC L A) (hP : L.P = C.prog) {f : FuncId} {fn : Func} {key : Nat} (hm : L.mf f = some key) {tys : List Ty} {m : Nat} (hty : fg C.prog m fn.params.toList = some tys)
 (hl:laidOutB C.prog=true) (hread:fn.params.toList.all (fun t=>C.prog.readableRec t&&decide (t<C.prog.types.size))=true) {tb:TypeId} (hrt:fn.resultTypes= #[tb]) (hb:C.prog.underlying tb=some .bool)
 {s:ChangeSpec} (hvars:s.vars=[]) (hspec:∀(H:Type) (ds:List (DataW H)),ds.length=tys.length→s.fn H ds={results:=[.lit (.bool true)],args:=ds})
 (law:∀r:List (Ty×List AV),r.map (·.1)=tys→(∀x∈r,Sh reachBytes x.1 x.2)→aR A key (r.map jT) H.empty=some (.bool true,H.empty))
 {H:Type} {enc:TypeId×Value→H} {W:World} {base:Nat} {args:Array Value} {ds gs:List (DataW H)} {before:List MemPlace}
 (hval:∀(j:Nat) t v,fn.params[j]?=some t→args[j]?=some v→Value.okWide C.prog W .any base t v)
 (hW:DataW.Whole enc C.prog fn.params.toList s.vars false W args.toList ds gs before)
 (hsz:(DataW.weightsEach C.prog (fn.params.toList++s.plain.varTypes C.prog) (ds++gs)).all (· ≤reachBytes)=true):
 Calls C.prog f args W fun e W'=>∃v,e=.returned v∧s.post enc C.prog fn false true false false W args v W':=by
 have hW':=hW
 obtain⟨p,q,hA,hV,rfl,hfz,hnd⟩:=hW
 rw[hvars]at hV
 obtain⟨rfl,rfl⟩:=trodVars_none hV
 have hw:∀k∈DataW.weightsEach C.prog fn.params.toList ds,k≤reachBytes:=by
  intro k hk
  have hv0:s.plain.varTypes C.prog=[]:=by
   have:s.plain.vars=[]:=hvars
   unfold DataSpec.varTypes;rw[this];rfl
  rw[hv0,List.append_nil,List.append_nil]at hsz
  simpa using List.all_eq_true.1 hsz k hk
 obtain⟨r,hr,hs⟩:=kG (L:=L) (base:=base) hty hA (fun j t v a b=>hval j t v (by simpa using a) (by simpa using b)) hw
 obtain⟨hrow,hsh⟩:=jk hs
 have hlen:ds.length=tys.length:=by
  have a1:∀{ts:List TypeId} {vs:List Value} {ds:List (DataW H)} {ps:List MemPlace},DataW.TrodAll enc C.prog W 0 (fun _=>true) true ts vs ds ps→ds.length=ts.length:=by
   intro ts
   induction ts with
   |nil=>intro vs ds ps h;cases vs<;>cases ds<;>first|rfl|exact h.elim
   |cons t ts ih=>intro vs ds ps h;cases vs<;>cases ds<;>first|exact h.elim|(obtain⟨_,_,_,h2,_⟩:=h;simp [ih h2])
  have a2:∀{ts:List TypeId} {ys:List Ty},fg C.prog m ts=some ys→ys.length=ts.length:=by
   intro ts
   induction ts with
   |nil=>intro ys h;obtain rfl:=vm h;rfl
   | cons t ts ih =>
     intro ys h
     unfold fg at h
     obtain⟨y,_,h⟩:=vk.1 h
     obtain⟨z,g2,rfl⟩:=vn.1 h
     simp [ih g2]
  rw[a1 hA,a2 hty]
 have key:=lX lk (f:=key) (fid:=f) (args:=r.map jT) (vals:=args.toList) (M:=gX W) (W:=W) hm (fun _ _ _ h=>h) (law r hr hsh) hrow
 rw[hP]at key
 have ea:args.toList.toArray=args:=by simp
 rw[ea]at key
 simp only[List.append_nil]at hW'
 refine key.mono fun e W' ⟨he,hb'⟩=> ?_
 subst he
 have e1:=hspec H (ds++[]) (by simpa using hlen)
 refine⟨_,rfl,lU (pa:=p) (pv:=[]) hW' hb' hrt (fun _ _ _=>shut_bool hb true) (by rw[e1]) (by rw[e1];simpa using jh hl hb' hread hA (fun x hx=>by simpa using hW'.lt x hx)) ?_⟩
 rw[e1,hvars];rfl
theorem tY {α β:Type} {x y:Option α} (f:α→Option β) (h:x=y):x.bind f=y.bind f:=by rw[h]
@[simp] theorem tI (t : Nat) : look [] t = .bot := rfl
@[simp] theorem sD (s t : Nat) (v : AV) (r : Env) : look ((s, v) :: r) t = if s = t then v else look r t := rfl
@[simp] theorem sE (e : Env) : ay e [] = [] := rfl
@[simp] theorem rT (e : Env) (t : Nat) (r : List Nat) : ay e (t :: r) = (t, look e t) :: ay e r := rfl
@[simp] theorem ve (e : Env) (n : Nat) : (X.t n).ev e = look e n := rfl
@[simp] theorem vb (e : Env) (v : AV) : (X.c v).ev e = v := rfl
@[simp] theorem qC (agg : Bool) (n id off : Nat) (h : H) : bP agg n (.aE id off) h = (h.get id).bind fun cs => gP agg n cs off := rfl
@[simp] theorem qB (agg : Bool) (n off : Nat) (cs : List AV) (h : H) : bP agg n (.aK cs off) h = gP agg n cs off := rfl
@[simp] theorem p7 (n id off : Nat) (v : AV) (h : H) : cR n (.aE id off) v h = (h.get id).bind fun cs =>
 if h.floor≤id∧v.cells.length=n∧off+n≤cs.length∧AV.aC v.cells=true then some (h.set id (setFrom cs off v.cells))else none:=rfl
@[simp] theorem u0 (n : Nat) (cs : List AV) (off : Nat) : gP false n cs off = cs[off]? := rfl
section
variable (k:IntKind) (a b:Int)
@[simp] theorem mh : bj .add (.int k a) (.int k b) = some (.int k (k.wrap (a + b))) := by simp [bj, a9]
@[simp] theorem mG : bj .sub (.int k a) (.int k b) = some (.int k (k.wrap (a - b))) := by simp [bj, a9]
@[simp] theorem mD : bj .mul (.int k a) (.int k b) = some (.int k (k.wrap (a * b))) := by simp [bj, a9]
@[simp] theorem mC : bj .lss (.int k a) (.int k b) = some (.bool (decide (a < b))) := by simp [bj, a9]
@[simp] theorem my : bj .leq (.int k a) (.int k b) = some (.bool (decide (a ≤ b))) := by simp [bj, a9]
@[simp] theorem mw : bj .gtr (.int k a) (.int k b) = some (.bool (decide (a > b))) := by simp [bj, a9]
@[simp] theorem mu : bj .geq (.int k a) (.int k b) = some (.bool (decide (a ≥ b))) := by simp [bj, a9]
@[simp] theorem mq : bj .eql (.int k a) (.int k b) = some (.bool (a == b)) := by simp [bj, a9]
@[simp] theorem mE : bj .neq (.int k a) (.int k b) = some (.bool (a != b)) := by simp [bj, a9]
@[simp] theorem mo : bj .and (.int k a) (.int k b) = some (.int k (bits .and k a b)) := by simp [bj, a9]
@[simp] theorem nY : bj .or (.int k a) (.int k b) = some (.int k (bits .or k a b)) := by simp [bj, a9]
@[simp] theorem mH : bj .xor (.int k a) (.int k b) = some (.int k (bits .xor k a b)) := by simp [bj, a9]
theorem sK (h:b≠0):bj .quo (.int k a) (.int k b)=some (.int k (k.wrap (a.tdiv b))):=by simp [bj,a9,h]
theorem sM (h:b≠0):bj .rem (.int k a) (.int k b)=some (.int k (a.tmod b)):=by simp [bj,a9,h]
end
@[simp] theorem k9 (k : IntKind) (n : Int) : (AV.int k n).cells = [.int k n] := rfl
@[simp] theorem jW (b : Bool) : (AV.bool b).cells = [.bool b] := rfl
@[simp] theorem lh (b : ByteArray) : (AV.str b).cells = [.str b] := rfl
@[simp] theorem jZ (i o : Nat) : (AV.aE i o).cells = [.aE i o] := rfl
@[simp] theorem j0 (i o l z : Nat) : (AV.aF i o l z).cells = [.aF i o l z] := rfl
@[simp] theorem jY : AV.aP.cells = [.aP] := rfl
@[simp] theorem jX : AV.cm.cells = [.cm] := rfl
@[simp] theorem kZ (c : List AV) : (AV.agg c).cells = c := rfl
@[simp] theorem sf : AV.aC [] = true := rfl
@[simp] theorem qA (v : AV) (r : List AV) : AV.aC (v :: r) = (v.sc && AV.aC r) := rfl
@[simp] theorem qo (cs : List AV) (off : Nat) : setFrom cs off [] = cs := rfl
@[simp] theorem pO (cs : List AV) (off : Nat) (v : AV) (r : List AV) : setFrom cs off (v :: r) = setFrom (cs.set off v) (off + 1) r := rfl
@[simp] theorem rY (k : IntKind) (n : Int) : (AV.int k n).sc = true := rfl
@[simp] theorem pI (b : Bool) : (AV.bool b).sc = true := rfl
@[simp] theorem rZ (b : ByteArray) : (AV.str b).sc = true := rfl
@[simp] theorem pM (i o : Nat) : (AV.aE i o).sc = true := rfl
@[simp] theorem pN (i o l z : Nat) : (AV.aF i o l z).sc = true := rfl
@[simp] theorem pK : AV.aP.sc = true := rfl
@[simp] theorem pJ : AV.cm.sc = true := rfl
@[simp] theorem qm (d : Nat) (v : AV) (e : Env) : aM (some d) v e = (d, v) :: e := rfl
@[simp] theorem qk (v : AV) (e : Env) : aM none v e = e := rfl
@[simp] theorem qp (call : ah) (ops : List ak) (e : Env) (gs : List H) : aZ call ops e gs [] = true := rfl
@[simp] theorem qx (off id o : Nat) : fj off (.aE id o) = some (.aE id (o + off)) := rfl
@[simp] theorem qw (off o : Nat) (c : List AV) : fj off (.aK c o) = some (.aK c (o + off)) := rfl
@[simp] theorem pY (n sz id off : Nat) (i : AV) : cQ n sz (.aE id off) i = (cN i n).bind fun j => some (.aE id (off + j * sz)) := rfl
@[simp] theorem pX (n sz off : Nat) (c : List AV) (i : AV) : cQ n sz (.aK c off) i = (cN i n).bind fun j => some (.aK c (off + j * sz)) := rfl
noncomputable def Lp (A:a8) (xc:List Nat) (c:aG) (e:Env) (h:H):dE:=bp (fun e h=>aL (aR A) bp c (ay e xc) h) e h
theorem sX (A:a8) (xc:List Nat) (c:aG) (e:Env) (h:H):aL (aR A) bp (.loop xc c) e h=Lp A xc c e h:=rfl
theorem tX {A:a8} {xc:List Nat} {c:aG} {e e':Env} {h h':H} {r} (h1:aL (aR A) bp c (ay e xc) h=some (.normal,e',h')) (h2:Lp A xc c e' h'=some r):Lp A xc c e h=some r:=jA h1 h2
theorem tW {A:a8} {xc:List Nat} {c:aG} {e e':Env} {h h':H} {i:Nat} (h1:aL (aR A) bp c (ay e xc) h=some (.exit i,e',h')):Lp A xc c e h=some (.exit i,e',h'):=ke h1
theorem uz {A:a8} {xc:List Nat} {c:aG} {e e':Env} {h h':H} (h1:aL (aR A) bp c (ay e xc) h=some (.ret,e',h')):Lp A xc c e h=some (.ret,e',h'):=lK h1
theorem u4 {c:ah} {l:bG} {a b:aG} {e e1:Env} {h h1:H} {r} (h1':aL c l a e h=some (.normal,e1,h1)) (h2:aL c l b e1 h1=some r):aL c l (.seq a b) e h=some r:=by
 simp only[aL,h1',vu];exact h2
theorem u6 {c:ah} {l:bG} {a b:aG} {e e1:Env} {h h1:H} {i:Nat} (h1':aL c l a e h=some (.exit i,e1,h1)):aL c l (.seq a b) e h=some (.exit i,e1,h1):=by
 simp only[aL,h1',vu]
theorem u5 {c:ah} {l:bG} {a b:aG} {e e1:Env} {h h1:H} (h1':aL c l a e h=some (.ret,e1,h1)):aL c l (.seq a b) e h=some (.ret,e1,h1):=by
 simp only[aL,h1',vu]
theorem qD {A:a8} {id:Nat} {k xc:List Nat} {c:aG} {e e1:Env} {h h1:H} (hl:Lp A xc c e h=some (.exit id,e1,h1)):aL (aR A) bp (.block id (.loop xc c) k) e h=some (.normal,ay e1 k,h1):=by
 simp only[aL,vk]
 exact⟨_,hl,by simp⟩
theorem uL {A:a8} {f:Nat} {fn:fh} {args:List AV} {h h2:H} {e:Env} {vs:List AV} {v:AV} (hf:A f=some fn) (hnp:args.length=fn.np) (hp:fn.pure=true)
 (hx:aL (aR A) bp fn.body (params 0 args) h.dQ=some (.ret,e,h2)) (hres:cu e h2 fn.res=some vs) (hs:snap h2.get h.next 16 true (dj vs)=some v):aR A f args h=some (v,h):=by
 refine kJ hf ?_
 unfold fe
 rw[if_pos hnp]
 simp only[hp,if_true,hx,vu,fin,hres,gR,hs]
theorem um {A:a8} {f:Nat} {fn:fh} {args:List AV} {h h2:H} {e:Env} {vs:List AV} (hf:A f=some fn) (hnp:args.length=fn.np) (hp:fn.pure=false)
 (hx:aL (aR A) bp fn.body (params 0 args) h=some (.ret,e,h2)) (hres:cu e h2 fn.res=some vs):aR A f args h=some (dj vs,h2):=by
 refine kJ hf ?_
 unfold fe
 rw[if_pos hnp]
 simp [hp,hx,fin,hres]
theorem gp {c:ah}:∀(os:List ak) (e:Env) (h:H),aw c os e h=(aN c os e h).bind fun r=>some (r.1,r.2.1)
 |[],_,_=>rfl
 | o :: os, e, h => by
   simp only[aw,aN]
   cases hv:aj c o e h with
   |none=>rfl
   | some r =>
     simp only[vu]
     rw[gp os]
     cases aN c os (aM o.dst r.1 e) r.2<;>rfl
section
variable (c:ah) (l:bG) (e:Env) (h:H)
theorem ua (ops:List ak) (xc:List Nat):aL c l (.pC ops xc) e h=(aw c ops e h).bind fun r=>some (.normal,ay r.1 xc,r.2):=by rw[aL]
theorem lq (ord:List Nat) (ops:List ak) (xc:List Nat):aL c l (.iW ord ops [] xc) e h=(aw c ops e h).bind fun r=>some (.normal,ay r.1 xc,r.2):=by
 rw[gp]
 simp only[aL]
 cases aN c ops e h<;>simp
theorem ub (a b:aG):aL c l (.seq a b) e h=(aL c l a e h).bind fun r=>match r with|(.normal,e',h')=>aL c l b e' h'|r=>some r:=by rw[aL];rfl
theorem sW (x:X) (a b:aG) (xc:List Nat):aL c l (.cond x a b xc) e h=match x.ev e with
 | .bool t=>(if t then aL c l a e h else aL c l b e h).bind fun r=>match r with|(.normal,e',h')=>some (.normal,ay e' xc,h')|r=>some r
 |_=>none:=by rw[aL];rfl
theorem su (id:Nat) (x:aG) (xc:List Nat):aL c l (.block id x xc) e h=(aL c l x e h).bind fun r=>match r with
 |(.normal,e',h')=>some (.normal,ay e' xc,h')
 |(.exit j,e',h')=>if j=id then some (.normal,ay e' xc,h')else some (.exit j,e',h')
 |(.ret,e',h')=>some (.ret,e',h'):=by rw[aL];rfl
theorem nj:aL c l .skip e h=some (.normal,e,h):=by rw[aL]
theorem ot:aL c l .ret e h=some (.ret,e,h):=by rw[aL]
theorem ni (i:Nat):aL c l (.exit i) e h=some (.exit i,e,h):=by rw[aL]
end
def I (n:Int):AV:=.int .i64 n
theorem uw {n:Int} (h1: -9223372036854775808≤n) (h2:n<9223372036854775808):IntKind.wrap .i64 n=n:=by
 have e:IntKind.wrap .i64 n=if n%18446744073709551616≥9223372036854775808 then n%18446744073709551616-18446744073709551616 else n%18446744073709551616:=by
  simp [IntKind.wrap,IntKind.bits,IntKind.signed]
 rw[e];split<;>omega
def nU (n:Nat) (C:Nat→AV):List AV:=(List.range n).map C
def uP (C:Nat→AV) (i:Nat) (v:AV):Nat→AV:=fun j=>if j=i then v else C j
@[simp] theorem r8 (n : Nat) (C : Nat → AV) : (nU n C).length = n := by simp [nU]
theorem fN {n:Nat} {C:Nat→AV} {i:Nat} (h:i<n):(nU n C)[i]?=some (C i):=by simp [nU,h]
@[simp] theorem qt {n : Nat} {C : Nat → AV} {i : Nat} (h : i < (nU n C).length) : (nU n C)[i] = C i := by simp [nU]
theorem uu {n:Nat} {C:Nat→AV} {i:Nat} (h:i<n) (v:AV):(nU n C).set i v=nU n (uP C i v):=by
 apply List.ext_getElem?
 intro j
 by_cases hj:j<n
 · by_cases e:j=i
   · subst e;rw[vO (by simpa using hj),fN hj];simp [uP]
   · rw[List.getElem?_set_ne (by omega),fN hj,fN hj];simp [uP,e]
 · rw[List.getElem?_eq_none (by simp;omega),List.getElem?_eq_none (by simp;omega)]
theorem uo {n:Nat} {C:Nat→AV} {i k:Nat} (h:i<n):gP false k (nU n C) i=some (C i):=fN h
def ints (l:List Int):List AV:=l.map I
@[simp] theorem qg (l : List Int) : (ints l).length = l.length := by simp [ints]
theorem tG {l:List Int} {i:Nat} {x:Int} (h:l[i]?=some x):(ints l)[i]?=some (I x):=by simp [ints,h]
theorem jO:∀l:List Int,AV.aC (ints l)=true
 |[]=>rfl
 |x::l=>by simp [ints,AV.aC,I,AV.sc];exact jO l
theorem qf (a b:List Int):ints (a++b)=ints a++ints b:=by simp [ints]
def Rd (h:H) (v:AV) (cs:List AV):Prop:=aS h 1 v=some (cs.length,cs)∧∀s,v≠.str s
theorem Rd.len {h:H} {v:AV} {cs:List AV} (r:Rd h v cs):jg false v=some (I cs.length):=by
 obtain⟨r,hs⟩:=r
 unfold aS at r
 split at r
 · obtain⟨h1,h2⟩:=vo (vm r);subst h2;rfl
 · exact absurd rfl (hs _)
 · split at r
   · simp only[vk]at r
     obtain⟨c,_,r⟩:=r
     split at r
     · obtain⟨h1,h2⟩:=vo (vm r);simp [jg,I,h1]
     · cases r
   · cases r
 · split at r
   · split at r
     · obtain⟨h1,h2⟩:=vo (vm r);simp [jg,I,h1]
     · cases r
   · cases r
 · cases r
theorem Rd.mono {h g:H} {v:AV} {cs:List AV} (r:Rd h v cs) (hg:∀id c,h.get id=some c→g.get id=some c):Rd g v cs:=by
 obtain⟨r,hs⟩:=r
 refine⟨?_,hs⟩
 unfold aS at r ⊢
 split at r
 · exact r
 · exact r
 · split at r
   · rename_i q;simp only[if_pos q,vk]at r ⊢
     obtain⟨c,h1,r⟩:=r
     exact⟨c,hg _ _ h1,r⟩
   · cases r
 · exact r
 · cases r
theorem kE {i n:Nat} (h:i<n):cN (I i) n=some i:=by
 simp [cN,n7,I];omega
theorem Rd.elem {h : H} {v : AV} {cs : List AV} (r : Rd h v cs) {i : Nat} {c : AV} (hc : cs[i]? = some c) : ∃ p, fP 1 v (I i) = some p ∧ ∀ g : H, (∀ id c, h.get id = some c → g.get id = some c) → bP false 1 p g = some c := by
 obtain⟨r,hs⟩:=r
 have hi:i<cs.length:=(vt.1 hc).1
 unfold aS at r
 split at r
 · obtain⟨h1,h2⟩:=vo (vm r);subst h2;simp at hi
 · exact absurd rfl (hs _)
 · rename_i id off len s
   split at r
   · rename_i q
     subst q
     simp only[vk]at r
     obtain⟨d,hd,r⟩:=r
     split at r
     · obtain⟨h1,h2⟩:=vo (vm r)
       refine⟨.aE id (off+i),by simp [fP,kE (h1 ▸ hi)],fun g hg=> ?_⟩
       simp only[bP,hg _ _ hd,vu,gP,vw,vS]
       rw[←h2,vU]at hc
       split at hc
       · rwa [vL]at hc
       · cases hc
     · cases r
   · cases r
 · rename_i t cells off len s
   split at r
   · rename_i q
     subst q
     split at r
     · obtain⟨h1,h2⟩:=vo (vm r)
       refine⟨.aK cells (off+i),by simp [fP,kE (h1 ▸ hi)],fun g hg=> ?_⟩
       simp only[bP,gP,vw,vS]
       rw[←h2,vU]at hc
       split at hc
       · rwa [vL]at hc
       · cases hc
     · cases r
   · cases r
 · cases r
def nT (h:H) (v:AV) (cs:List AV):Prop:=(v=.aP∧cs=[])∨∃id,v=.aF id 0 cs.length 1∧h.get id=some cs∧h.floor≤id∧cs≠[]
theorem nT.mono {h g:H} {v:AV} {cs:List AV} (o:nT h v cs) (hf:g.floor=h.floor) (hg:∀i,v.id?=some i→g.get i=h.get i):nT g v cs:=by
 rcases o with o|⟨id,rfl,h1,h2,h3⟩
 · exact .inl o
 · exact .inr ⟨id,rfl,by rw[hg id rfl];exact h1,by rw[hf];exact h2,h3⟩
theorem nT.sc {h:H} {v:AV} {cs:List AV} (o:nT h v cs):v.sc=true:=by
 rcases o with ⟨rfl,_⟩|⟨id,rfl,_⟩<;>rfl
theorem nT.lt {h:H} {v:AV} {cs:List AV} (o:nT h v cs) {i:Nat} (hi:v.id?=some i):i<h.next:=by
 rcases o with ⟨rfl,_⟩|⟨id,rfl,h1,_⟩
 · cases hi
 · obtain rfl:=vm hi;exact h.lt _ _ h1
theorem nT.app {h:H} {v:AV} {cs:List AV} (o:nT h v cs) (hfn:h.floor≤h.next) {z:Nat} (c:AV) (hc:c.sc=true) (hr:roomy z (cs.length+1)=true):
 ∃v' h',dM h 1 z v 1 [c]=some (v',h')∧nT h' v' (cs++[c])∧h'.floor=h.floor∧h.next≤h'.next∧(∀i,v.id?≠some i→i≠h.next→h'.get i=h.get i)∧v'.id?=some h.next:=by
 have ha:AV.aC [c]=true:=by simp [AV.aC,hc]
 rcases o with ⟨rfl,rfl⟩|⟨id,rfl,hg,hf,hne⟩
 · refine⟨.aF h.next 0 1 1,h.alloc [c], ?_,.inr ⟨h.next,rfl,by simp [H.aW], ?_,by simp⟩,by simp,by simp,fun i _ hi=>by rw[H.aW,if_neg hi],rfl⟩
   · unfold dM
     rw[if_neg (by omega),if_neg (by simp [ha])]
     simp only[List.length_nil,vF]at hr
     simp only[hr,if_true]
   · simp;omega
 · refine⟨.aF h.next 0 (cs.length+1) 1,(h.del id).alloc (cs++[c]), ?_,.inr ⟨h.next,by simp,by simp [H.aW], ?_,by simp⟩,by simp,by simp,fun i h1 h2=> ?_,rfl⟩
   · unfold dM
     rw[if_neg (by omega),if_neg (by simp [ha])]
     simp only[hf,and_self,if_true,hg,vu]
     rw[if_neg (by omega),if_pos ⟨by omega,hr⟩]
     simp
   · have:=h.lt id cs hg;simp;omega
   · rw[H.aW,H.jB,if_neg h2,H.dU,if_neg]
     intro e;subst e;exact h1 rfl
def dg (h:H) (p:Option AV):Option (AV×H):=p.bind fun v=>some (v,h)
theorem rU (h:H) (v:AV):dg h (some v)=some (v,h):=vq rfl rfl
def tT (h:H) (neg:Bool) (p:Option Bool):Option (AV×H):=p.bind fun b=>some (pV neg b,h)
theorem rV (h:H) (neg b:Bool):tT h neg (some b)=some (pV neg b,h):=vq rfl rfl
theorem tU (b:Bool):pV false b=.bool b:=vq rfl rfl
theorem tV (b:Bool):pV true b=.bool (!b):=vq rfl rfl
def rW (p:Option H):Option (AV×H):=p.bind fun h=>some (.bot,h)
theorem rX (h:H):rW (some h)=some (.bot,h):=vq rfl rfl
def nL (h:H) (a b:AV) (c:AV):Option (AV×H):=match c with| .bool t=>some (if t then a else b,h)|_=>none
theorem py (h:H) (a b:AV):nL h a b (.bool true)=some (a,h):=vq rfl rfl
theorem px (h:H) (a b:AV):nL h a b (.bool false)=some (b,h):=vq rfl rfl
def jD (h:H) (c:AV):Option (AV×H):=match c with| .aE i o=>some (.aE i o,h)| .aK c o=>some (.aK c o,h)| .fn f a b=>some (.fn f a b,h)| .iface t v=>some (.iface t v,h)|_=>none
theorem oO (h:H) (i o:Nat):jD h (.aE i o)=some (.aE i o,h):=vq rfl rfl
theorem oM (h:H) (c:List AV) (o:Nat):jD h (.aK c o)=some (.aK c o,h):=vq rfl rfl
theorem oL (h:H) (f:Nat) (a b:List AV):jD h (.fn f a b)=some (.fn f a b,h):=vq rfl rfl
theorem oN (h:H) (t:Nat) (v:AV):jD h (.iface t v)=some (.iface t v,h):=vq rfl rfl
def tK (h:H) (c:AV):Option (AV×H):=match c with| .bool b=>some (.bool (!b),h)|_=>none
theorem ru (h:H) (b:Bool):tK h (.bool b)=some (.bool (!b),h):=vq rfl rfl
def tJ (h:H) (c:AV):Option (AV×H):=match c with| .int k n=>some (.int k (k.wrap (0-n)),h)|_=>none
theorem uJ (h:H) (k:IntKind) (n:Int):tJ h (.int k n)=some (.int k (k.wrap (0-n)),h):=vq rfl rfl
def tH (h:H) (c:AV):Option (AV×H):=match c with| .int k n=>some (.int k (bits .xor k (if k.signed then-1 else k.max) n),h)|_=>none
theorem uI (h:H) (k:IntKind) (n:Int):tH h (.int k n)=some (.int k (bits .xor k (if k.signed then-1 else k.max) n),h):=vq rfl rfl
def p8 (h:H) (k:IntKind) (c:AV):Option (AV×H):=match c with| .int _ n=>some (.int k (k.wrap n),h)|_=>none
theorem om (h:H) (j k:IntKind) (n:Int):p8 h k (.int j n)=some (.int k (k.wrap n),h):=vq rfl rfl
def qn (h:H) (c:AV):Option (AV×H):=match c with| .str s=>some (.str s,h)|_=>none
theorem pH (h:H) (s:ByteArray):qn h (.str s)=some (.str s,h):=vq rfl rfl
def sV (h:H) (neg:Bool) (a b:AV):Option (AV×H):=match a,b with| .bool a,.bool b=>some (pV neg (a==b),h)|_,_=>none
theorem uF (h:H) (neg a b:Bool):sV h neg (.bool a) (.bool b)=some (pV neg (a==b),h):=vq rfl rfl
def qc (h:H) (i:Nat) (v:AV):Option (AV×H):=match v with| .bL vs=>dg h (vs[i]?)|_=>none
theorem oA (h:H) (i:Nat) (vs:List AV):qc h i (.bL vs)=dg h (vs[i]?):=vq rfl rfl
def s6 (h:H) (agg:Bool) (off n:Nat) (v:AV):Option (AV×H):=match v with| .agg cs=>dg h (gP agg n cs off)|_=>none
theorem qR (h:H) (agg:Bool) (off n:Nat) (cs:List AV):s6 h agg off n (.agg cs)=dg h (gP agg n cs off):=vq rfl rfl
def nQ (h:H) (t:Nat) (v:AV):Option (AV×H):=match v with| .iface u v=>if u=t then some (v,h)else none|_=>none
theorem pT (h:H) (t:Nat) (v:AV):nQ h t (.iface t v)=some (v,h):=by simp [nQ]
def kI (c:ah) (args:List AV) (h:H) (f:AV):Option (AV×H):=match f with| .fn k first captured=>c k (first++args++captured) h|_=>none
theorem oh (c:ah) (args:List AV) (h:H) (k:Nat):kI c args h (.fn k [] [])=c k args h:=by simp [kI]
theorem mY (c:ah) (args:List AV) (h:H) (k:Nat) (f g:List AV):kI c args h (.fn k f g)=c k (f++args++g) h:=vq rfl rfl
def eH (h:H) (p:Option (List AV×(Nat→AV))):Option (AV×H):=p.bind fun b=>some (b.2 h.next,h.alloc b.1)
theorem mS (h:H) (cs:List AV) (f:Nat→AV):eH h (some (cs,f))=some (f h.next,h.alloc cs):=vq rfl rfl
def sN (h:H) (p:Option (List AV)):Option (AV×H):=p.bind fun cs=>some (.agg cs,h)
theorem qy (h:H) (cs:List AV):sN h (some cs)=some (.agg cs,h):=vq rfl rfl
def uD (h:H) (x:AV) (p:Option (Nat×List AV)):Option (AV×H):=p.bind fun q=>(kW q.2).bind fun l=>match x with| .str _=>none|_=>some (.str ⟨l.toArray⟩,h)
section
variable (c:ah) (e:Env) (h:H)
theorem tL (x:X):ai c e h (.mv x)=some (x.ev e,h):=vq rfl rfl
theorem ph (x a b:X):ai c e h (.pick x a b)=nL h (a.ev e) (b.ev e) (x.ev e):=vq rfl rfl
theorem gM (z:List AV):ai c e h (.alloc z)=eH h (aY e (.alloc z)):=vq rfl rfl
theorem iZ (n:Nat) (x:X):ai c e h (.box n x)=eH h (aY e (.box n x)):=vq rfl rfl
theorem fG (a b:Nat) (z:List AV) (ps):ai c e h (.cC a b z ps)=eH h (aY e (.cC a b z ps)):=vq rfl rfl
theorem gY (a b:Nat) (z:List AV) (x y:X):ai c e h (.iY a b z x y)=eH h (aY e (.iY a b z x y)):=vq rfl rfl
theorem oR (x:X):ai c e h (.pG x)=eH h (aY e (.pG x)):=vq rfl rfl
theorem nC (z:List AV) (ps:List (Nat×Nat×X)):ai c e h (.build z ps)=sN h (dR z (ps.map fun p=>(p.1,p.2.1,p.2.2.ev e))):=vq rfl rfl
theorem pc (agg:Bool) (n:Nat) (p:X):ai c e h (.load agg n p)=dg h (bP agg n (p.ev e) h):=vq rfl rfl
theorem nF (n:Nat) (p v:X):ai c e h (.store n p v)=rW (cR n (p.ev e) (v.ev e) h):=vq rfl rfl
theorem pg (x:X):ai c e h (.oK x)=jD h (x.ev e):=vq rfl rfl
theorem rE (o:Bo) (x y:X):ai c e h (.bin o x y)=dg h (bj o (x.ev e) (y.ev e)):=vq rfl rfl
theorem rH (k:Nat) (neg:Bool) (x y:X):ai c e h (.lj k neg x y)=tT h neg (fE k (x.ev e) (y.ev e)):=vq rfl rfl
theorem rG (neg:Bool) (x y:X):ai c e h (.sU neg x y)=sV h neg (x.ev e) (y.ev e):=vq rfl rfl
theorem rN (x:X):ai c e h (.not x)=tK h (x.ev e):=vq rfl rfl
theorem rM (x:X):ai c e h (.neg x)=tJ h (x.ev e):=vq rfl rfl
theorem rJ (x:X):ai c e h (.inv x)=tH h (x.ev e):=vq rfl rfl
theorem oU (k:IntKind) (x:X):ai c e h (.conv k x)=p8 h k (x.ev e):=vq rfl rfl
theorem pk (x:X):ai c e h (.same x)=qn h (x.ev e):=vq rfl rfl
theorem rD (x:X):ai c e h (.kW x)=uD h (x.ev e) (aS h 1 (x.ev e)):=vq rfl rfl
theorem pf (t:Nat) (x:X):ai c e h (.oJ t x)=if(x.ev e).sc then some (.iface t (x.ev e),h)else none:=vq rfl rfl
theorem pd (f:Nat) (a b:List X):ai c e h (.oI f a b)=some (.fn f (aX e a) (aX e b),h):=vq rfl rfl
theorem rP (x:X) (lo hi:Option X):ai c e h (.uq x lo hi)=dg h (n8 (x.ev e) (lo.map (X.ev e)) (hi.map (X.ev e))):=vq rfl rfl
theorem tM (sz:Nat) (x:X) (lo hi mx:Option X):ai c e h (.sl sz x lo hi mx)=dg h (sQ h sz (x.ev e) (lo.map (X.ev e)) (hi.map (X.ev e)) (mx.map (X.ev e))):=vq rfl rfl
theorem rO (n sz:Nat) (x:X) (lo hi:Option X):ai c e h (.sF n sz x lo hi)=dg h (mQ h n sz (x.ev e) (lo.map (X.ev e)) (hi.map (X.ev e))):=vq rfl rfl
theorem oX (off:Nat) (x:X):ai c e h (.oB off x)=dg h (fj off (x.ev e)):=vq rfl rfl
theorem rI (agg:Bool) (off n:Nat) (x:X):ai c e h (.uc agg off n x)=s6 h agg off n (x.ev e):=vq rfl rfl
theorem oY (sz:Nat) (x i:X):ai c e h (.oC sz x i)=dg h (fP sz (x.ev e) (i.ev e)):=vq rfl rfl
theorem nE (n sz:Nat) (x i:X):ai c e h (.kM n sz x i)=dg h (cQ n sz (x.ev e) (i.ev e)):=vq rfl rfl
theorem o0 (x i:X):ai c e h (.idxs x i)=dg h (mK (x.ev e) (i.ev e)):=vq rfl rfl
theorem oZ (agg:Bool) (n sz:Nat) (x i:X):ai c e h (.oF agg n sz x i)=dg h (mJ agg n sz (x.ev e) (i.ev e)):=vq rfl rfl
theorem oW (x:X) (i:Nat):ai c e h (.oz x i)=qc h i (x.ev e):=vq rfl rfl
def nr (c:ah) (h:H) (t f:Nat) (d:Bool) (xs:List AV) (v:AV):Option (AV×H):=match v with| .iface u v=>if u=t then(hX d v h).bind fun x=>c f (x::xs) h else none|_=>none
def qZ (c:ah) (h:H) (f:Nat) (xs:List AV) (p:Option AV):Option (AV×H):=p.bind fun x=>c f (x::xs) h
theorem rh (c:ah) (h:H) (f:Nat) (xs:List AV) (x:AV):qZ c h f xs (some x)=c f (x::xs) h:=rfl
theorem qX (c:ah) (h:H) (t f:Nat) (xs:List AV) (v:AV):nr c h t f false xs (.iface t v)=c f (v::xs) h:=by simp [nr,hX]
theorem qY (c:ah) (h:H) (t f:Nat) (xs:List AV) (v:AV):nr c h t f true xs (.iface t v)=qZ c h f xs (bP false 1 v h):=by simp [nr,hX,qZ]
theorem po (x:X) (t:Nat):ai c e h (.pS x t)=nQ h t (x.ev e):=vq rfl rfl
theorem pb (r:X) (t f:Nat) (d:Bool) (xs:List X):ai c e h (.inv2 r t f d xs)=nr c h t f d (aX e xs) (r.ev e):=vq rfl rfl
theorem oT (f:X) (args:List X):ai c e h (.call f args)=kI c (aX e args) h (f.ev e):=vq rfl rfl
theorem ry (a b:Nat) (x y:X):ai c e h (.app a b x y)=kS h a b (x.ev e) (y.ev e):=vq rfl rfl
theorem oQ (a b:Nat) (z:List AV) (x y:X):ai c e h (.jP a b z x y)=g9 h a b z (x.ev e) (y.ev e):=vq rfl rfl
theorem rK (s:Bool) (x:X):ai c e h (.len s x)=dg h (jg s (x.ev e)):=vq rfl rfl
theorem rF (x:X):ai c e h (.cap x)=dg h (qv (x.ev e)):=vq rfl rfl
theorem oV (n:Nat) (x y:X):ai c e h (.copy n x y)=hH h n (x.ev e) (y.ev e):=vq rfl rfl
theorem nD (n:Nat) (z:List AV) (x:X):ai c e h (.clear n z x)=rW (eE h n z (x.ev e)):=vq rfl rfl
end
theorem mP (e:Env):aX e []=[]:=vq rfl rfl
theorem kT (e:Env) (x:X) (r:List X):aX e (x::r)=x.ev e::aX e r:=vq rfl rfl
def uG (c:ah) (d:Option Nat) (r:List ak) (e:Env) (p:Option (AV×H)):Option (Env×H):=p.bind fun q=>aw c r (aM d q.1 e) q.2
theorem tz (c:ah) (d:Option Nat) (r:List ak) (e:Env) (v:AV) (h:H):uG c d r e (some (v,h))=aw c r (aM d v e) h:=vq rfl rfl
def lH (w:Bool) (c:ah) (e:Env) (h:H) (op:bT) (g:AV):Option (AV×H):=match g with| .bool b=>if b=w then ai c e h op else some (.bL [],h)| .bL []=>some (.bL [],h)|_=>none
theorem qW (c:ah) (e:Env) (h:H) (op:bT):lH true c e h op (.bool true)=ai c e h op:=by simp [lH]
theorem qT (c:ah) (e:Env) (h:H) (op:bT):lH false c e h op (.bool false)=ai c e h op:=by simp [lH]
theorem qV (c:ah) (e:Env) (h:H) (op:bT):lH true c e h op (.bool false)=some (.bL [],h):=by simp [lH]
theorem qU (c:ah) (e:Env) (h:H) (op:bT):lH false c e h op (.bool true)=some (.bL [],h):=by simp [lH]
theorem td (w:Bool) (c:ah) (e:Env) (h:H) (op:bT):lH w c e h op (.bL [])=some (.bL [],h):=by simp [lH]
theorem nk (c:ah) (d:Option Nat) (op:bT) (g:Nat) (w:Bool) (e:Env) (h:H):aj c ⟨d,op,some (g,w)⟩ e h=lH w c e h op (look e g):=by
 unfold aj lH
 dsimp only
 cases look e g with
 |bL vs=>cases vs<;>rfl
 |_=>rfl
theorem pr (c:ah) (e:Env) (h:H):aw c [] e h=some (e,h):=vq rfl rfl
theorem tO (c:ah) (d:Option Nat) (op:bT) (r:List ak) (e:Env) (h:H):aw c (⟨d,op,none⟩::r) e h=uG c d r e (ai c e h op):=vq rfl rfl
theorem tN (c:ah) (d:Option Nat) (op:bT) (g:Nat) (w:Bool) (r:List ak) (e:Env) (h:H):aw c (⟨d,op,some (g,w)⟩::r) e h=uG c d r e (lH w c e h op (look e g)):=by
 rw[aw,nk];rfl
def uH (xc:List Nat) (p:Option (Env×H)):dE:=p.bind fun q=>some (.normal,ay q.1 xc,q.2)
theorem tA (xc:List Nat) (e:Env) (h:H):uH xc (some (e,h))=some (.normal,ay e xc,h):=vq rfl rfl
def uf (c:ah) (l:bG) (b:aG) (p:dE):dE:=p.bind fun r=>match r with|(.normal,e',h')=>aL c l b e' h'|r=>some r
theorem tB (c:ah) (l:bG) (b:aG) (e:Env) (h:H):uf c l b (some (.normal,e,h))=aL c l b e h:=vq rfl rfl
theorem tD (c:ah) (l:bG) (b:aG) (i:Nat) (e:Env) (h:H):uf c l b (some (.exit i,e,h))=some (.exit i,e,h):=vq rfl rfl
theorem tC (c:ah) (l:bG) (b:aG) (e:Env) (h:H):uf c l b (some (.ret,e,h))=some (.ret,e,h):=vq rfl rfl
def ue (xc:List Nat) (p:dE):dE:=p.bind fun r=>match r with|(.normal,e',h')=>some (.normal,ay e' xc,h')|r=>some r
theorem tu (xc:List Nat) (e:Env) (h:H):ue xc (some (.normal,e,h))=some (.normal,ay e xc,h):=vq rfl rfl
theorem tw (xc:List Nat) (i:Nat) (e:Env) (h:H):ue xc (some (.exit i,e,h))=some (.exit i,e,h):=vq rfl rfl
theorem tv (xc:List Nat) (e:Env) (h:H):ue xc (some (.ret,e,h))=some (.ret,e,h):=vq rfl rfl
def ud (c:ah) (l:bG) (a b:aG) (e:Env) (h:H) (t:AV):dE:=match t with| .bool t=>if t then aL c l a e h else aL c l b e h|_=>none
theorem th (c:ah) (l:bG) (a b:aG) (e:Env) (h:H):ud c l a b e h (.bool true)=aL c l a e h:=vq rfl rfl
theorem te (c:ah) (l:bG) (a b:aG) (e:Env) (h:H):ud c l a b e h (.bool false)=aL c l b e h:=vq rfl rfl
def qS (id:Nat) (xc:List Nat) (p:dE):dE:=p.bind fun r=>match r with
 |(.normal,e',h')=>some (.normal,ay e' xc,h')
 |(.exit j,e',h')=>if j=id then some (.normal,ay e' xc,h')else some (.exit j,e',h')
 |(.ret,e',h')=>some (.ret,e',h')
theorem s7 (id:Nat) (xc:List Nat) (e:Env) (h:H):qS id xc (some (.normal,e,h))=some (.normal,ay e xc,h):=vq rfl rfl
theorem s9 (id:Nat) (xc:List Nat) (e:Env) (h:H):qS id xc (some (.exit id,e,h))=some (.normal,ay e xc,h):=by simp [qS]
theorem tc {id j:Nat} (hj:j≠id) (xc:List Nat) (e:Env) (h:H):qS id xc (some (.exit j,e,h))=some (.exit j,e,h):=by simp [qS,hj]
theorem s8 (id:Nat) (xc:List Nat) (e:Env) (h:H):qS id xc (some (.ret,e,h))=some (.ret,e,h):=vq rfl rfl
section
variable (c:ah) (l:bG) (e:Env) (h:H)
theorem sH (ops:List ak) (xc:List Nat):aL c l (.pC ops xc) e h=uH xc (aw c ops e h):=by rw[aL];rfl
theorem nW (ord:List Nat) (ops:List ak) (xc:List Nat):aL c l (.iW ord ops [] xc) e h=uH xc (aw c ops e h):=by rw[lq];rfl
theorem sI (a b:aG):aL c l (.seq a b) e h=uf c l b (aL c l a e h):=by rw[aL];rfl
theorem qu (x:X) (a b:aG) (xc:List Nat):aL c l (.cond x a b xc) e h=ue xc (ud c l a b e h (x.ev e)):=by
 rw[aL];unfold ud;cases hx:x.ev e with
 |bool t=>cases t<;>rfl
 |_=>rfl
theorem nV (id:Nat) (x:aG) (xc:List Nat):aL c l (.block id x xc) e h=qS id xc (aL c l x e h):=by rw[aL];rfl
end
theorem ny (t:Nat) (v:AV) (r:Env):look ((t,v)::r) t=v:=if_pos rfl
theorem lJ {s t:Nat} (hst:s≠t) (v:AV) (r:Env):look ((s,v)::r) t=look r t:=if_neg hst
theorem sZ (e:Env) (n:Nat):(X.t n).ev e=look e n:=vq rfl rfl
theorem sY (e:Env) (v:AV):(X.c v).ev e=v:=vq rfl rfl
theorem pD (e:Env) (t:Nat) (r:List Nat):ay e (t::r)=(t,look e t)::ay e r:=vq rfl rfl
theorem pE (e:Env):ay e []=[]:=vq rfl rfl
theorem tQ (d:Nat) (v:AV) (e:Env):aM (some d) v e=(d,v)::e:=vq rfl rfl
theorem tP (v:AV) (e:Env):aM none v e=e:=vq rfl rfl
theorem nK (i:Nat):params i []=[]:=vq rfl rfl
theorem nJ (i:Nat) (v:AV) (r:List AV):params i (v::r)=(i,v)::params (i+1) r:=vq rfl rfl
def uX (id off sz:Nat) (p:Option Nat):Option AV:=p.bind fun j=>some (.aE id (off+j* sz))
def uY (c:List AV) (off sz:Nat) (p:Option Nat):Option AV:=p.bind fun j=>some (.aK c (off+j* sz))
theorem tE (id off sz j:Nat):uX id off sz (some j)=some (.aE id (off+j* sz)):=vq rfl rfl
theorem tF (c:List AV) (off sz j:Nat):uY c off sz (some j)=some (.aK c (off+j* sz)):=vq rfl rfl
theorem oE (n sz id off:Nat) (i:AV):cQ n sz (.aE id off) i=uX id off sz (cN i n):=vq rfl rfl
theorem oD (n sz off:Nat) (c:List AV) (i:AV):cQ n sz (.aK c off) i=uY c off sz (cN i n):=vq rfl rfl
theorem qQ (off id o:Nat):fj off (.aE id o)=some (.aE id (o+off)):=vq rfl rfl
theorem qP (off o:Nat) (c:List AV):fj off (.aK c o)=some (.aK c (o+off)):=vq rfl rfl
def uZ (agg:Bool) (n off:Nat) (p:Option (List AV)):Option AV:=p.bind fun cs=>gP agg n cs off
theorem tR (agg:Bool) (n off:Nat) (cs:List AV):uZ agg n off (some cs)=gP agg n cs off:=vq rfl rfl
theorem rj (agg:Bool) (n id off:Nat) (h:H):bP agg n (.aE id off) h=uZ agg n off (h.get id):=vq rfl rfl
theorem ri (agg:Bool) (n off:Nat) (cs:List AV) (h:H):bP agg n (.aK cs off) h=gP agg n cs off:=vq rfl rfl
theorem tS (n:Nat) (cs:List AV) (off:Nat):gP false n cs off=cs[off]?:=by simp [gP]
def uN (h:H) (id off n:Nat) (v:List AV) (p:Option (List AV)):Option H:=p.bind fun cs=>if h.floor≤id∧v.length=n∧off+n≤cs.length∧AV.aC v=true then some (h.set id (setFrom cs off v))else none
theorem pQ (n id off:Nat) (v:AV) (h:H):cR n (.aE id off) v h=uN h id off n v.cells (h.get id):=vq rfl rfl
theorem u7 {h:H} {id off:Nat} {v:AV} {cs:List AV} (h1:h.floor≤id) (h2:off<cs.length) (h3:v.sc=true):uN h id off 1 [v] (some cs)=some (h.set id (cs.set off v)):=by
 simp only[uN,vu]
 rw[if_pos ⟨h1,rfl,h2,by simp [h3]⟩];rfl
theorem qL (i o:Nat):fE 0 (.aE i o) .cm=some false:=vq rfl rfl
theorem qJ (c:List AV) (o:Nat):fE 0 (.aK c o) .cm=some false:=vq rfl rfl
theorem qK:fE 0 .cm .cm=some true:=vq rfl rfl
theorem qO (i o l z:Nat):fE 1 (.aF i o l z) .aP=some false:=vq rfl rfl
theorem qM (t:Bool) (c:List AV) (o l z:Nat):fE 1 (.aV t c o l z) .aP=some false:=vq rfl rfl
theorem qN:fE 1 .aP .aP=some true:=vq rfl rfl
theorem uS {a b:Int} (h:a=b):(a==b)=true:=by simp [h]
theorem uR {a b:Int} (h:a≠b):(a==b)=false:=by simp [h]
theorem uU {a b:Int} (h:a≠b):(a !=b)=true:=by simp [h]
theorem uT {a b:Int} (h:a=b):(a !=b)=false:=by simp [h]
theorem u9 (n:Int):I n=.int .i64 n:=rfl
theorem oG (s:ByteArray):jg true (.str s)=some (.int .i64 s.size):=vq rfl rfl
theorem vh (n:Int):(I n).sc=true:=rfl
attribute [go_sem] rh qX qY pb tz qW qT qV qU td pr tO tN tA tB tD tC tu tw tv th te s7 s9 s8 tc sH nW sI qu nV nj ot ni ny lJ sZ sY pD pE tQ tP nK nJ rU rV tU tV rX py px oO oM oL oN ru om pH oA qR pT oh mY mS qy tL ph gM iZ fG gY nC pc nF pg rE rH rG rN rM rJ oU pk rD pf pd rP tM rO oX rI oY nE o0 oZ oW po oT ry oQ rK rF oV nD mP kT tE tF oE oD qQ qP tR rj ri tS pQ k9 jW lh jZ j0 jY jX kZ rY pI rZ pM pN pK pJ ne_eq not_false_eq_true Nat.zero_add Nat.add_zero Nat.mul_one Bool.not_true Bool.not_false mh mG mD mC my mw mu mq mE mo nY mH gt_iff_lt ge_iff_le List.cons_append List.nil_append List.append_nil List.append_assoc qL qJ qK qO qM qN oG decide_true decide_false List.length_cons List.length_nil List.set_cons_zero List.set_cons_succ List.getElem?_cons_zero List.getElem?_cons_succ
attribute [go_sem] Nat.reduceEqDiff reduceIte Nat.reduceAdd Nat.reduceMul Nat.reduceLT Nat.reduceLeDiff Int.reduceBEq Int.reduceBNe Int.reduceLT Int.reduceLE Int.reduceEq
end Ab
