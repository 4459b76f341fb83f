/- Part A2. -/
import Derived.ProofKit
import Derived.SizedLaws
import Derived.Carry
import Derived.ChangeArms
import Derived.Attr
import Derived.Test.YtebioenemijecaaGreatDoorA1
set_option linter.unusedSimpArgs false
set_option linter.unusedVariables false
namespace Ab
open Go RowKit
theorem eL (n:Nat):(∀a b:AV,sizeOf a≤n→AV.beq a b=true→a=b)∧(∀a b:List AV,sizeOf a≤n→AV.ib a b=true→a=b):=by
 induction n with
 | zero =>
   refine⟨fun a b h=> ?_,fun a b h=> ?_⟩
   · cases a<;>simp at h
   · cases a<;>simp at h
 | succ n ih =>
   obtain⟨i1,i2⟩:=ih
   refine⟨fun a b h hb=> ?_,fun a b h hb=> ?_⟩
   · cases a<;>cases b<;>simp only[AV.beq,wT,beq_iff_eq,wR]at hb<;>try simp only[AV.bool.sizeOf_spec,AV.aN.sizeOf_spec,AV.aY.sizeOf_spec,AV.fn.sizeOf_spec,AV.iface.sizeOf_spec,AV.agg.sizeOf_spec,AV.bW.sizeOf_spec]at h
     case aN.aN=>rw[i2 _ _ (by omega) hb.1,hb.2]
     case aY.aY=>rw[i2 _ _ (by omega) hb.2.1,hb.1,hb.2.2.1,hb.2.2.2.1,hb.2.2.2.2]
     case fn.fn=>rw[hb.1,i2 _ _ (by omega) hb.2.1,i2 _ _ (by omega) hb.2.2]
     case iface.iface=>rw[hb.1,i1 _ _ (by omega) hb.2]
     case agg.agg=>rw[i2 _ _ (by omega) hb]
     case bW.bW=>rw[i2 _ _ (by omega) hb]
     case str.str a b=>exact congrArg AV.str (ByteArray.ext (by have:(a.data==b.data)=true:=hb;simpa using this))
     all_goals simp_all
   · cases a<;>cases b<;>simp only[AV.ib,wT,wR]at hb<;>try simp only[List.cons.sizeOf_spec]at h
     · rfl
     · rw[i1 _ _ (by omega) hb.1,i2 _ _ (by omega) hb.2]
theorem beq_eq {a b:AV} (h:AV.beq a b=true):a=b:=(eL _).1 a b (wU _) h
theorem pf {a b:List AV} (h:AV.ib a b=true):a=b:=(eL _).2 a b (wU _) h
structure Gw (h g:H):Prop where
 nx:h.next≤g.next
 get:∀id,id<h.next→g.get id=h.get id
theorem Gw.refl (h:H):Gw h h:=⟨wU _,fun _ _=>rfl⟩
theorem Gw.trans {a b c:H} (h:Gw a b) (k:Gw b c):Gw a c:=⟨xq h.nx k.nx,fun id hi=>by rw[k.get id (Nat.lt_of_lt_of_le hi h.nx),h.get id hi]⟩
theorem Gw.alloc (h:H) (cs:List AV):Gw h (h.alloc cs):=⟨by simp,fun id hi=>by rw[H.aZ];rw[if_neg (by omega)]⟩
theorem Gw.some {h g:H} (k:Gw h g) {id:Nat} {cs:List AV} (hg:h.get id=.some cs):g.get id=.some cs:=by rw[k.get id (h.lt id cs hg)];exact hg
theorem iq {call:ae} {e:Env} {h h':H} {o:cq} {v:AV} (hl:o.aR=false) (hb:o.aK=false) (hr:o.reads=false) (hev:ah call e h o=some (v,h')) (G:H):ah call e G o=some (v,G):=by
 obtain rfl:=bS hl hb hev
 cases o<;>simp only[cq.aR,cq.aK,cq.reads,Bool.true_eq_false,reduceCtorEq]at hl hb hr<;>simp only[ah,wG]at hev ⊢
 all_goals first
  |(obtain⟨q1,q2,hev⟩:=hev;exact⟨q1,q2,by rw[(wJ (wH hev)).1]⟩)
  |(rw[(wJ (wH hev)).1];done)
  |skip
 all_goals repeat' split at hev
 all_goals first
  |(cases hev;done)
  |(obtain⟨q,_⟩:=wJ (wH hev);rw[q];done)
  |(obtain⟨q,_⟩:=wJ (wH hev);simp [*];done)
  |skip
 all_goals try simp only[wG]at hev
 all_goals
  obtain⟨q1,q2,q3⟩:=hev
  obtain⟨q,_⟩:=wJ (wH q3)
  simp [*]
theorem j3 {call : ae} {e : Env} {h h' : H} {o : cq} {v : AV} (hl : o.aR = false) (hb : o.aK = false) (hev : ah call e h o = some (v, h')) {G : H} (k : Gw h G) : ah call e G o = some (v, G) := by
 cases hr:o.reads with
 |false=>exact iq hl hb hr hev G
 | true =>
   cases o<;>simp only[cq.reads,wR]at hr<;>simp only[ah,wG]at hev ⊢
   case load agg n p=>
    obtain⟨x,h1,h2⟩:=hev
    refine⟨x, ?_,by rw[(wJ (wH h2)).1]⟩
    unfold cf at *
    split at h1
    · simp only[wG]at h1 ⊢
      obtain⟨cs,q1,q2⟩:=h1
      exact⟨cs,k.some q1,q2⟩
    · exact h1
    · cases h1
   case mu x =>
    obtain⟨y,h1,l,h2,h3⟩:=hev
    refine⟨y, ?_,l,h2, ?_⟩
    · unfold aV at *
      split at h1
      · exact h1
      · exact h1
      · split at h1
        · rename_i hs;simp only[if_pos hs,wG]at h1 ⊢
          obtain⟨cs,q1,q2⟩:=h1
          exact⟨cs,k.some q1,q2⟩
        · cases h1
      · exact h1
      · cases h1
    · split at h3
      · cases h3
      · rw[(wJ (wH h3)).1]
   case sl sz x a b c =>
    obtain⟨y,h1,h2⟩:=hev
    refine⟨y, ?_,by rw[(wJ (wH h2)).1]⟩
    unfold ug at *
    split at h1
    · split at h1
      · exact h1
      · split at h1
        · rename_i hs;simp only[if_pos hs,wG]at h1 ⊢
          obtain⟨cs,q1,q2⟩:=h1
          exact⟨cs,k.some q1,q2⟩
        · cases h1
      · exact h1
      · cases h1
    · exact h1
   case tW n sz x a b=>
    obtain⟨y,h1,h2⟩:=hev
    refine⟨y, ?_,by rw[(wJ (wH h2)).1]⟩
    unfold nN at *
    split at h1
    · split at h1
      · rename_i hs;simp only[if_pos hs,wG]at h1 ⊢
        obtain⟨cs,q1,q2⟩:=h1
        exact⟨cs,k.some q1,q2⟩
      · cases h1
    · cases h1
theorem kX {call:ae} {e:Env} {h h':H} {o:aj} {v:AV} (hl:o.op.aR=false) (hb:o.op.aK=false) (hev:ai call o e h=some (v,h')) {G:H} (k:Gw h G):ai call o e G=some (v,G):=by
 unfold ai at *
 split at hev
 · exact j3 hl hb hev k
 · split at hev
   · split at hev
     · rename_i q;rw[if_pos q];exact j3 hl hb hev k
     · rename_i q;rw[if_neg q];rw[(wJ (wH hev)).1]
   · rw[(wJ (wH hev)).1]
   · cases hev
theorem kW {call:ae} {e:Env} {h h':H} {o:aj} {v:AV} (hl:o.op.aR=false) (hb:o.op.aK=false) (hr:o.op.reads=false) (hev:ai call o e h=some (v,h')) (G:H):ai call o e G=some (v,G):=by
 unfold ai at *
 split at hev
 · exact iq hl hb hr hev G
 · split at hev
   · split at hev
     · rename_i q;rw[if_pos q];exact iq hl hb hr hev G
     · rename_i q;rw[if_neg q];rw[(wJ (wH hev)).1]
   · rw[(wJ (wH hev)).1]
   · cases hev
theorem mH {call:ae} {e:Env} {h h':H} {o:aj} {v:AV} (hl:o.op.aR=false) (hev:ai call o e h=some (v,h')):Gw h h':=by
 have key:∀{v h'},ah call e h o.op=some (v,h')→Gw h h':=by
  intro v h' hev
  cases hb:o.op.aK with
  |false=>rw[bS hl hb hev];exact .refl _
  |true=>obtain⟨b,_,_,rfl⟩:=dp hb hev;exact .alloc _ _
 unfold ai at hev
 repeat' split at hev
 all_goals first
  |exact key hev
  |(cases hev;done)
  |(obtain⟨_,rfl⟩:=wJ (wH hev);exact .refl _)
theorem cG {call : ae} {e : Env} {h h' : H} {o : aj} {v : AV} (hb : o.op.aK = true) (hev : ai call o e h = some (v, h')) :
 (v=.bW []∧h'=h∧∀G,ai call o e G=some (.bW [],G))∨∃b,bg e o.op=some b∧v=b.2 h.next∧h'=h.alloc b.1∧v.id?=some h.next∧∀G,ai call o e G=ah call e G o.op:=by
 have key:ah call e h o.op=some (v,h')→(∀G,ai call o e G=ah call e G o.op)→∃b,bg e o.op=some b∧v=b.2 h.next∧h'=h.alloc b.1∧v.id?=some h.next∧∀G,ai call o e G=ah call e G o.op:=by
  intro hev hg
  obtain⟨b,h1,h2,h3⟩:=dp hb hev
  exact⟨b,h1,h2,h3,h2 ▸ nR h1 _,hg⟩
 unfold ai at hev
 split at hev
 · rename_i q;exact .inr (key hev fun G=>by unfold ai;rw[q])
 · rename_i g want q
   split at hev
   · rename_i b q2
     split at hev
     · rename_i q3;exact .inr (key hev fun G=>by unfold ai;simp only[q,q2,if_pos q3])
     · rename_i q3
       obtain⟨rfl,rfl⟩:=wJ (wH hev)
       exact .inl ⟨rfl,rfl,fun G=>by unfold ai;simp only[q,q2,if_neg q3]⟩
   · rename_i q2
     obtain⟨rfl,rfl⟩:=wJ (wH hev)
     exact .inl ⟨rfl,rfl,fun G=>by unfold ai;simp only[q,q2]⟩
   · cases hev
def nl:List aj→Nat
 |[]=>0
 |o::r=>(if o.op.aR=true then 1 else 0)+nl r
theorem fP (a b:List aj):nl (a++b)=nl a+nl b:=by
 induction a with
 |nil=>simp [nl]
 |cons o a ih=>simp only[List.cons_append,nl,ih];omega
theorem cI {os:List aj} {p:Nat} {x:aj} (hx:os[p]?=some x):nl (os.take (p+1))=nl (os.take p)+(if x.op.aR=true then 1 else 0):=by
 rw[List.take_add_one,hx,fP];simp [nl]
theorem iL {os:List aj} {p q:Nat} (h:p≤q):nl (os.take p)≤nl (os.take q):=by
 have:os.take q=os.take p++(os.take q).drop p:=by
  have:=(List.take_append_drop p (os.take q)).symm
  rwa [List.take_take,Nat.min_eq_left h]at this
 rw[this,fP];omega
theorem ki (os:List aj) (p:Nat):nl (os.take p)≤nl os:=by
 conv=>rhs;rw[←List.take_append_drop p os]
 rw[fP];omega
theorem jt : ∀ (os : List aj) (p k : Nat), k < nl (os.take p) → ∃ (q : Nat) (x : aj), q < p ∧ os[q]? = some x ∧ x.op.aR = true ∧ nl (os.take q) = k := by
 intro os p
 induction p with
 |zero=>intro k hk;simp [nl]at hk
 | succ p ih =>
   intro k hk
   cases hx:os[p]? with
   | none =>
     have:os.take (p+1)=os.take p:=by rw[List.take_add_one,hx];simp
     rw[this]at hk
     obtain⟨q,x,a,b⟩:=ih k hk
     exact⟨q,x,by omega,b⟩
   | some x =>
     rw[cI hx]at hk
     by_cases hk':k<nl (os.take p)
     · obtain⟨q,y,a,b⟩:=ih k hk'
       exact⟨q,y,by omega,b⟩
     · have hl:x.op.aR=true:=by
        cases hl:x.op.aR with
        |true=>rfl
        |false=>rw[if_neg (by simp [hl])]at hk;omega
       rw[if_pos hl]at hk
       exact⟨p,x,by omega,hx,hl,by omega⟩
theorem du {call:ae}:∀(a b:List aj) (e:Env) (h:H),au call (a++b) e h=(au call a e h).bind fun r=>au call b r.1 r.2
 |[],b,e,h=>rfl
 | o :: a, b, e, h => by
   simp only[List.cons_append,au]
   cases hv:ai call o e h with
   |none=>rfl
   |some r=>simp only[wP];exact du a b _ _
theorem dK {call:ae}:∀{os:List aj} {e e':Env} {h h':H} {gs},aQ call os e h=some (e',h',gs)→∃G,gs[0]?=some G∧Gw h G
 |[],_,_,h,_,_,hev=>by cases hev;exact⟨h,rfl,.refl _⟩
 | o :: os, _, _, h, _, _, hev => by
   simp only[aQ,wG]at hev
   obtain⟨⟨v,h1⟩,hv,⟨e2,h2,gs'⟩,h4,h5⟩:=hev
   cases hl:o.op.aR with
   |true=>simp only[hl,if_true]at h5;cases h5;exact⟨h,rfl,.refl _⟩
   | false =>
     simp only[hl,wR,xp]at h5
     cases h5
     obtain⟨G,g1,g2⟩:=dK h4
     exact⟨G,g1,(mH hl hv).trans g2⟩
theorem gm {call:ae}:∀{os:List aj} {e e':Env} {h h':H} {gs},aQ call os e h=some (e',h',gs)→gs[nl os]?=some h'
 |[],_,_,_,_,_,hev=>by cases hev;rfl
 | o :: os, _, _, _, _, _, hev => by
   simp only[aQ,wG]at hev
   obtain⟨⟨v,h1⟩,hv,⟨e2,h2,gs'⟩,h4,h5⟩:=hev
   have:=gm h4
   cases hl:o.op.aR with
   |true=>simp only[hl,if_true]at h5;cases h5;simp only[nl,hl,if_true,Nat.add_comm 1,w9];exact this
   |false=>simp only[hl,wR,xp]at h5;cases h5;simp only[nl,hl,wR,xp,wY];exact this
theorem jg {call : ae} : ∀ {os : List aj} {e e' : Env} {h h' : H} {gs}, aQ call os e h = some (e', h', gs) → ∀ {p : Nat} {x : aj}, os[p]? = some x → ∃ e1 h1 v h2 G,
 au call (os.take p) e h=some (e1,h1)∧ai call x e1 h1=some (v,h2)∧au call (os.drop (p+1)) (aP x.dst v e1) h2=some (e',h')∧
 gs[nl (os.take p)+(if x.op.aR=true then 1 else 0)]?=some G∧Gw h2 G∧(x.op.aR=true→gs[nl (os.take p)]?=some h1)
 |[],_,_,_,_,_,_,p,x,hx=>by simp at hx
 | o :: os, e, _, h, _, _, hev, p, x, hx => by
   simp only[aQ,wG]at hev
   obtain⟨⟨v,h1⟩,hv,⟨e2,h2,gs'⟩,h4,h5⟩:=hev
   cases p with
   | zero =>
     simp at hx;subst hx
     obtain⟨G,g1,g2⟩:=dK h4
     refine⟨e,h,v,h1,G,rfl,hv, ?_, ?_,g2, ?_⟩
     · obtain⟨rfl,h6⟩:=wJ (wH h5);obtain⟨rfl,_⟩:=wJ h6
       exact cO h4
     · cases hl:o.op.aR with
       |true=>simp only[hl,if_true]at h5;cases h5;simpa [nl]using g1
       |false=>simp only[hl,wR,xp]at h5;cases h5;simpa [nl]using g1
     · intro hl;simp only[hl,if_true]at h5;cases h5;rfl
   | succ p =>
     obtain⟨e3,h3,u,h6,G,a1,a2,a3,a4,a5,a6⟩:=jg h4 (p:=p) (x:=x) (by simpa using hx)
     refine⟨e3,h3,u,h6,G, ?_,a2, ?_, ?_,a5, ?_⟩
     · simp only[w8,au,hv,wP];exact a1
     · obtain⟨rfl,h7⟩:=wJ (wH h5);obtain⟨rfl,_⟩:=wJ h7
       simpa using a3
     · cases hl:o.op.aR with
       |true=>simp only[hl,if_true]at h5;cases h5;simp only[w8,nl,hl,if_true];rw[wS,Nat.add_comm 1,w9];exact a4
       |false=>simp only[hl,wR,xp]at h5;cases h5;simp only[w8,nl,hl,wR,xp,wY];exact a4
     · intro hx'
       have a6:=a6 hx'
       cases hl:o.op.aR with
       |true=>simp only[hl,if_true]at h5;cases h5;simp only[w8,nl,hl,if_true];rw[Nat.add_comm 1,w9];exact a6
       |false=>simp only[hl,wR,xp]at h5;cases h5;simp only[w8,nl,hl,wR,xp,wY];exact a6
def jY (os:List aj):List Nat:=os.filterMap (·.dst)
theorem br {call:ae}:∀{os:List aj} {e e':Env} {h h':H},au call os e h=some (e',h')→∀t,t∉jY os→look e' t=look e t
 |[],_,_,_,_,hev,t,_=>by cases hev;rfl
 | o :: os, e, _, _, _, hev, t, ht => by
   simp only[au,wG]at hev
   obtain⟨⟨v,h1⟩,hv,h4⟩:=hev
   have hd:o.dst≠some t∧t∉jY os:=by
    unfold jY at ht ⊢
    rw[List.filterMap_cons]at ht
    cases hd:o.dst with
    |none=>rw[hd]at ht;exact⟨nofun,ht⟩
    |some d=>rw[hd]at ht;simp only[xn,not_or]at ht;exact⟨fun q=>ht.1 (wH q).symm,ht.2⟩
   rw[br h4 t hd.2]
   cases hd':o.dst with
   |none=>rfl
   | some d =>
     simp only[aP,look]
     rw[if_neg (fun q=>hd.1 (by rw[hd',q]))]
end Ab
namespace Ab
open Go RowKit
structure Z where
 i:Nat
 x:aj
 m:Nat
def je (o:Oper):List Nat:=(o.after.toList.filter (Region.binds .any)).map (·.on)
def mg:List Z→Nat→Option Nat
 |[],_=>none
 |z::r,e=>if z.i=e then some z.m else mg r e
def jH (acc:List Z):List Nat→Option Nat
 |[]=>some 0
 |e::r=>(mg acc e).bind fun m=>(jH acc r).bind fun m'=>some ((m|||2^e)|||m')
def pM (L:Lk) (nt:Nat) (ops:Array Oper):List Nat→List Z→Option (List Z)
 |[],_=>some []
 |i::r,acc=>(ops[i]?).bind fun o=>(bK L nt ops o).bind fun x=>(jH acc (je o)).bind fun m=>(pM L nt ops r (⟨i,x,m⟩::acc)).bind fun zs=>some (⟨i,x,m⟩::zs)
def eQ:List (Nat×List Nat)→Nat→List Nat
 |[],_=>[]
 |(q,ks)::r,p=>if q=p then ks else eQ r p
def bV (fl:List Nat) (z y:Z):Bool:=
 decide (z.i≠y.i)&&((match z.x.dst with|none=>true|some d=>decide (y.x.dst≠some d)&&(!(y.x.tm.contains d)||y.m.testBit z.i))&&
 ((match y.x.dst with|none=>true|some d=> !(z.x.tm.contains d)||(y.m.testBit z.i&&fl.isEmpty))&&(!(z.x.op.aR&&y.x.op.aR)||y.m.testBit z.i)))
def ei (z:Z) (j:Nat):Nat→List Z→Bool
 |_,[]=>true
 |q,y::r=>if y.x.op.aR=true then((!(z.m.testBit y.i)||decide (q<j))&&(!(y.m.testBit z.i)||decide (j≤q)))&&ei z j (q+1) r else ei z j q r
def eZ (zs:List Z) (fl:List Nat) (own n:Nat) (z:Z):Bool:=
 ((match z.x.dst with|none=> !z.x.op.aK&&fl.isEmpty|some d=> !(z.x.tm.contains d)||fl.isEmpty))&&
 (!(z.x.op.aK||z.x.op.reads)||(List.range (n+1)).all fun j=>j==own|| !ei z j 0 zs||fl.contains j)
def qS (all:List Z) (fl:List (Nat×List Nat)) (n:Nat):Nat→Nat→List Z→Bool
 |_,_,[]=>true
 |p,own,z::r=>eZ all (eQ fl p) own n z&&(r.all (bV (eQ fl p) z)&&qS all fl n (p+1) (if z.x.op.aR=true then own+1 else own) r)
def lV (L:Lk) (nt:Nat) (ops:Array Oper) (ord:List Nat) (fl:List (Nat×List Nat)):Option (List aj):=
 (pM L nt ops ord []).bind fun zs=>
 if ord.length=ops.size∧(List.range ops.size).all (ord.contains ·)=true∧qS zs fl (nl (zs.map (·.x))) 0 0 zs=true then some (zs.map (·.x))else none
theorem eY {L:Lk} {nt:Nat} {ops:Array Oper}:∀{ord:List Nat} {acc zs:List Z},pM L nt ops ord acc=some zs→zs.map (·.i)=ord∧∀z∈zs,∃o,ops[z.i]?=some o∧bK L nt ops o=some z.x
 |[],_,_,h=>by obtain rfl:=wH h;exact⟨rfl,fun z hz=>by simp at hz⟩
 | i :: r, acc, zs, h => by
   simp only[pM,wG]at h
   obtain⟨o,h1,x,h2,m,h3,zs',h4,h5⟩:=h
   obtain rfl:=wH h5
   obtain⟨g1,g2⟩:=eY h4
   refine⟨by simp [g1],fun z hz=> ?_⟩
   rcases xn.1 hz with rfl|hz
   · exact⟨o,h1,h2⟩
   · exact g2 z hz
theorem jq:∀{acc:List Z} {e m:Nat},mg acc e=some m→∃z∈acc,z.i=e∧z.m=m
 |[],_,_,h=>by cases h
 | z :: r, e, m, h => by
   unfold mg at h
   split at h
   · rename_i q;exact⟨z,by simp,q,wH h⟩
   · obtain⟨y,hy,q⟩:=jq h;exact⟨y,by simp [hy],q⟩
theorem dN {acc : List Z} : ∀ {es : List Nat} {m : Nat}, jH acc es = some m → (∀ e ∈ es, ∃ z ∈ acc, z.i = e) ∧ ∀ k, m.testBit k = true → ∃ e ∈ es, k = e ∨ ∃ z ∈ acc, z.i = e ∧ z.m.testBit k = true
 |[],m,h=>by obtain rfl:=wH h;exact⟨fun e he=>by simp at he,fun k hk=>by simp at hk⟩
 | e :: es, m, h => by
   simp only[jH,wG]at h
   obtain⟨m1,h1,m2,h2,h3⟩:=h
   obtain rfl:=wH h3
   obtain⟨g1,g2⟩:=dN h2
   obtain⟨z,hz,hz1,hz2⟩:=jq h1
   refine⟨fun e' he=> ?_,fun k hk=> ?_⟩
   · rcases xn.1 he with rfl|he
     · exact⟨z,hz,hz1⟩
     · exact g1 e' he
   · rw[Nat.testBit_or,Nat.testBit_or,xh,xh]at hk
     rcases hk with (hk|hk)|hk
     · exact⟨e,List.mem_cons_self,.inr ⟨z,hz,hz1,hz2.symm ▸ hk⟩⟩
     · rw[Nat.testBit_two_pow]at hk
       exact⟨e,List.mem_cons_self,.inl (of_decide_eq_true hk).symm⟩
     · obtain⟨e',he',q⟩:=g2 k hk
       exact⟨e',by simp [he'],q⟩
def Cl (ops:Array Oper) (done:Nat→Prop):Prop:=∀i o,ops[i]?=some o→done i→∀e∈je o,done e
theorem iJ {L : Lk} {nt : Nat} {ops : Array Oper} {done : Nat → Prop} (hcl : Cl ops done) : ∀ {ord : List Nat} {acc zs : List Z}, pM L nt ops ord acc = some zs →
 (∀z∈acc,done z.i→∀k,z.m.testBit k=true→done k)→∀z∈zs,done z.i→∀k,z.m.testBit k=true→done k
 |[],_,_,h,_=>by obtain rfl:=wH h;intro z hz;simp at hz
 | i :: r, acc, zs, h, ha => by
   simp only[pM,wG]at h
   obtain⟨o,h1,x,h2,m,h3,zs',h4,h5⟩:=h
   obtain rfl:=wH h5
   have hz:∀z∈((⟨i,x,m⟩:Z)::acc),done z.i→∀k,z.m.testBit k=true→done k:=by
    intro z hz hd k hk
    rcases xn.1 hz with rfl|hz
    · obtain⟨e,he,q⟩:=(dN h3).2 k hk
      have hde:=hcl i o h1 hd e he
      rcases q with rfl|⟨y,hy,hy1,hy2⟩
      · exact hde
      · exact ha y hy (hy1 ▸ hde) k hy2
    · exact ha z hz hd k hk
   intro z hzm
   rcases xn.1 hzm with rfl|hzm
   · exact hz _ (by simp)
   · exact iJ hcl h4 hz z hzm
theorem js {L : Lk} {nt : Nat} {ops : Array Oper} {done : Nat → Prop} : ∀ {ord : List Nat} {acc zs : List Z}, pM L nt ops ord acc = some zs → (∀ z ∈ acc, done z.i) → (∃ z ∈ zs, ¬ done z.i) → ∃ z ∈ zs, ¬ done z.i ∧ ∃ o, ops[z.i]? = some o ∧ ∀ e ∈ je o, done e
 |[],_,_,h,_,hx=>by obtain rfl:=wH h;obtain⟨z,hz,_⟩:=hx;simp at hz
 | i :: r, acc, zs, h, ha, hx => by
   simp only[pM,wG]at h
   obtain⟨o,h1,x,h2,m,h3,zs',h4,h5⟩:=h
   obtain rfl:=wH h5
   by_cases hd:done i
   · obtain⟨z,hz,hnd⟩:=hx
     have hz':z∈zs':=by
      rcases xn.1 hz with rfl|hz
      · exact absurd hd hnd
      · exact hz
     obtain⟨y,hy,q⟩:=js h4 (fun y hy=>by
      rcases xn.1 hy with rfl|hy
      · exact hd
      · exact ha y hy) ⟨z,hz',hnd⟩
     exact⟨y,by simp [hy],q⟩
   · refine⟨⟨i,x,m⟩,by simp,hd,o,h1,fun e he=> ?_⟩
     obtain⟨z,hz,hze⟩:=(dN h3).1 e he
     exact hze ▸ ha z hz
theorem jv {all : List Z} {fl : List (Nat × List Nat)} {n : Nat} : ∀ {l : List Z} {p0 own : Nat}, qS all fl n p0 own l = true →
 (∀p z,l[p]?=some z→eZ all (eQ fl (p0+p)) (own+nl ((l.take p).map (·.x))) n z=true)∧∀p q z y,p<q→l[p]?=some z→l[q]?=some y→bV (eQ fl (p0+p)) z y=true
 |[],_,_,_=>⟨fun p z h=>by simp at h,fun p q z y _ h=>by simp at h⟩
 | z0 :: l, p0, own, h => by
   simp only[qS,wT,List.all_eq_true]at h
   obtain⟨h1,h2,h3⟩:=h
   obtain⟨g1,g2⟩:=jv h3
   refine⟨fun p z hz=> ?_,fun p q z y hpq hz hy=> ?_⟩
   · cases p with
     |zero=>simp at hz;subst hz;simpa [nl]using h1
     | succ p =>
       have:=g1 p z (by simpa using hz)
       rw[show p0+1+p=p0+(p+1)by omega]at this
       rw[w8,List.map_cons,nl]
       cases hl:z0.x.op.aR with
       |true=>simp only[hl,if_true]at this ⊢;rw[←wS own 1];exact this
       |false=>simp only[hl,wR,xp]at this ⊢;rw[wY];exact this
   · cases q with
     |zero=>omega
     | succ q =>
       cases p with
       |zero=>simp at hz;subst hz;exact h2 y (wX (by simpa using hy))
       | succ p =>
         have:=g2 p q z y (by omega) (by simpa using hz) (by simpa using hy)
         rwa [show p0+1+p=p0+(p+1)by omega]at this
theorem eJ {z : Z} {j : Nat} : ∀ {l : List Z} {q : Nat}, (∀ p y, l[p]? = some y → y.x.op.aR = true → (z.m.testBit y.i = true → q + nl ((l.take p).map (·.x)) < j) ∧ (y.m.testBit z.i = true → j ≤ q + nl ((l.take p).map (·.x)))) → ei z j q l = true
 |[],_,_=>rfl
 | y :: l, q, h => by
   unfold ei
   split
   · rename_i hl
     have h0:=h 0 y rfl hl
     simp only[List.take_zero,List.map_nil,nl,Nat.add_zero]at h0
     rw[wT,wT,xh,xh]
     refine⟨⟨?_, ?_⟩, ?_⟩
     · cases hb:z.m.testBit y.i with
       |false=>exact .inl rfl
       |true=>exact .inr (decide_eq_true (h0.1 hb))
     · cases hb:y.m.testBit z.i with
       |false=>exact .inl rfl
       |true=>exact .inr (decide_eq_true (h0.2 hb))
     · exact eJ fun p x hx hxl=>by
        have:=h (p+1) x (by simpa using hx) hxl
        rw[w8,List.map_cons,nl,if_pos hl,←wS]at this
        exact this
   · rename_i hl
     exact eJ fun p x hx hxl=>by
      have:=h (p+1) x (by simpa using hx) hxl
      rw[w8,List.map_cons,nl,if_neg hl,wY]at this
      exact this
theorem gE {call:ae} {ops:List aj} {e:Env} {gs:List H}:∀{fl:List (Nat×List Nat)},bh call ops e gs fl=true→∀p k,k∈eQ fl p→bO call ops e gs p k=true
 |[],_,p,k,hk=>by simp [eQ]at hk
 | (q, ks) :: r, h, p, k, hk => by
   simp only[bh,wT,List.all_eq_true]at h
   unfold eQ at hk
   split at hk
   · rename_i e;subst e;exact h.1 k hk
   · exact gE h.2 p k hk
theorem bw (t:Nat):∀(l:List Nat) (e0 E:Env),look (l.map (fun s=>(s,look e0 s))++E) t=if t∈l then look e0 t else look E t
 |[],_,_=>by simp
 | s :: l, e0, E => by
   simp only[List.map_cons,List.cons_append,look]
   by_cases hs:s=t
   · subst hs;simp
   · rw[if_neg hs,bw t l e0 E]
     have:t∈s::l↔t∈l:=by simp [Ne.symm hs]
     by_cases ht:t∈l
     · rw[if_pos ht,if_pos (this.2 ht)]
     · rw[if_neg ht,if_neg (fun q=>ht (this.1 q))]
def tM (zs:List Z) (dn:Nat→Bool):List Nat:=zs.filterMap fun z=>if dn z.i then none else z.x.dst
def cut (zs:List Z) (dn:Nat→Bool) (e0 E:Env):Env:=(tM zs dn).map (fun s=>(s,look e0 s))++E
theorem cH {zs:List Z} {dn:Nat→Bool} {t:Nat}:t∈tM zs dn↔∃z∈zs,dn z.i=false∧z.x.dst=some t:=by
 unfold tM
 rw[List.mem_filterMap]
 constructor
 · rintro ⟨z,hz,h⟩
   split at h
   · cases h
   · rename_i q;exact⟨z,hz,by simpa using q,h⟩
 · rintro ⟨z,hz,h1,h2⟩
   exact⟨z,hz,by simp [h1,h2]⟩
end Ab
namespace Ab
open Go RowKit
section
variable {L:Lk} {w0:World}
theorem R.gw {ι:Io} {M:Mm} {h G:H} {w:World} (r:R L w0 ι M h w) (k:Gw h G):R L w0 ι M G w:=by
 have g:∀id cs l,G.get id=some cs→ι id=some l→h.get id=some cs:=fun id cs l a b=>by rw[k.get id (r.kU id l b)]at a;exact a
 exact⟨r.below,fun id l q=>Nat.lt_of_lt_of_le (r.kU id l q) k.nx,fun id cs l a b=>r.iR id cs l (g _ _ _ a b) b,fun id cs l a b=>r.own id cs l (g _ _ _ a b) b,fun id cs l a b=>r.val id cs l (g _ _ _ a b) b,
  fun i j cs cs' l l' a b c d=>r.ig i j cs cs' l l' (g _ _ _ a c) (g _ _ _ b d) c d,r.ar,fun b o v id cs l m a c=>r.iS b o v id cs l m (g _ _ _ a c) c⟩
theorem Gr.gw {h h2 G:H} {ι ι':Io} {M M':Mm} (a:Gr h ι M h2 ι' M') (k:Gw h2 G):Gr h ι M G ι' M':=⟨xq a.nx k.nx,a.io,a.mm,a.ju⟩
theorem lq {ι : Io} {M : Mm} {w : World} {call : ae} {nt : Nat} {ops : Array Oper} {i : Nat} {o : Oper} {x : aj} (hi : ops[i]? = some o) (hc : bK L nt ops o = some x)
 {e:Env} {a:Act} (he:bm L ι M e a.tmps) {h h':H} {v:AV} (hev:ai call x e h=some (v,h')) {K:Act→World→Prop} {Q:Exit→Act→World→Prop}
 (h1:ch L o.op=some x.op→ah call e h x.op=some (v,h')→o.wp L.P a w K Q) (h2:v=.bW []→h'=h→K (a.put o.dst undef) w):wpOp L.P ops Q i K a w:=by
 obtain⟨hop,hdst,_,hg⟩:=cD hc
 unfold wpOp
 simp only[hi]
 unfold ai at hev
 rcases hg with ⟨hg1,hg2⟩|⟨j,want,t,hg1,ht,hg2⟩
 · rw[hg2]at hev
   have:Region.wanted o (yielded ops a.tmps)=true:=by simp [Region.wanted,hg1]
   rw[if_pos this]
   exact .inl (h1 hop hev)
 · rw [hg2] at hev
   simp only at hev
   split at hev
   · rename_i b hb
     have q1:=he t
     rw[hb]at q1
     have q2:=jm q1.cg
     have hy:yielded ops a.tmps j=some b:=by simp [yielded,ht,q2]
     split at hev
     · rename_i hbw
       have:Region.wanted o (yielded ops a.tmps)=true:=by simp [Region.wanted,hg1,hy,hbw]
       rw[if_pos this]
       exact .inl (h1 hop hev)
     · rename_i hbw
       have:¬Region.wanted o (yielded ops a.tmps)=true:=by simp [Region.wanted,hg1,hy,hbw]
       rw[if_neg this]
       obtain⟨q3,q4⟩:=wJ (wH hev)
       exact h2 q3.symm q4.symm
   · rename_i hb
     have q1:=he t
     rw[hb]at q1
     have:¬Region.wanted o (yielded ops a.tmps)=true:=by simp [Region.wanted,hg1,ep ht q1]
     rw[if_neg this]
     obtain⟨q3,q4⟩:=wJ (wH hev)
     exact h2 q3.symm q4.symm
   · cases hev
theorem eN {call:ae} {e:Env} {h h':H} {o:aj} {v:AV} (hl:o.op.aR=false) (hb:o.op.aK=false) (hev:ai call o e h=some (v,h')):h'=h:=by
 unfold ai at hev
 split at hev
 · exact bS hl hb hev
 · split at hev
   · split at hev
     · exact bS hl hb hev
     · exact(wJ (wH hev)).2.symm
   · exact(wJ (wH hev)).2.symm
   · cases hev
structure DH (L:Lk) (nt:Nat) (ops:Array Oper) (call:ae) (ord:List Nat) (zs:List Z) (fl:List (Nat×List Nat)) (e0:Env) (h0:H) (E:Env) (hN:H) (gs:List H):Prop where
 mz:pM L nt ops ord []=some zs
 len:ord.length=ops.size
 all:∀k,k<ops.size→k∈ord
 one:∀(p:Nat) (z:Z),zs[p]?=some z→eZ zs (eQ fl p) (nl ((zs.map (·.x)).take p)) (nl (zs.map (·.x))) z=true
 pair:∀(p q:Nat) (z y:Z),p<q→zs[p]?=some z→zs[q]?=some y→bV (eQ fl p) z y=true
 ev:aQ call (zs.map (·.x)) e0 h0=some (E,hN,gs)
 st:bh call (zs.map (·.x)) E gs fl=true
 nm:aT call
variable {nt:Nat} {ops:Array Oper} {call:ae} {ord:List Nat} {zs:List Z} {fl:List (Nat×List Nat)} {e0:Env} {h0:H} {E:Env} {hN:H} {gs:List H}
theorem DH.of {os:List aj} (hc:lV L nt ops ord fl=some os) (hev:aQ call os e0 h0=some (E,hN,gs)) (hst:bh call os E gs fl=true) (hn:aT call):∃zs,os=zs.map (·.x)∧DH L nt ops call ord zs fl e0 h0 E hN gs:=by
 unfold lV at hc
 simp only[wG]at hc
 obtain⟨zs,h1,h2⟩:=hc
 split at h2
 · rename_i hq
   obtain rfl:=wH h2
   obtain⟨q1,q2,q3⟩:=hq
   obtain⟨g1,g2⟩:=jv q3
   refine⟨zs,rfl,h1,q1,fun k hk=> ?_,fun p z hz=> ?_,fun p q z y h a b=>by simpa using g2 p q z y h a b,hev,hst,hn⟩
   · have:=List.all_eq_true.1 q2 k (List.mem_range.2 hk)
     simpa using this
   · have:=g1 p z hz
     simpa [List.map_take]using this
 · cases h2
theorem DH.zx (d:DH L nt ops call ord zs fl e0 h0 E hN gs) {p:Nat} {z:Z} (hz:zs[p]?=some z):(zs.map (·.x))[p]?=some z.x:=by simp [hz]
theorem DH.inj (d:DH L nt ops call ord zs fl e0 h0 E hN gs) {p q:Nat} {z y:Z} (hz:zs[p]?=some z) (hy:zs[q]?=some y) (h:z.i=y.i):p=q:=by
 rcases Nat.lt_trichotomy p q with hlt|rfl|hlt
 · have:=d.pair p q z y hlt hz hy
   simp [bV,h]at this
 · rfl
 · have:=d.pair q p y z hlt hy hz
   simp [bV,h]at this
theorem DH.py (d:DH L nt ops call ord zs fl e0 h0 E hN gs) {p q:Nat} {z y:Z} (hz:zs[p]?=some z) (hy:zs[q]?=some y) {t:Nat} (h1:z.x.dst=some t) (h2:y.x.dst=some t):p=q:=by
 rcases Nat.lt_trichotomy p q with hlt|rfl|hlt
 · have:=d.pair p q z y hlt hz hy
   simp [bV,h1,h2]at this
 · rfl
 · have:=d.pair q p y z hlt hy hz
   simp [bV,h1,h2]at this
theorem DH.v9 (d:DH L nt ops call ord zs fl e0 h0 E hN gs) {i:Nat} (hi:i<ops.size):∃(p:Nat) (z:Z),zs[p]?=some z∧z.i=i:=by
 have:=d.all i hi
 rw[←(eY d.mz).1]at this
 obtain⟨z,hz,rfl⟩:=List.mem_map.1 this
 obtain⟨p,hp⟩:=xg.1 hz
 exact⟨p,z,hp,rfl⟩
theorem DH.take (d:DH L nt ops call ord zs fl e0 h0 E hN gs) {p t:Nat} (h:t∈jY ((zs.map (·.x)).take p)):∃(q:Nat) (y:Z),q<p∧zs[q]?=some y∧y.x.dst=some t:=by
 unfold jY at h
 obtain⟨x,hx,hd⟩:=List.mem_filterMap.1 h
 obtain⟨q,hq⟩:=xg.1 hx
 rw[xr]at hq
 split at hq
 · rename_i hlt
   rw[xa]at hq
   obtain⟨y,hy,rfl⟩:=wI.1 hq
   exact⟨q,y,hlt,hy,hd⟩
 · cases hq
theorem DH.drop (d:DH L nt ops call ord zs fl e0 h0 E hN gs) {p t:Nat} (h:t∈jY ((zs.map (·.x)).drop p)):∃(q:Nat) (y:Z),p≤q∧zs[q]?=some y∧y.x.dst=some t:=by
 unfold jY at h
 obtain⟨x,hx,hd⟩:=List.mem_filterMap.1 h
 obtain⟨q,hq⟩:=xg.1 hx
 rw[xc,xa]at hq
 obtain⟨y,hy,rfl⟩:=wI.1 hq
 exact⟨p+q,y,by omega,hy,hd⟩
theorem dM {d:Option Nat} {v:AV} {e:Env} {t:Nat} (h:d≠some t):look (aP d v e) t=look e t:=by
 cases d with
 |none=>rfl
 |some s=>simp only[aP,look];rw[if_neg (fun q=>h (by rw[q]))]
theorem dL {v:AV} {e:Env} {t:Nat}:look (aP (some t) v e) t=v:=by simp [aP,look]
theorem DH.fU (d:DH L nt ops call ord zs fl e0 h0 E hN gs) {p q:Nat} (hpq:p≤q) {e1 e2:Env} {h1 h2:H} (a:au call ((zs.map (·.x)).take p) e0 h0=some (e1,h1)) (b:au call ((zs.map (·.x)).take q) e0 h0=some (e2,h2)):h1.next≤h2.next:=by
 have:(zs.map (·.x)).take q=(zs.map (·.x)).take p++((zs.map (·.x)).take q).drop p:=by
  have:=(List.take_append_drop p ((zs.map (·.x)).take q)).symm
  rwa [List.take_take,Nat.min_eq_left hpq]at this
 rw[this,du,a]at b
 exact dw d.nm b
theorem DH.e9 (d:DH L nt ops call ord zs fl e0 h0 E hN gs) {p:Nat} {z:Z} (hz:zs[p]?=some z) {e1:Env} {h1 h2:H} {v:AV} (a:au call ((zs.map (·.x)).take p) e0 h0=some (e1,h1)) (b:ai call z.x e1 h1=some (v,h2)):au call ((zs.map (·.x)).take (p+1)) e0 h0=some (aP z.x.dst v e1,h2):=by
 rw[List.take_add_one,d.zx hz,du,a]
 simp [au,b]
structure Inv (L:Lk) (w0:World) (ops:Array Oper) (call:ae) (zs:List Z) (e0:Env) (h0:H) (E:Env) (gs:List H) (ι0:Io) (M0:Mm) (a0:Act) (listed:Array Bool) (a:Act) (w:World) (ι:Io) (M:Mm) (G:H) (j:Nat):Prop where
 sz:listed.size=ops.size
 cl:Cl ops (fun i=>listed.getD i false=true)
 hG:gs[j]?=some G
 ld:∀(p:Nat) (z:Z),zs[p]?=some z→z.x.op.aR=true→(listed.getD z.i false=true↔nl ((zs.map (·.x)).take p)<j)
 le:j≤nl (zs.map (·.x))
 gr:Gr h0 ι0 M0 G ι M
 r:R L w0 ι M G w
 env:bm L ι M (cut zs (fun i=>listed.getD i false) e0 E) a.tmps
 vG:a.tmps.size=a0.tmps.size
 vU:a.defers=a0.defers
 bi:∀(q:Nat) (y:Z) (eq:Env) (hq:H) (v:AV) (h':H) (id:Nat),zs[q]?=some y→y.x.op.aK=true→listed.getD y.i false=false→au call ((zs.map (·.x)).take q) e0 h0=some (eq,hq)→ai call y.x eq hq=some (v,h')→v.id?=some id→ι id=none
theorem iE {listed:Array Bool} {i k:Nat} (hi:i<listed.size):(listed.setIfInBounds i true).getD k false=true↔k=i∨listed.getD k false=true:=by
 by_cases h:k=i
 · subst h;simp [hi]
 · rw[getD_set_ne false (fun q=>h q.symm)];simp [h]
theorem Inv.next (d : DH L nt ops call ord zs fl e0 h0 E hN gs) {ι0 : Io} {M0 : Mm} {a0 : Act} {listed : Array Bool} {a : Act} {w : World} {ι : Io} {M : Mm} {G : H} {j : Nat} (inv : Inv L w0 ops call zs e0 h0 E gs ι0 M0 a0 listed a w ι M G j) (hnt : nt ≤ a0.tmps.size)
 {p:Nat} {z:Z} (hz:zs[p]?=some z) (hnd:listed.getD z.i false=false) {o:Oper} (hio:ops[z.i]?=some o) (hc:bK L nt ops o=some z.x) (hed:∀e∈je o,listed.getD e false=true)
 {e1:Env} {h2:H} {v:AV} (t3:au call ((zs.map (·.x)).drop (p+1)) (aP z.x.dst v e1) h2=some (E,hN))
 {ι':Io} {M':Mm} {G':H} {j':Nat} {v':Value} {w':World} (hG:gs[j']?=some G')
 (hld:∀(q:Nat) (y:Z),zs[q]?=some y→y.x.op.aR=true→(y.i=z.i∨listed.getD y.i false=true↔nl ((zs.map (·.x)).take q)<j')) (hle:j'≤nl (zs.map (·.x))) (hle1:oT ι ι') (hle2:oY M M') (hgr:Gr h0 ι0 M0 G' ι' M') (hr:R L w0 ι' M' G' w') (hv:V L ι' M' v v')
 (hbi:∀(q:Nat) (y:Z) (eq:Env) (hq:H) (u:AV) (h':H) (id:Nat),zs[q]?=some y→y.x.op.aK=true→q≠p→listed.getD y.i false=false→au call ((zs.map (·.x)).take q) e0 h0=some (eq,hq)→ai call y.x eq hq=some (u,h')→u.id?=some id→ι' id=none):
 Inv L w0 ops call zs e0 h0 E gs ι0 M0 a0 (listed.setIfInBounds z.i true) (a.put o.dst v') w' ι' M' G' j':=by
 obtain⟨_,hdst,hlt,_⟩:=cD hc
 have hi:z.i<listed.size:=by rw[inv.sz];exact(xb.1 hio).1
 have hg:∀k,((listed.setIfInBounds z.i true).getD k false=true↔k=z.i∨listed.getD k false=true):=fun k=>iE hi
 refine⟨by simp [inv.sz], ?_,hG, ?_,hle,hgr,hr, ?_,by rw[iN];exact inv.vG,by rw[put_defers];exact inv.vU, ?_⟩
 · intro k o' hk hd e he
   rw[hg]at hd ⊢
   rcases hd with rfl|hd
   · rw[hio]at hk;obtain rfl:=wH hk
     exact .inr (hed e he)
   · exact .inr (inv.cl k o' hk hd e he)
 · intro q y hy hl
   rw[hg];exact hld q y hy hl
 · have key:∀t,look (cut zs (fun i=>(listed.setIfInBounds z.i true).getD i false) e0 E) t=look (aP z.x.dst v (cut zs (fun i=>listed.getD i false) e0 E)) t:=by
    intro t
    by_cases ht:z.x.dst=some t
    · rw [ht, dL, cut, bw]
      rw[if_neg]
      · rw[br t3 t (fun q=>by
         obtain⟨s,y,hs,hy,hyd⟩:=d.drop q
         have:=d.py hz hy ht hyd;omega),ht,dL]
      · intro q
        obtain⟨y,hy,hyu,hyd⟩:=cH.1 q
        obtain⟨s,hs⟩:=xg.1 hy
        obtain rfl:=d.py hz hs ht hyd
        rw[hz]at hs;obtain rfl:=wH hs
        rw[(hg z.i).2 (.inl rfl)]at hyu;cases hyu
    · rw [dM ht, cut, cut, bw, bw]
      have:t∈tM zs (fun i=>(listed.setIfInBounds z.i true).getD i false)↔t∈tM zs (fun i=>listed.getD i false):=by
       rw[cH,cH]
       constructor
       · rintro ⟨y,hy,hyu,hyd⟩
         refine⟨y,hy, ?_,hyd⟩
         cases hb:listed.getD y.i false with
         |false=>rfl
         |true=>rw[(hg y.i).2 (.inr hb)]at hyu;cases hyu
       · rintro ⟨y,hy,hyu,hyd⟩
         refine⟨y,hy, ?_,hyd⟩
         cases hb:(listed.setIfInBounds z.i true).getD y.i false with
         |false=>rfl
         | true =>
           rcases (hg y.i).1 hb with q|q
           · obtain⟨s,hs⟩:=xg.1 hy
             obtain rfl:=d.inj hs hz q
             rw[hz]at hs;obtain rfl:=wH hs
             exact absurd hyd ht
           · rw[hyu]at q;cases q
      by_cases hu:t∈tM zs (fun i=>listed.getD i false)
      · rw[if_pos hu,if_pos (this.2 hu)]
      · rw[if_neg hu,if_neg (fun q=>hu (this.1 q))]
   intro t
   rw[key t]
   have:=(inv.env.mono hle1 hle2).put (a:=a) (d:=z.x.dst) (v:=v) hv (fun s hs=>by
    rw[inv.vG];exact Nat.lt_of_lt_of_le (hlt s (by rw[←hdst];exact hs)) hnt)
   rw[hdst]at this ⊢
   exact this t
 · intro q y eq hq u h' id hy hb hu hp hev hid
   have hne:q≠p:=fun e=>by
    subst e
    rw[hz]at hy;obtain rfl:=wH hy
    rw[(hg z.i).2 (.inl rfl)]at hu;cases hu
   refine hbi q y eq hq u h' id hy hb hne ?_ hp hev hid
   cases hb:listed.getD y.i false with
   |false=>rfl
   |true=>rw[(hg y.i).2 (.inr hb)]at hu;cases hu
end
end Ab
namespace Ab
open Go RowKit
section
variable {L:Lk} {w0:World}
variable {nt:Nat} {ops:Array Oper} {call:ae} {ord:List Nat} {zs:List Z} {fl:List (Nat×List Nat)} {e0:Env} {h0:H} {E:Env} {hN:H} {gs:List H}
theorem DH.rq (d:DH L nt ops call ord zs fl e0 h0 E hN gs) {done:Nat→Prop} (hcl:Cl ops done) {p:Nat} {z:Z} (hz:zs[p]?=some z) (hd:done z.i) {k:Nat} (hk:z.m.testBit k=true):done k:=
 iJ hcl d.mz (fun z hz=>by simp at hz) z (wX hz) hd k hk
theorem mR {f:List Nat} {z y:Z} (h:bV f z y=true) (h1:z.x.op.aR=true) (h2:y.x.op.aR=true):y.m.testBit z.i=true:=by
 simp only[bV,wT,h1,h2,Bool.not_true,Bool.false_or,Bool.true_and]at h
 exact h.2.2.2
theorem oH {f:List Nat} {z y:Z} (h:bV f z y=true) {t:Nat} (h1:z.x.dst=some t) (h2:t∈y.x.tm):y.m.testBit z.i=true:=by
 simp only[bV,wT,h1,xh,Bool.not_eq_true']at h
 rcases h.2.1.2 with q|q
 · rw[List.contains_iff_mem.2 h2]at q;cases q
 · exact q
theorem oG {f:List Nat} {z y:Z} (h:bV f z y=true) {t:Nat} (h1:y.x.dst=some t) (h2:t∈z.x.tm):y.m.testBit z.i=true∧f=[]:=by
 simp only[bV,wT,h1,xh,Bool.not_eq_true']at h
 rcases h.2.2.1 with q|q
 · rw[List.contains_iff_mem.2 h2]at q;cases q
 · exact⟨q.1,by simpa using q.2⟩
theorem oz {l:List Z} {f:List Nat} {own n:Nat} {z:Z} (h:eZ l f own n z=true) {t:Nat} (h1:z.x.dst=some t) (h2:t∈z.x.tm):f=[]:=by
 simp only[eZ,wT,h1,xh,Bool.not_eq_true']at h
 rcases h.1 with q|q
 · rw[List.contains_iff_mem.2 h2]at q;cases q
 · simpa using q
theorem pU {l:List Z} {f:List Nat} {own n:Nat} {z:Z} (h:eZ l f own n z=true) (hf:f≠[]):∃t,z.x.dst=some t:=by
 simp only[eZ,wT]at h
 cases hd:z.x.dst with
 |some t=>exact⟨t,rfl⟩
 |none=>rw[hd]at h;simp at h;exact absurd h.1.2 hf
theorem mP {l:List Z} {f:List Nat} {own n:Nat} {z:Z} (h:eZ l f own n z=true) (hb:z.x.op.aK=true∨z.x.op.reads=true) {j:Nat} (hj:j≤n) (hs:ei z j 0 l=true):j=own∨j∈f:=by
 simp only[eZ,wT,xh,Bool.not_eq_true',List.all_eq_true,List.mem_range]at h
 have h2:=h.2.resolve_left (by rcases hb with q|q<;>simp [q])
 rcases h2 j (by omega)with (q|q)|q
 · exact .inl (by simpa using q)
 · rw[hs]at q;cases q
 · exact .inr (by simpa using q)
theorem DH.vQ (d : DH L nt ops call ord zs fl e0 h0 E hN gs) {dn : Nat → Bool} {p : Nat} {z : Z} (hz : zs[p]? = some z) (hnd : dn z.i = false)
 (anc:∀(q:Nat) (y:Z),zs[q]?=some y→z.m.testBit y.i=true→y.i≠z.i→dn y.i=true) (desc:∀(q:Nat) (y:Z),zs[q]?=some y→y.m.testBit z.i=true→dn y.i=false)
 {e1:Env} {h1 h2:H} {v:AV} (t1:au call ((zs.map (·.x)).take p) e0 h0=some (e1,h1)) (t3:au call ((zs.map (·.x)).drop (p+1)) (aP z.x.dst v e1) h2=some (E,hN)):
 cU e1 (cut zs dn e0 E) z.x.tm∧(eQ fl p≠[]→cU e1 E z.x.tm):=by
 have main:∀t∈z.x.tm,look e1 t=look (cut zs dn e0 E) t∧(eQ fl p≠[]→look e1 t=look E t):=by
  intro t ht
  rw[cut,bw]
  by_cases hu:∃(q:Nat) (y:Z),zs[q]?=some y∧y.x.dst=some t
  · obtain⟨q,y,hy,hyd⟩:=hu
    have uniq:∀(s:Nat) (u:Z),zs[s]?=some u→u.x.dst=some t→s=q:=fun s u hs hd=>d.py hs hy hd hyd
    rcases Nat.lt_trichotomy q p with hlt|rfl|hlt
    · have hm:=oH (d.pair q p y z hlt hy hz) hyd ht
      have hne:y.i≠z.i:=fun e=>by have:=d.inj hy hz e;omega
      have hdy:=anc q y hy hm hne
      have hE:look E t=look e1 t:=by
       rw[br t3 t (fun m=>by obtain⟨s,u,a,b,c⟩:=d.drop m;have:=uniq s u b c;omega)]
       exact dM fun e=>by have:=uniq p z hz e;omega
      rw[if_neg]
      · exact⟨hE.symm,fun _=>hE.symm⟩
      · intro m
        obtain⟨u,hu1,hu2,hu3⟩:=cH.1 m
        obtain⟨s,hs⟩:=xg.1 hu1
        have:=uniq s u hs hu3;subst this
        rw[hy]at hs;obtain rfl:=wH hs
        rw[hdy]at hu2;cases hu2
    · rw[hz]at hy;obtain rfl:=wH hy
      have hf:=oz (d.one q z hz) hyd ht
      rw[if_pos (cH.2 ⟨z,wX hz,hnd,hyd⟩)]
      exact⟨br t1 t fun m=>by obtain⟨s,u,a,b,c⟩:=d.take m;have:=uniq s u b c;omega,fun q=>absurd hf q⟩
    · obtain⟨hm,hf⟩:=oG (d.pair p q z y hlt hz hy) hyd ht
      have hdy:=desc q y hy hm
      rw[if_pos (cH.2 ⟨y,wX hy,hdy,hyd⟩)]
      exact⟨br t1 t fun m=>by obtain⟨s,u,a,b,c⟩:=d.take m;have:=uniq s u b c;omega,fun q=>absurd hf q⟩
  · have hE:look E t=look e1 t:=by
     rw[br t3 t (fun m=>by obtain⟨s,u,a,b,c⟩:=d.drop m;exact hu ⟨s,u,b,c⟩)]
     exact dM fun e=>hu ⟨p,z,hz,e⟩
    rw[if_neg]
    · exact⟨hE.symm,fun _=>hE.symm⟩
    · intro m
      obtain⟨u,hu1,hu2,hu3⟩:=cH.1 m
      obtain⟨s,hs⟩:=xg.1 hu1
      exact hu ⟨s,u,hs,hu3⟩
 exact⟨fun t ht=>(main t ht).1,fun hf t ht=>(main t ht).2 hf⟩
set_option maxHeartbeats 1000000 in
theorem Inv.step (hcal : Callee L w0 call) (hbod : dD L) (d : DH L nt ops call ord zs fl e0 h0 E hN gs) {ι0 : Io} {M0 : Mm} {a0 : Act} {listed : Array Bool} {a : Act} {w : World} {ι : Io} {M : Mm} {G : H} {j : Nat}
 (inv:Inv L w0 ops call zs e0 h0 E gs ι0 M0 a0 listed a w ι M G j) (hnt:nt≤a0.tmps.size) {i:Nat} (hi:i∈Region.ready .any ops listed) {Q:Exit→Act→World→Prop} {K:Act→World→Prop}
 (hK:∀a' w' ι' M' G' j',Inv L w0 ops call zs e0 h0 E gs ι0 M0 a0 (listed.setIfInBounds i true) a' w' ι' M' G' j'→K a' w'):wpOp L.P ops Q i K a w:=by
 obtain⟨hun,o,hio,hed'⟩:=mem_ready.1 hi
 have hin:i<ops.size:=(xb.1 hio).1
 have hnd:listed.getD i false=false:=by
  rw[wV]at hun ⊢
  rw[Array.getElem?_eq_getElem (by rw[inv.sz];exact hin)]at hun ⊢
  exact hun
 have hed:∀e∈je o,listed.getD e false=true:=by
  intro e he
  unfold je at he
  obtain⟨x,hx,rfl⟩:=List.mem_map.1 he
  obtain⟨hx1,hx2⟩:=List.mem_filter.1 hx
  exact hed' x (by simpa using hx1) hx2
 obtain⟨p,z,hz,rfl⟩:=d.v9 hin
 obtain⟨o',ho',hc⟩:=(eY d.mz).2 z (wX hz)
 rw[hio]at ho';obtain rfl:=wH ho'
 obtain⟨e1,h1,v,h2,G1,t1,t2,t3,t4,t5,t6⟩:=jg d.ev (d.zx hz)
 have hcl':Cl ops (fun k=>k=z.i∨listed.getD k false=true):=by
  intro k o2 hk hd e he
  rcases hd with rfl|hd
  · rw[hio]at hk;obtain rfl:=wH hk;exact .inr (hed e he)
  · exact .inr (inv.cl k o2 hk hd e he)
 have anc:∀(q:Nat) (y:Z),zs[q]?=some y→z.m.testBit y.i=true→y.i≠z.i→listed.getD y.i false=true:=fun q y hy hm hne=>
  (d.rq hcl' hz (.inl rfl) hm).resolve_left hne
 have desc:∀(q:Nat) (y:Z),zs[q]?=some y→y.m.testBit z.i=true→listed.getD y.i false=false:=fun q y hy hm=>by
  cases hb:listed.getD y.i false with
  |false=>rfl
  |true=>have:listed.getD z.i false=true:=d.rq inv.cl hy hb hm;rw[hnd]at this;cases this
 obtain⟨ag,agE⟩:=d.vQ (dn:=fun k=>listed.getD k false) hz hnd anc desc t1 t3
 have hev:ai call z.x (cut zs (fun i=>listed.getD i false) e0 E) h1=some (v,h2):=by rw[←dq ag];exact t2
 have hlt1:∀(q:Nat) (y:Z),zs[q]?=some y→y.x.op.aR=true→q<p→z.x.op.aR=true→nl ((zs.map (·.x)).take q)<nl ((zs.map (·.x)).take p):=fun q y hy hl hq _=>by
  have:=cI (d.zx hy);rw[if_pos hl]at this
  have:=iL (os:=zs.map (·.x)) (Nat.succ_le_of_lt hq)
  simp only[Nat.succ_eq_add_one]at this;omega
 have hbi0:∀(ι':Io),(∀id l,id<G.next→ι' id=some l→ι id=some l)→(∀id l,ι' id=some l→id<G.next)→
  ∀(q:Nat) (y:Z) (eq:Env) (hq:H) (u:AV) (h':H) (id:Nat),zs[q]?=some y→y.x.op.aK=true→q≠p→listed.getD y.i false=false→au call ((zs.map (·.x)).take q) e0 h0=some (eq,hq)→ai call y.x eq hq=some (u,h')→u.id?=some id→ι' id=none:=by
  intro ι' hold hdom q y eq hq u h' id hy hb hne hu hp hev' hid
  cases hc:ι' id with
  |none=>rfl
  | some l =>
    have:=hold id l (hdom id l hc) hc
    rw[inv.bi q y eq hq u h' id hy hb hu hp hev' hid]at this;cases this
 have hld0:z.x.op.aR=false→∀(q:Nat) (y:Z),zs[q]?=some y→y.x.op.aR=true→(y.i=z.i∨listed.getD y.i false=true↔nl ((zs.map (·.x)).take q)<j):=by
  intro hzl q y hy hl
  rw[←inv.ld q y hy hl]
  constructor
  · rintro (e|e)
    · have:=d.inj hy hz e;subst this
      rw[hz]at hy;obtain rfl:=wH hy
      rw[hzl]at hl;cases hl
    · exact e
  · exact .inr
 have quiet:z.x.op.aR=false→ai call z.x (cut zs (fun i=>listed.getD i false) e0 E) G=some (v,G)→wpOp L.P ops Q z.i K a w:=by
  intro hzl hq
  refine fS hcal hbod hio hc inv.env inv.r hq fun v' w' hout=> ?_
  obtain⟨ι',M',a1,a2,a3,r',hv'⟩:=hout
  exact hK _ _ _ _ _ _ (inv.next d hnt hz hnd hio hc hed t3 inv.hG (hld0 hzl) inv.le a1 a2 (inv.gr.trans ⟨wU _,a1,a2,a3⟩) r' hv' (hbi0 ι' a3 r'.kU))
 by_cases hzl:z.x.op.aR=true
 ·
  have hjp:nl ((zs.map (·.x)).take p)=j:=by
   have g1:j≤nl ((zs.map (·.x)).take p):=by
    have:=inv.ld p z hz hzl
    rcases Nat.lt_or_ge (nl ((zs.map (·.x)).take p)) j with q|q
    · rw[this.2 q]at hnd;cases hnd
    · exact q
   rcases Nat.lt_or_ge j (nl ((zs.map (·.x)).take p))with q|q
   · obtain⟨s,x,hs,hx,hxl,hxn⟩:=jt _ _ _ q
     rw[xa]at hx
     obtain⟨y,hy,rfl⟩:=wI.1 hx
     have hm:=mR (d.pair s p y z hs hy hz) hxl hzl
     have hne:y.i≠z.i:=fun e=>by have:=d.inj hy hz e;omega
     have:=(inv.ld s y hy hxl).1 (anc s y hy hm hne)
     omega
   · omega
  have hGe:G=h1:=by have:=t6 hzl;rw[hjp,inv.hG]at this;exact wH this
  subst hGe
  rw[if_pos hzl,hjp]at t4
  refine fS hcal hbod hio hc inv.env inv.r hev fun v' w' hout=> ?_
  obtain⟨ι',M',a1,a2,a3,r',hv'⟩:=hout
  have hgr:Gr G ι M h2 ι' M':=⟨cW d.nm t2,a1,a2,a3⟩
  refine hK _ _ _ _ _ _ (inv.next d hnt hz hnd hio hc hed t3 t4 ?_ ?_ a1 a2 (inv.gr.trans (hgr.gw t5)) (r'.gw t5) hv' ?_)
  · intro q y hy hl
    rcases Nat.lt_trichotomy q p with hlt|rfl|hlt
    · have h3:=hlt1 q y hy hl hlt hzl
      have h4:=(inv.ld q y hy hl).2 (by omega)
      exact⟨fun _=>by omega,fun _=>.inr h4⟩
    · rw[hz]at hy;obtain rfl:=wH hy
      exact⟨fun _=>by omega,fun _=>.inl rfl⟩
    · have h3:=cI (d.zx hz);rw[if_pos hzl]at h3
      have h4:=iL (os:=zs.map (·.x)) (Nat.succ_le_of_lt hlt)
      simp only[Nat.succ_eq_add_one]at h4
      constructor
      · rintro (e|e)
        · have:=d.inj hy hz e;omega
        · have:=(inv.ld q y hy hl).1 e;omega
      · intro h5;omega
  · have h3:=cI (d.zx hz);rw[if_pos hzl]at h3
    have:=ki (zs.map (·.x)) (p+1);omega
  · intro q y eq hq u h' id hy hb hne hu hp hev' hid
    cases hcc:ι' id with
    |none=>rfl
    | some l =>
      rcases cG hb hev' with ⟨rfl,_,_⟩|⟨b,_,_,rfl,hid',_⟩
      · cases hid
      · rw[hid]at hid';obtain rfl:=wH hid'
        rcases Nat.lt_or_gt_of_ne hne with hlt|hlt
        · have h3:=d.fU (Nat.succ_le_of_lt hlt) (d.e9 hy hp hev') t1
          simp only[bG]at h3
          have:=a3 _ l (by omega) hcc
          rw[inv.bi q y eq hq u _ _ hy hb hu hp hev' hid]at this;cases this
        · have h3:=d.fU (Nat.succ_le_of_lt hlt) (d.e9 hz t1 t2) hp
          have:=r'.kU _ l hcc
          omega
 · have hzl' : z.x.op.aR = false := by simpa using hzl
   rw[if_neg hzl,Nat.add_zero]at t4
   have stage:z.x.op.aK=true∨z.x.op.reads=true→j=nl ((zs.map (·.x)).take p)∨j∈eQ fl p:=by
    intro hbr
    refine mP (d.one p z hz) hbr inv.le (eJ fun q y hy hl=> ?_)
    have hne:y.i≠z.i:=fun e=>by
     have:=d.inj hy hz e;subst this
     rw[hz]at hy;obtain rfl:=wH hy
     rw[hzl']at hl;cases hl
    rw[wY,List.map_take]
    refine⟨fun hm=>(inv.ld q y hy hl).1 (anc q y hy hm hne),fun hm=> ?_⟩
    rcases Nat.lt_or_ge (nl ((zs.map (·.x)).take q)) j with h3|h3
    · have:=(inv.ld q y hy hl).2 h3;rw[desc q y hy hm]at this;cases this
    · exact h3
   have stable:j∈eQ fl p→∃t,z.x.dst=some t∧look E t=v∧bO call (zs.map (·.x)) E gs p j=true:=by
    intro hj
    obtain⟨t,ht⟩:=pU (d.one p z hz) (fun q=>by rw[q]at hj;simp at hj)
    refine⟨t,ht, ?_,gE d.st p j hj⟩
    rw[br t3 t (fun m=>by obtain⟨s,u,a,b,c⟩:=d.drop m;have:=d.py hz b ht c;omega),ht,dL]
   cases hzb:z.x.op.aK with
   | false =>
     refine quiet hzl' ?_
     cases hzr:z.x.op.reads with
     |false=>exact kW hzl' hzb hzr hev G
     | true =>
       rcases stage (.inr hzr)with hj|hj
       · rw[←hj,inv.hG]at t4;obtain rfl:=wH t4
         obtain rfl:=eN hzl' hzb t2
         exact kX hzl' hzb hev t5
       · obtain⟨t,ht,hE,hst⟩:=stable hj
         have hagE:=agE (fun q=>by rw[q]at hj;simp at hj)
         simp only[bO,d.zx hz,inv.hG,hzb,wR,xp,ht,Option.map_some,hE]at hst
         split at hst
         · rename_i u g' hu
           have:=beq_eq hst;subst this
           obtain rfl:=eN hzl' hzb hu
           rw[←dq ag,dq hagE];exact hu
         · cases hst
   | true =>
     rcases cG hzb hev with ⟨rfl,rfl,hskip⟩|⟨b,hb1,rfl,rfl,hid,_⟩
     · exact quiet hzl' (hskip G)
     · have hget:G.get h1.next=some b.1:=by
        rcases stage (.inl hzb)with hj|hj
        · rw[←hj,inv.hG]at t4;obtain rfl:=wH t4
          exact t5.some (by simp [H.aZ])
        · obtain⟨t,ht,hE,hst⟩:=stable hj
          have hagE:=agE (fun q=>by rw[q]at hj;simp at hj)
          have hbE:bg E z.x.op=some b:=by
           rw[←hb1,←dH (e:=e1) fun t ht=>hagE t (List.mem_append_right _ ht),dH fun t ht=>ag t (List.mem_append_right _ ht)]
          simp only[bO,d.zx hz,inv.hG,hzb,if_true,ht,Option.map_some,hE,hbE,hid]at hst
          split at hst
          · rename_i q;have:=wH q;rw[this]at hid;cases hid
          · rename_i q;obtain rfl:=wH q
            simp only[hid]at hst
            split at hst
            · rename_i cs hcs;rw[hcs,pf hst]
            · cases hst
          · cases hst
       have hnone:ι h1.next=none:=inv.bi p z e1 h1 _ _ _ hz hzb hnd t1 t2 hid
       refine lq hio hc inv.env hev (fun hop _=> ?_) (fun q _=>by rw[q]at hid;cases hid)
       obtain⟨v',w',g1,hm⟩:=gk inv.env hop (cs:=b.1) (mk:=b.2) hb1
       refine aa g1 ?_
       obtain⟨dr,arr,ty,fz,rfl,hfz,hlen,hval,hv⟩:=hm.ex
       have rn:=(inv.r.drew dr).sY (id:=h1.next) hnone (cs:=b.1) (arr:=arr) (t:=ty) (fz:=fz) (h':=G) hfz (wU _) (G.lt _ _ hget)
        (fun i c q=>by
          by_cases e:i=h1.next
          · subst e;rw[hget]at q;exact .inl ⟨rfl,(wH q).symm⟩
          · exact .inr ⟨e,q⟩) hlen hval
       refine hK _ _ _ _ _ _ (inv.next d hnt hz hnd hio hc hed t3 inv.hG (hld0 hzl') inv.le (Io.fL _ hnone) (fun _ _ _ q=>q) ⟨inv.gr.nx,fun _ _ q=>Io.fL _ hnone _ _ (inv.gr.io _ _ q),inv.gr.mm, ?_⟩ rn (hv _ _ (by simp [Io.put])) ?_)
       · intro id l hid' q
         refine inv.gr.ju id l hid' ?_
         have:=d.fU (Nat.zero_le p) (e1:=e0) (h1:=h0) rfl t1
         simp only[Io.put]at q
         rwa [if_neg (by omega)]at q
       · intro q y eq hq u h' id hy hb hne hu hp hev' hid2
         have h3:=inv.bi q y eq hq u h' id hy hb hu hp hev' hid2
         simp only[Io.put]
         rw[if_neg]
         · exact h3
         · rintro rfl
           rcases cG hb hev' with ⟨rfl,_,_⟩|⟨b',_,_,rfl,hid',_⟩
           · cases hid2
           · rw[hid2]at hid'
             have hid':=wH hid'
             rcases Nat.lt_or_gt_of_ne hne with hlt|hlt
             · have h4:=d.fU (Nat.succ_le_of_lt hlt) (d.e9 hy hp hev') t1
               simp only[bG]at h4;omega
             · have h4:=d.fU (Nat.succ_le_of_lt hlt) (d.e9 hz t1 t2) hp
               simp only[bG]at h4;omega
end
end Ab
namespace Ab
open Go RowKit
theorem jd {α:Type} {p q:α→Bool}:∀{l:List α},(∀x∈l,q x=true→p x=true)→∀{x:α},x∈l→p x=true→q x=false→l.countP q<l.countP p
 |[],_,x,hx,_,_=>by simp at hx
 | y :: l, h, x, hx, hp, hq => by
   have hle:l.countP q≤l.countP p:=List.countP_mono_left fun z hz=>h z (by simp [hz])
   rw[List.countP_cons,List.countP_cons]
   rcases xn.1 hx with rfl|hx
   · rw[hp,hq];simp;omega
   · have:=jd (fun z hz=>h z (by simp [hz])) hx hp hq
     have h2:=h y (by simp)
     cases hqy:q y with
     |false=>simp;omega
     |true=>rw[h2 hqy];simp;omega
section
variable {L:Lk} {w0:World}
variable {nt:Nat} {ops:Array Oper} {call:ae} {ord:List Nat} {zs:List Z} {fl:List (Nat×List Nat)} {e0:Env} {h0:H} {E:Env} {hN:H} {gs:List H}
theorem Inv.fin (d:DH L nt ops call ord zs fl e0 h0 E hN gs) {ι0:Io} {M0:Mm} {a0:Act} {listed:Array Bool} {a:Act} {w:World} {ι:Io} {M:Mm} {G:H} {j:Nat}
 (inv:Inv L w0 ops call zs e0 h0 E gs ι0 M0 a0 listed a w ι M G j) (hall:∀z∈zs,listed.getD z.i false=true):G=hN∧bm L ι M E a.tmps:=by
 have hj:j=nl (zs.map (·.x)):=by
  rcases Nat.lt_or_ge j (nl (zs.map (·.x)))with h|h
  · obtain⟨q,x,_,hx,hl,hn⟩:=jt (zs.map (·.x)) (zs.map (·.x)).length j (by rw[List.take_length];exact h)
    rw[xa]at hx
    obtain⟨y,hy,rfl⟩:=wI.1 hx
    have:=(inv.ld q y hy hl).1 (hall y (wX hy))
    omega
  · have:=inv.le;omega
 have hG:=inv.hG
 rw[hj,gm d.ev]at hG
 refine⟨(wH hG).symm,fun t=> ?_⟩
 have:=inv.env t
 rw[cut,bw,if_neg]at this
 · exact this
 · intro m
   obtain⟨z,hz,hu,_⟩:=cH.1 m
   simp only[hall z hz]at hu;cases hu
theorem Inv.any (hcal : Callee L w0 call) (hbod : dD L) (d : DH L nt ops call ord zs fl e0 h0 E hN gs) {ι0 : Io} {M0 : Mm} {a0 : Act} (hnt : nt ≤ a0.tmps.size) {Q : Exit → Act → World → Prop}
 (hQ:∀ι' M' a' w',Gr h0 ι0 M0 hN ι' M'→R L w0 ι' M' hN w'→bm L ι' M' E a'.tmps→a'.tmps.size=a0.tmps.size→a'.defers=a0.defers→Q .normal a' w'):
 ∀(fuel:Nat) {listed:Array Bool} {a:Act} {w:World} {ι:Io} {M:Mm} {G:H} {j:Nat},Inv L w0 ops call zs e0 h0 E gs ι0 M0 a0 listed a w ι M G j→(zs.countP fun z=> !listed.getD z.i false)≤fuel→wpAny L.P .any ops Q fuel listed a w:=by
 intro fuel
 have fin:∀{listed:Array Bool} {a:Act} {w:World} {ι:Io} {M:Mm} {G:H} {j:Nat},Inv L w0 ops call zs e0 h0 E gs ι0 M0 a0 listed a w ι M G j→(∀z∈zs,listed.getD z.i false=true)→Q .normal a w:=by
  intro listed a w ι M G j inv hall
  obtain⟨rfl,he⟩:=inv.fin d hall
  exact hQ _ _ _ _ inv.gr inv.r he inv.vG inv.vU
 have mem:∀{listed:Array Bool},∀i∈Region.ready .any ops listed,∃z∈zs,z.i=i∧listed.getD z.i true=false:=by
  intro listed i hi
  obtain⟨hu,o,ho,_⟩:=mem_ready.1 hi
  obtain⟨p,z,hz,rfl⟩:=d.v9 (xb.1 ho).1
  exact⟨z,wX hz,rfl,hu⟩
 have tf:∀{listed:Array Bool} {i:Nat},listed.getD i true=false→listed.getD i false=false:=by
  intro listed i h
  rw[wV]at h ⊢
  cases hg:listed[i]? with
  |none=>rfl
  |some b=>rw[hg]at h;exact h
 induction fuel with
 | zero =>
   intro listed a w ι M G j inv hc
   have hall:∀z∈zs,listed.getD z.i false=true:=by
    intro z hz
    have:=List.countP_eq_zero.1 (Nat.le_zero.1 hc) z hz
    simpa using this
   refine⟨?_,fin inv hall⟩
   cases hr:Region.ready .any ops listed with
   |nil=>rfl
   | cons i l =>
     obtain⟨z,hz,rfl,hu⟩:=mem i (by rw[hr];simp)
     have:=tf hu;rw[hall z hz]at this;cases this
 | succ fuel ih =>
   intro listed a w ι M G j inv hc
   refine⟨fun hr=> ?_,fun i hi=> ?_⟩
   · by_cases hall:∀z∈zs,listed.getD z.i false=true
     · exact fin inv hall
     · have:∃z∈zs,¬listed.getD z.i false=true:=by
        by_cases hx:∃z∈zs,¬listed.getD z.i false=true
        · exact hx
        · exact absurd (fun z hz=>by
           cases hb:listed.getD z.i false with
           |true=>rfl
           |false=>exact absurd ⟨z,hz,by simp [hb]⟩ hx) hall
       obtain⟨z,hz,hnd,o,ho,hed⟩:=js (done:=fun i=>listed.getD i false=true) d.mz (fun z hz=>by simp at hz) this
       have:z.i∈Region.ready .any ops listed:=by
        refine mem_ready.2 ⟨?_,o,ho,fun e he hb=>hed e.on (List.mem_map.2 ⟨e,List.mem_filter.2 ⟨by simpa using he,hb⟩,rfl⟩)⟩
        have hlt:z.i<listed.size:=by rw[inv.sz];exact(xb.1 ho).1
        simp only[Bool.not_eq_true]at hnd
        rw[wV,Array.getElem?_eq_getElem hlt]at hnd ⊢
        exact hnd
       rw[hr]at this;cases this
   · refine inv.step hcal hbod d hnt hi fun a' w' ι' M' G' j' inv'=>ih inv' ?_
     obtain⟨z,hz,rfl,hu⟩:=mem i hi
     have hlt:z.i<listed.size:=by
      obtain⟨_,o,ho,_⟩:=mem_ready.1 hi
      rw[inv.sz];exact(xb.1 ho).1
     have:=jd (l:=zs) (p:=fun z=> !listed.getD z.i false) (q:=fun y=> !(listed.setIfInBounds z.i true).getD y.i false) (fun y hy hq=>by
      cases hb:listed.getD y.i false with
      |false=>rfl
      |true=>rw[(iE hlt).2 (.inr hb)]at hq;cases hq) hz (by simp only[tf hu];rfl) (by simp only[(iE hlt).2 (.inl rfl)];rfl)
     omega
theorem kV (hm : L.P.follows .mixedOrders = true) (hcal : Callee L w0 call) (hbod : dD L) (hn : aT call) {os : List aj} (hc : lV L nt ops ord fl = some os) {ι : Io} {M : Mm} {w : World} {a : Act} {id : Nat}
 (he:bm L ι M e0 a.tmps) (hnt:nt≤a.tmps.size) (r:R L w0 ι M h0 w) (hev:aQ call os e0 h0=some (E,hN,gs)) (hst:bh call os E gs fl=true) {Q:Exit→Act→World→Prop}
 (hQ:∀ι' M' a' w',Gr h0 ι M hN ι' M'→R L w0 ι' M' hN w'→bm L ι' M' E a'.tmps→a'.tmps.size=a.tmps.size→a'.defers=a.defers→Q .normal a' w'):(Code.region id ops true).wp L.P Q a w:=by
 obtain⟨zs,rfl,d⟩:=DH.of hc hev hst hn
 refine wp_region_any hm ?_
 obtain⟨G,hG,hg⟩:=dK hev
 have hf:∀i,(Array.replicate ops.size false).getD i false=false:=fun i=>by
  rw[wV]
  cases h:(Array.replicate ops.size false)[i]? with
  |none=>rfl
  |some b=>obtain⟨hlt,hb⟩:=xb.1 h;simp at hb;simp [←hb]
 have inv:Inv L w0 ops call zs e0 h0 E gs ι M a (Array.replicate ops.size false) a {w with drawn:=w.drawn+1} ι M G 0:=by
  refine⟨by simp,fun i o _ h=>(by have h2:(Array.replicate ops.size false).getD i false=true:=h;rw[hf]at h2;cases h2),hG,fun p z _ _=>⟨fun h=>(by rw[hf]at h;cases h),fun h=>(by omega)⟩,Nat.zero_le _,⟨hg.nx,fun _ _ q=>q,fun _ _ _ q=>q,fun _ _ _ q=>q⟩,(r.drew _).gw hg,fun t=> ?_,rfl,rfl, ?_⟩
  · have hlk:look (cut zs (fun i=>(Array.replicate ops.size false).getD i false) e0 E) t=look e0 t:=by
     rw[cut,bw]
     by_cases hu:t∈tM zs fun i=>(Array.replicate ops.size false).getD i false
     · rw[if_pos hu]
     · rw[if_neg hu]
       refine br (cO d.ev) t fun m=>hu ?_
       have:t∈jY ((zs.map (·.x)).drop 0):=m
       obtain⟨q,y,_,hy,hd⟩:=d.drop this
       exact cH.2 ⟨y,wX hy,hf _,hd⟩
    rw[hlk];exact he t
  · intro q y eq hq v h' id hy hb _ hp hev' hid
    cases hι:ι id with
    |none=>rfl
    | some l =>
      rcases cG hb hev' with ⟨rfl,_,_⟩|⟨b,_,_,rfl,hid',_⟩
      · cases hid
      · rw[hid]at hid';obtain rfl:=wH hid'
        have h1:=r.kU _ l hι
        have h2:=d.fU (Nat.zero_le q) (e1:=e0) (h1:=h0) rfl hp
        omega
 refine inv.any hcal hbod d hnt hQ ops.size ?_
 refine xq List.countP_le_length ?_
 rw[←d.len,←(eY d.mz).1];simp
def comp (L:Lk) (nt:Nat):Code→aI→Option aI
 | .skip,.skip=>some .skip
 | .region _ ops false,.qz _ yR=>(dX L nt ops ops.toList).bind fun os=>some (.qz os yR)
 | .region _ ops true,.jG ord _ fl yR=>(lV L nt ops ord fl).bind fun os=>some (.jG ord os fl yR)
 | .seq a b,.seq x y=>(comp L nt a x).bind fun x'=>(comp L nt b y).bind fun y'=>some (.seq x' y')
 | .cond c a b,.cond _ x y yR=>(cX L c).bind fun c'=>(comp L nt a x).bind fun x'=>(comp L nt b y).bind fun y'=>some (.cond c' x' y' yR)
 | .block id c,.block _ x yR=>(comp L nt c x).bind fun x'=>some (.block id x' yR)
 | .loop c,.loop yR x=>(comp L nt c x).bind fun x'=>some (.loop yR x')
 | .exit id,.exit _=>some (.exit id)
 | .ret,.ret=>some .ret
 |_,_=>none
def om:Ex→Exit
 | .normal=>.normal
 | .exit id=>.exit id
 | .ret=>.ret
theorem pq (hm : L.P.follows .mixedOrders = true) (hcal : Callee L w0 call) (hbod : dD L) (hn : aT call) (k : Nat) : ∀ (c : Code) (x0 x : aI), comp L nt c x0 = some x → ∀ {e : Env} {a : Act} {ι : Io} {M : Mm} {h : H} {w : World} {ex : Ex} {e' : Env} {h' : H} {Q : Exit → Act → World → Prop},
 bm L ι M e a.tmps→nt≤a.tmps.size→R L w0 ι M h w→aO call (aM k) x e h=some (ex,e',h')→
 (∀ι' M' a' w',Gr h ι M h' ι' M'→R L w0 ι' M' h' w'→bm L ι' M' e' a'.tmps→a'.tmps.size=a.tmps.size→a'.defers=a.defers→Q (om ex) a' w')→c.wp L.P Q a w:=by
 intro c
 induction c with
 | skip =>
   intro x0 x hx e a ι M h w ex e' h' Q he hnt r hev hQ
   cases x0<;>simp only[comp,reduceCtorEq]at hx
   obtain rfl:=wH hx
   cases hev
   exact wp_skip (hQ _ _ _ _ (.refl _ _ _) r he rfl rfl)
 | region id ops dr =>
   intro x0 x hx e a ι M h w ex e' h' Q he hnt r hev hQ
   cases dr with
   | false =>
     cases x0<;>simp only[comp,reduceCtorEq]at hx
     simp only[wG]at hx
     obtain⟨os,h1,hx⟩:=hx
     obtain rfl:=wH hx
     simp only[aO,wG]at hev
     obtain⟨⟨e1,h2⟩,hv,hev⟩:=hev
     cases hev
     refine wp_region ?_
     have:=oF hcal hbod hn ops.toList 0 (Q:=Q) (fun j=>by simp) h1 he hnt r hv (fun ι' M' a' w' g r' he' hs hd=>hQ _ _ _ _ g r' (he'.ay _) hs hd)
     rwa [←List.range_eq_range',Array.length_toList]at this
   | true =>
     cases x0<;>simp only[comp,reduceCtorEq]at hx
     simp only[wG]at hx
     obtain⟨os,h1,hx⟩:=hx
     obtain rfl:=wH hx
     simp only[aO,wG]at hev
     obtain⟨⟨e1,h2,gs⟩,hv,hev⟩:=hev
     split at hev
     · rename_i hst
       cases hev
       exact kV hm hcal hbod hn h1 he hnt r hv hst (fun ι' M' a' w' g r' he' hs hd=>hQ _ _ _ _ g r' (he'.ay _) hs hd)
     · cases hev
 | seq c1 c2 i1 i2 =>
   intro x0 x hx e a ι M h w ex e' h' Q he hnt r hev hQ
   cases x0<;>simp only[comp,reduceCtorEq]at hx
   simp only[wG]at hx
   obtain⟨y1,g1,y2,g2,hx⟩:=hx
   obtain rfl:=wH hx
   simp only[aO,wG]at hev
   obtain⟨⟨ex1,e1,h1⟩,hv,hev⟩:=hev
   refine wp_seq (i1 _ _ g1 he hnt r hv fun ι' M' a' w' g r' he' hs hd=> ?_)
   split at hev
   · rename_i q;cases q
     exact i2 _ _ g2 he' (by rw[hs];exact hnt) r' hev fun ι2 M2 a2 w2 gg r2 he2 hs2 hd2=>hQ _ _ _ _ (g.trans gg) r2 he2 (by rw[hs2,hs]) (by rw[hd2,hd])
   · rename_i hne
     cases hev
     have:Q (om ex) a' w':=hQ _ _ _ _ g r' he' hs hd
     cases ex with
     |normal=>exact absurd rfl (hne _ _)
     |exit id=>exact this
     |ret=>exact this
 | cond cnd c1 c2 i1 i2 =>
   intro x0 x hx e a ι M h w ex e' h' Q he hnt r hev hQ
   cases x0<;>simp only[comp,reduceCtorEq]at hx
   simp only[wG]at hx
   obtain⟨c',g0,y1,g1,y2,g2,hx⟩:=hx
   obtain rfl:=wH hx
   simp only[aO]at hev
   split at hev
   · rename_i t ht
     have hc:=aq he g0
     rw[ht]at hc
     refine wp_cond (t:=t) hc.cg ?_
     simp only[wG]at hev
     obtain⟨⟨ex1,e1,h1⟩,hv,hev⟩:=hev
     have hout:ex1=ex∧h1=h'∧∀ι' M' (tm:Array Value),bm L ι' M' e1 tm→bm L ι' M' e' tm:=by
      split at hev
      · rename_i q;cases q;cases hev;exact⟨rfl,rfl,fun _ _ _ he=>he.ay _⟩
      · cases hev;exact⟨rfl,rfl,fun _ _ _ he=>he⟩
     obtain⟨rfl,rfl,hr⟩:=hout
     cases t with
     |true=>exact i1 _ _ g1 he hnt r hv fun ι' M' a' w' g r' he' hs hd=>hQ _ _ _ _ g r' (hr _ _ _ he') hs hd
     |false=>exact i2 _ _ g2 he hnt r hv fun ι' M' a' w' g r' he' hs hd=>hQ _ _ _ _ g r' (hr _ _ _ he') hs hd
   · cases hev
 | block id c1 i1 =>
   intro x0 x hx e a ι M h w ex e' h' Q he hnt r hev hQ
   cases x0<;>simp only[comp,reduceCtorEq]at hx
   simp only[wG]at hx
   obtain⟨y1,g1,hx⟩:=hx
   obtain rfl:=wH hx
   simp only[aO,wG]at hev
   obtain⟨⟨ex1,e1,h1⟩,hv,hev⟩:=hev
   refine wp_block (i1 _ _ g1 he hnt r hv fun ι' M' a' w' g r' he' hs hd=> ?_)
   split at hev
   · rename_i q;cases q;cases hev;exact hQ _ _ _ _ g r' (he'.ay _) hs hd
   · rename_i j _ _ q;cases q
     simp only[om,Exit.inBlock]
     split at hev
     · rename_i hj;cases hev;rw[if_pos hj];exact hQ _ _ _ _ g r' (he'.ay _) hs hd
     · rename_i hj;cases hev;rw[if_neg hj];exact hQ _ _ _ _ g r' he' hs hd
   · rename_i q;cases q;cases hev;exact hQ _ _ _ _ g r' he' hs hd
 | loop c1 i1 =>
   intro x0 x hx e a ι M h w ex e' h' Q he hnt r hev hQ
   cases x0<;>simp only[comp,reduceCtorEq]at hx
   rename_i yR y
   simp only[wG]at hx
   obtain⟨y1,g1,hx⟩:=hx
   obtain rfl:=wH hx
   simp only[aO]at hev
   have key:∀(n:Nat) {e:Env} {a:Act} {ι:Io} {M:Mm} {h:H} {w:World},bm L ι M e a.tmps→nt≤a.tmps.size→R L w0 ι M h w→aM n (fun e h=>aO call (aM k) y1 (ay e yR) h) e h=some (ex,e',h')→
    (∀ι' M' a' w',Gr h ι M h' ι' M'→R L w0 ι' M' h' w'→bm L ι' M' e' a'.tmps→a'.tmps.size=a.tmps.size→a'.defers=a.defers→Q (om ex) a' w')→Code.rounds L.P c1 Q n a w:=by
    intro n
    induction n with
    |zero=>intro e a ι M h w _ _ _ hev;cases hev
    | succ n ih =>
      intro e a ι M h w he hnt r hev hQ
      simp only[aM,wG]at hev
      obtain⟨⟨ex1,e1,h1⟩,hv,hev⟩:=hev
      refine i1 _ _ g1 (he.ay _) hnt r hv fun ι' M' a' w' g r' he' hs hd=> ?_
      split at hev
      · rename_i q;cases q
        exact ih he' (by rw[hs];exact hnt) r' hev fun ι2 M2 a2 w2 gg r2 he2 hs2 hd2=>hQ _ _ _ _ (g.trans gg) r2 he2 (by rw[hs2,hs]) (by rw[hd2,hd])
      · rename_i hne
        cases hev
        have:Q (om ex) a' w':=hQ _ _ _ _ g r' he' hs hd
        cases ex with
        |normal=>exact absurd rfl (hne _ _)
        |exit id=>exact this
        |ret=>exact this
   exact wp_loop_rounds k (key k he hnt r hev hQ)
 | exit id =>
   intro x0 x hx e a ι M h w ex e' h' Q he hnt r hev hQ
   cases x0<;>simp only[comp,reduceCtorEq]at hx
   obtain rfl:=wH hx
   cases hev
   exact wp_exit (hQ _ _ _ _ (.refl _ _ _) r he rfl rfl)
 | ret =>
   intro x0 x hx e a ι M h w ex e' h' Q he hnt r hev hQ
   cases x0<;>simp only[comp,reduceCtorEq]at hx
   obtain rfl:=wH hx
   cases hev
   exact wp_ret (hQ _ _ _ _ (.refl _ _ _) r he rfl rfl)
 | _ =>
   intro x0 x hx
   cases x0<;>simp only[comp,reduceCtorEq]at hx
end
end Ab
namespace Ab
open Go RowKit
structure Kp (h h':H):Prop where
 fl:h'.floor=h.floor
 get:∀id,id<h.floor→h'.get id=h.get id
theorem Kp.refl (h:H):Kp h h:=⟨rfl,fun _ _=>rfl⟩
theorem Kp.trans {a b c:H} (h:Kp a b) (k:Kp b c):Kp a c:=⟨k.fl.trans h.fl,fun id hi=>by rw[k.get id (by rw[h.fl];exact hi),h.get id hi]⟩
theorem Kp.alloc {h:H} (hf:h.floor≤h.next) (cs:List AV):Kp h (h.alloc cs):=⟨H.j4 h cs,fun id hi=>by rw[H.aZ];rw[if_neg (by omega)]⟩
theorem Kp.set {h:H} {id:Nat} (hf:h.floor≤id) (cs:List AV):Kp h (h.set id cs):=⟨H.mJ h id cs,fun i hi=>by rw[H.dY];rw[if_neg (by omega)]⟩
theorem Kp.del {h:H} {id:Nat} (hf:h.floor≤id):Kp h (h.del id):=⟨rfl,fun i hi=>by rw[H.eS];rw[if_neg (by omega)]⟩
def ub (call:ae):Prop:=∀f a h v h',h.floor≤h.next→call f a h=some (v,h')→Kp h h'
theorem nc {h h':H} {sz by_:Nat} {a:AV} {n:Nat} {bs:List AV} {v:AV} (hf:h.floor≤h.next) (hh:eK h sz by_ a n bs=some (v,h')):Kp h h':=by
 unfold eK at hh
 repeat' split at hh
 all_goals first
  |(cases hh;done)
  |(obtain⟨_,rfl⟩:=wJ (wH hh);exact .alloc hf _)
  |(obtain⟨_,rfl⟩:=wJ (wH hh);exact .refl _)
  |skip
 rename_i hsf
 simp only[wG]at hh
 obtain⟨cs,_,hh⟩:=hh
 repeat' split at hh
 all_goals first
  |(cases hh;done)
  |(obtain⟨_,rfl⟩:=wJ (wH hh);exact .set hsf.2 _)
  |(obtain⟨_,rfl⟩:=wJ (wH hh);exact(Kp.del hsf.2).trans (Kp.alloc (show(h.del _).floor≤(h.del _).next from hf) _))
theorem pC {call : ae} (hc : ub call) {e : Env} {h h' : H} {o : cq} {v : AV} (hf : h.floor ≤ h.next) (hev : ah call e h o = some (v, h')) : Kp h h' := by
 by_cases hb:o.aK=true
 · obtain⟨b,_,_,rfl⟩:=dp hb hev
   exact .alloc hf _
 by_cases hl:o.aR=true
 · cases o <;> simp only [cq.aR, wR] at hl <;> simp only [ah] at hev
   case store n p x=>
    simp only[wG,wK,wN]at hev
    obtain⟨h1,hs,_,rfl⟩:=hev
    unfold dG at hs
    split at hs
    · simp only[wG]at hs
      obtain⟨cs,_,hs⟩:=hs
      split at hs
      · rename_i q;obtain rfl:=wH hs;exact .set q.1 _
      · cases hs
    · cases hs
   case call f args=>
    split at hev
    · exact hc _ _ _ _ _ hf hev
    · cases hev
   case inv2=>
    split at hev
    · split at hev
      · simp only[wG]at hev
        obtain⟨_,_,hev⟩:=hev
        exact hc _ _ _ _ _ hf hev
      · cases hev
    · cases hev
   case app=>
    unfold mo at hev
    simp only[wG]at hev
    obtain⟨r,_,hev⟩:=hev
    exact nc hf hev
   case kH=>
    unfold iY at hev
    repeat' split at hev
    all_goals first
     |(cases hev;done)
     |(obtain⟨_,rfl⟩:=wJ (wH hev);exact .alloc hf _)
   case copy=>
    unfold iZ at hev
    simp only[wG]at hev
    obtain⟨r,_,hev⟩:=hev
    split at hev
    · obtain⟨_,rfl⟩:=wJ (wH hev);exact .refl _
    · split at hev
      · rename_i q
        simp only[wG]at hev
        obtain⟨r,_,hev⟩:=hev
        split at hev
        · obtain⟨_,rfl⟩:=wJ (wH hev);exact .set q.2.1 _
        · cases hev
      · cases hev
    · cases hev
   case clear=>
    simp only[wG,wK,wN]at hev
    obtain⟨h1,hev,_,rfl⟩:=hev
    unfold fp at hev
    repeat' split at hev
    all_goals first
     |(cases hev;done)
     |(obtain rfl:=wH hev;exact .refl _)
     |skip
    rename_i q
    simp only[wG]at hev
    obtain⟨r,_,hev⟩:=hev
    split at hev
    · obtain rfl:=wH hev;exact .set q.2.1 _
    · cases hev
 · rw[bS (by simpa using hl) (by simpa using hb) hev];exact .refl _
theorem mI {call:ae} (hc:ub call) {e:Env} {h h':H} {o:aj} {v:AV} (hf:h.floor≤h.next) (hev:ai call o e h=some (v,h')):Kp h h':=by
 unfold ai at hev
 repeat' split at hev
 all_goals first
  |exact pC hc hf hev
  |(obtain⟨_,rfl⟩:=wJ (wH hev);exact .refl _)
  |(cases hev;done)
theorem Kp.fn {h h':H} (k:Kp h h') (hn:h.next≤h'.next) (hf:h.floor≤h.next):h'.floor≤h'.next:=by rw[k.fl];omega
theorem iu {call:ae} (hn:aT call) (hc:ub call):∀{os:List aj} {e e':Env} {h h':H},h.floor≤h.next→au call os e h=some (e',h')→Kp h h'
 |[],_,_,_,_,_,hev=>by obtain⟨_,rfl⟩:=wJ (wH hev);exact .refl _
 | o :: os, _, _, _, _, hf, hev => by
   simp only[au,wG]at hev
   obtain⟨r,h1,h2⟩:=hev
   have k:=mI hc hf h1
   exact k.trans (iu hn hc (k.fn (cW hn h1) hf) h2)
def vD (F:Env→H→ej):Prop:=∀e h x e' h',h.floor≤h.next→F e h=some (x,e',h')→Kp h h'
theorem j8 {F:Env→H→ej} (hN:lH F) (hF:vD F):∀n,vD (aM n F)
 |0,_,_,_,_,_,_,h=>by cases h
 | n + 1, e, h, x, e', h', hf, hev => by
   simp only[aM,wG]at hev
   obtain⟨⟨y,e1,h1⟩,ha,hb⟩:=hev
   have k:=hF _ _ _ _ _ hf ha
   split at hb
   · rename_i q;cases q
     exact k.trans (j8 hN hF n _ _ _ _ _ (k.fn (hN _ _ _ _ _ ha) hf) hb)
   · cases hb;exact k
theorem dI {call : ae} (hn : aT call) (hc : ub call) (d : Nat) : ∀ (x : aI), vD (aO call (aM d) x)
 | .skip,_,_,_,_,_,_,hev=>by cases hev;exact .refl _
 | .exit _,_,_,_,_,_,_,hev=>by cases hev;exact .refl _
 | .ret,_,_,_,_,_,_,hev=>by cases hev;exact .refl _
 | .qz ops yR, _, _, _, _, _, hf, hev => by
   simp only[aO,wG]at hev
   obtain⟨r,h1,h2⟩:=hev
   cases h2;exact iu hn hc hf h1
 | .jG ord ops fl yR, _, _, _, _, _, hf, hev => by
   simp only[aO,wG]at hev
   obtain⟨r,h1,h2⟩:=hev
   split at h2
   · cases h2;exact iu hn hc hf (cO h1)
   · cases h2
 | .seq a b, _, _, _, _, _, hf, hev => by
   simp only[aO,wG]at hev
   obtain⟨⟨y,e1,h1⟩,ha,hb⟩:=hev
   have k:=dI hn hc d a _ _ _ _ _ hf ha
   split at hb
   · rename_i q
     cases q
     exact k.trans (dI hn hc d b _ _ _ _ _ (k.fn (bL hn (cZ d) a _ _ _ _ _ ha) hf) hb)
   · cases hb;exact k
 | .cond x a b yR, _, h0, _, _, _, hf, hev => by
   simp only[aO]at hev
   split at hev
   · simp only[wG]at hev
     obtain⟨⟨y,e1,h1⟩,ha,hb⟩:=hev
     have:Kp h0 h1:=by
      split at ha
      · exact dI hn hc d a _ _ _ _ _ hf ha
      · exact dI hn hc d b _ _ _ _ _ hf ha
     split at hb
     · rename_i q;cases q;cases hb;exact this
     · cases hb;exact this
   · cases hev
 | .block id c yR, _, _, _, _, _, hf, hev => by
   simp only[aO,wG]at hev
   obtain⟨⟨y,e1,h1⟩,ha,hb⟩:=hev
   have:=dI hn hc d c _ _ _ _ _ hf ha
   split at hb
   · rename_i q;cases q;cases hb;exact this
   · rename_i q;cases q
     split at hb<;>(cases hb;exact this)
   · rename_i q;cases q;cases hb;exact this
 | .loop yR c,_,_,_,_,_,hf,hev=>j8 (fun _ _ _ _ _ h=>bL hn (cZ d) c _ _ _ _ _ h) (fun _ _ _ _ _ hf h=>dI hn hc d c _ _ _ _ _ hf h) d _ _ _ _ _ hf hev
theorem j7 (A : bp) : ∀ d, ub (aW A d)
 |0,_,_,_,_,_,_,h=>by cases h
 | d + 1, f, args, h, v, h', hf, hev => by
   simp only[aW,wG]at hev
   obtain⟨fn,_,hr⟩:=hev
   unfold fW at hr
   split at hr
   · simp only[wG]at hr
     obtain⟨⟨y,e1,h1⟩,ha,hb⟩:=hr
     unfold fin at hb
     split at hb
     · cases hb
     · rename_i q;cases q
       simp only[wG]at hb
       obtain⟨vs,_,hb⟩:=hb
       split at hb
       · simp only[wG]at hb
         obtain⟨_,_,hb⟩:=hb
         cases hb;exact .refl _
       · rename_i hp;cases hb
         rw[if_neg hp]at ha
         exact dI (dx A d) (j7 A d) d _ _ _ _ _ _ hf ha
   · cases hr
end Ab
namespace Ab
open Go RowKit
section
variable {L:Lk} {w0:World} {ι ι1:Io} {M M1:Mm} {h h1:H} {w w1:World}
open Classical in
noncomputable def bM (M1:Mm) (ι1:Io) (h1:H) (fl:Nat) (w1:World):Mm:=fun b o=>
 match M1 b o with
 |some v=>some v
 |none=>if∃id cs l,fl≤id∧h1.get id=some cs∧ι1 id=some l∧l.block=b∧l.base≤o∧o<l.base+cs.length then w1.cell? (at' b o)else none
theorem eU (fl:Nat):oY M1 (bM M1 ι1 h1 fl w1):=fun b o v q=>by simp only[bM,q]
theorem k8 (r:R L w0 ι1 M1 h1 w1) {fl id:Nat} (hid:fl≤id) {cs:List AV} (hg:h1.get id=some cs) {l:Loc} (hl:ι1 id=some l) {i:Nat} (hi:i<cs.length) {v:Value} (hv:w1.cell? (at' l.block (l.base+i))=some v):bM M1 ι1 h1 fl w1 l.block (l.base+i)=some v:=by
 simp only[bM]
 split
 · rename_i u hu;rw[r.ar _ _ _ hu]at hv;exact hv
 · rw[if_pos ⟨id,cs,l,hid,hg,hl,rfl,by omega,by omega⟩];exact hv
theorem iF {fl b o:Nat} {v:Value} (hv:bM M1 ι1 h1 fl w1 b o=some v):M1 b o=some v∨(w1.cell? (at' b o)=some v∧∃id cs l,fl≤id∧h1.get id=some cs∧ι1 id=some l∧l.block=b∧l.base≤o∧o<l.base+cs.length):=by
 simp only[bM]at hv
 split at hv
 · rename_i u hu;obtain rfl:=wH hv;exact .inl hu
 · split at hv
   · rename_i q;exact .inr ⟨hv,q⟩
   · cases hv
theorem R.back (r:R L w0 ι M h w) (r1:R L w0 ι1 M1 h1 w1) (hg:∀id,id<h.next→h1.get id=h.get id) (hι:oT ι ι1) (hM:oY M M1):R L w0 ι (bM M1 ι1 h1 h.next w1) h w1:=by
 have g:∀id cs l,h.get id=some cs→ι id=some l→h1.get id=some cs∧ι1 id=some l:=fun id cs l a b=>⟨by rw[hg id (r.kU id l b)];exact a,hι _ _ b⟩
 refine⟨r1.below,r.kU,fun id cs l a b=>r1.iR id cs l (g _ _ _ a b).1 (g _ _ _ a b).2,fun id cs l a b=>r1.own id cs l (g _ _ _ a b).1 (g _ _ _ a b).2,fun id cs l a b i x hx=> ?_,r.ig,fun b o v hv=> ?_,fun b o v id cs l hv a c=> ?_⟩
 · obtain⟨v,q1,q2⟩:=r1.val id cs l (g _ _ _ a b).1 (g _ _ _ a b).2 i x hx
   obtain⟨v0,_,q3⟩:=r.val id cs l a b i x hx
   exact⟨v,q1,(q2.shrink hι q3).mono (fun _ _ q=>q) (eU _)⟩
 · rcases iF hv with q|⟨q,_⟩
   · exact r1.ar b o v q
   · exact q
 · obtain⟨a1,c1⟩:=g _ _ _ a c
   rcases iF hv with q|⟨_,id',cs',l',q1,q2,q3,q4,q5,q6⟩
   · exact r1.iS b o v id cs l q a1 c1
   · intro hb
     have hne:id≠id':=fun e=>by have:=r.kU id l c;omega
     have hlen:=(r1.iR id' cs' l' q2 q3)
     rcases r1.ig id id' cs cs' l l' a1 q2 c1 q3 hne (by omega)with hd|hd<;>omega
theorem bI {f:AV→Option AV}:∀{l l':List AV},gH f l=some l'→l'.length=l.length∧∀(i:Nat) (a':AV),l'[i]?=some a'→∃a,l[i]?=some a∧f a=some a'
 |[],l',h=>by obtain rfl:=wH h;exact⟨rfl,fun i a q=>by simp at q⟩
 | v :: r, l', h => by
   simp only[gH,wG]at h
   obtain⟨v',h1,r',h2,h3⟩:=h
   obtain rfl:=wH h3
   obtain⟨g1,g2⟩:=bI h2
   refine⟨by simp [g1],fun i a q=> ?_⟩
   cases i with
   |zero=>simp at q;subst q;exact⟨v,rfl,h1⟩
   |succ i=>simpa using g2 i a (by simpa using q)
theorem lF (r1 : R L w0 ι1 M1 h1 w1) {fl : Nat} (hold : ∀ id l, id < fl → ι1 id = some l → ι id = some l) : ∀ (n : Nat) (top : Bool) (a a' : AV) (v : Value), V L ι1 M1 a v → snap h1.get fl n top a = some a' →
 (top=true→V L ι (bM M1 ι1 h1 fl w1) a' v)∧(top=false→VI L (bM M1 ι1 h1 fl w1) a' v):=by
 intro n
 induction n with
 |zero=>intro top a a' v _ hs;cases hs
 | succ n ih =>
   intro top a a' v hV hs
   have ar:∀{x:AV},VI L M1 x v→a'=x→(top=true→V L ι (bM M1 ι1 h1 fl w1) a' v)∧(top=false→VI L (bM M1 ι1 h1 fl w1) a' v):=by
    intro x hx e
    subst e
    exact⟨fun _=>.ar (hx.mono (eU _)),fun _=>hx.mono (eU _)⟩
   have row:∀{t:Bool} {xs ys:List AV} {vs:List Value},gH (snap h1.get fl n t) xs=some ys→(∀(i:Nat) (a:AV) (v:Value),xs[i]?=some a→vs[i]?=some v→V L ι1 M1 a v)→
    (t=true→∀(i:Nat) (a:AV) (v:Value),ys[i]?=some a→vs[i]?=some v→V L ι (bM M1 ι1 h1 fl w1) a v)∧(t=false→∀(i:Nat) (a:AV) (v:Value),ys[i]?=some a→vs[i]?=some v→VI L (bM M1 ι1 h1 fl w1) a v):=by
    intro t xs ys vs hm hx
    obtain⟨_,g2⟩:=bI hm
    refine⟨fun ht i a v ha hv=> ?_,fun ht i a v ha hv=> ?_⟩
    · obtain⟨b,hb,hsb⟩:=g2 i a ha
      exact(ih t b a v (hx i b v hb hv) hsb).1 ht
    · obtain⟨b,hb,hsb⟩:=g2 i a ha
      exact(ih t b a v (hx i b v hb hv) hsb).2 ht
   have cells:∀{id:Nat} {cs:List AV} {l:Loc} {off m:Nat} {ys:List AV},¬id<fl→h1.get id=some cs→ι1 id=some l→gH (snap h1.get fl n false) ((cs.drop off).take m)=some ys→
    ∃vs:Nat→Value,(∀(i:Nat) (c:AV),ys[i]?=some c→bM M1 ι1 h1 fl w1 l.block (l.base+off+i)=some (vs i))∧∀(i:Nat) (c:AV),ys[i]?=some c→VI L (bM M1 ι1 h1 fl w1) c (vs i):=by
    intro id cs l off m ys hid hg hl hm
    obtain⟨_,g2⟩:=bI hm
    refine⟨fun i=>(w1.cell? (at' l.block (l.base+off+i))).getD undef, ?_⟩
    have key:∀(i:Nat) (c:AV),ys[i]?=some c→∃v,w1.cell? (at' l.block (l.base+off+i))=some v∧off+i<cs.length∧VI L (bM M1 ι1 h1 fl w1) c v:=by
     intro i c hc
     obtain⟨b,hb,hsb⟩:=g2 i c hc
     have hb':cs[off+i]?=some b:=by
      rw[xr]at hb
      split at hb
      · rwa [xc]at hb
      · cases hb
     obtain⟨v,q1,q2⟩:=r1.val id cs l hg hl (off+i) b hb'
     rw[←wS]at q1
     exact⟨v,q1,(wO.1 hb').1,(ih false b c v q2 hsb).2 rfl⟩
    refine⟨fun i c hc=> ?_,fun i c hc=> ?_⟩
    · obtain⟨v,q1,q2,_⟩:=key i c hc
      simp only[q1,Option.getD_some]
      rw[wS]
      exact k8 r1 (by omega) hg hl q2 (by rw[←wS];exact q1)
    · obtain⟨v,q1,_,q3⟩:=key i c hc
      simp only[q1,Option.getD_some];exact q3
   cases a with
   |bot=>cases hV with|ar hx=>exact ar hx (wH hs).symm
   |bool b=>cases hV with|ar hx=>exact ar hx (wH hs).symm
   |int k m=>cases hV with|ar hx=>exact ar hx (wH hs).symm
   |str s=>cases hV with|ar hx=>exact ar hx (wH hs).symm
   |cT=>cases hV with|ar hx=>exact ar hx (wH hs).symm
   |aN c o=>cases hV with|ar hx=>exact ar hx (wH hs).symm
   |aS=>cases hV with|ar hx=>exact ar hx (wH hs).symm
   |aY t c o l s=>cases hV with|ar hx=>exact ar hx (wH hs).symm
   |fM=>cases hV with|ar hx=>exact ar hx (wH hs).symm
   |fN=>cases hV with|ar hx=>exact ar hx (wH hs).symm
   | aG id off =>
     obtain⟨l,hl,rfl⟩:=hV.aX
     simp only[snap]at hs
     split at hs
     · rename_i hid
       cases top with
       |false=>cases hs
       |true=>obtain rfl:=wH hs;exact⟨fun _=>.aG (hold id l hid hl),nofun⟩
     · rename_i hid
       simp only[wG]at hs
       obtain⟨cs,hg,ys,hm,hs⟩:=hs
       obtain rfl:=wH hs
       have hm':gH (snap h1.get fl n false) ((cs.drop 0).take cs.length)=some ys:=by simpa using hm
       obtain⟨vs,k1,k2⟩:=cells hid hg hl hm'
       have:VI L (bM M1 ι1 h1 fl w1) (.aN ys off) (.pointer (some (at' l.block (l.base+off)))):=.aN vs (fun i c hc=>k1 i c hc) k2
       exact⟨fun _=>.ar this,fun _=>this⟩
   | aH id off len sz =>
     obtain⟨l,cap,ad,hl,rfl,c1,c2,c3,c4⟩:=hV.aJ
     simp only[snap]at hs
     split at hs
     · rename_i hid
       cases top with
       |false=>cases hs
       |true=>obtain rfl:=wH hs;exact⟨fun _=>.aH (hold id l hid hl) c1 c2 c3 c4,nofun⟩
     · rename_i hid
       simp only[wG]at hs
       obtain⟨cs,hg,hs⟩:=hs
       split at hs
       · rename_i hle
         simp only[wG]at hs
         obtain⟨ys,hm,hs⟩:=hs
         obtain rfl:=wH hs
         obtain⟨vs,k1,k2⟩:=cells hid hg hl hm
         have hlen:=(bI hm).1
         have hmul:len* sz≤cap* sz:=wW sz c1
         have:VI L (bM M1 ι1 h1 fl w1) (.aY false ys 0 len sz) (.slice (some ad) len cap):=
          .aY (b:=l.block) (base:=l.base+off) vs k1 k2 c1 (fun q=>by rw[c2 q];rfl) (by rw[hlen];simp only[List.length_take,List.length_drop];omega) nofun
         exact⟨fun _=>.ar this,fun _=>this⟩
       · cases hs
   | agg cs =>
     simp only[snap,wG]at hs
     obtain⟨ys,hm,hs⟩:=hs
     obtain rfl:=wH hs
     obtain⟨vs,rfl,q1,q2⟩:=hV.dV
     have hl:=(bI hm).1
     obtain⟨k1,k2⟩:=row hm q2
     exact⟨fun ht=>.agg (by omega) (k1 ht),fun ht=>.agg (by omega) (k2 ht)⟩
   | bW cs =>
     simp only[snap,wG]at hs
     obtain⟨ys,hm,hs⟩:=hs
     obtain rfl:=wH hs
     obtain⟨vs,rfl,q1,q2⟩:=hV.mi
     have hl:=(bI hm).1
     obtain⟨k1,k2⟩:=row hm q2
     exact⟨fun ht=>.bW (by omega) (k1 ht),fun ht=>.bW (by omega) (k2 ht)⟩
   | fn f as cs =>
     simp only[snap,wG]at hs
     obtain⟨ys,hm,zs,hm2,hs⟩:=hs
     obtain rfl:=wH hs
     obtain⟨fid,va,vc,rfl,q0,q1,q2,q3,q4⟩:=hV.fJ
     have hl:=(bI hm).1
     have hl2:=(bI hm2).1
     obtain⟨k1,k2⟩:=row hm q3
     obtain⟨k3,k4⟩:=row hm2 q4
     exact⟨fun ht=>.fn q0 (by omega) (by omega) (k1 ht) (k3 ht),fun ht=>.fn q0 (by omega) (by omega) (k2 ht) (k4 ht)⟩
   | iface t x =>
     simp only[snap,wG]at hs
     obtain⟨y,hy,hs⟩:=hs
     obtain rfl:=wH hs
     obtain⟨tid,u,rfl,q1,q2⟩:=hV.bU
     obtain⟨k1,k2⟩:=ih top x y u q2 hy
     exact⟨fun ht=>.iface q1 (k1 ht),fun ht=>.iface q1 (k2 ht)⟩
def dk (L:Lk):List ResultVar→Option (List RV)
 |[]=>some []
 | .tmp t::r=>(dk L r).bind fun rs=>some (.tmp t::rs)
 | .cell t ty::r=>(gJ L.P ty).bind fun a=>(cu L.P ty).bind fun n=>(dk L r).bind fun rs=>some (.cell t a n::rs)
theorem fV (r : R L w0 ι M h w) {e : Env} {tmps : Array Value} (he : bm L ι M e tmps) : ∀ {l : List ResultVar} {rs : List RV} {vs : List AV}, dk L l = some rs → c9 e h rs = some vs →
 ∃ vals : List Value, ((l.mapM fun
   | .tmp t=>pure (tmps.getD t undef)
   | .cell a t=>do loadVar t (←asAddr (tmps.getD a undef)):Sem (List Value)).run L.P w)=.ok vals w∧aw L ι M vs vals
 | [], rs, vs, hc, hr => by
   obtain rfl:=wH hc
   obtain rfl:=wH hr
   exact⟨[],rfl,rfl,fun i a v q=>by simp at q⟩
 | .tmp t :: l, rs, vs, hc, hr => by
   simp only[dk,wG]at hc
   obtain⟨rs',hc,q⟩:=hc
   obtain rfl:=wH q
   simp only[c9,oL,wG]at hr
   obtain⟨v,hv,vs',hr,q⟩:=hr
   obtain rfl:=wH hv
   obtain rfl:=wH q
   obtain⟨vals,g1,g2⟩:=fV r he hc hr
   refine⟨tmps.getD t undef::vals, ?_,by simp [g2.1],fun i a v ha hv=> ?_⟩
   · simp only[List.mapM_cons,Sem.run_bind,Sem.run_pure,Result.andThen_ok,g1]
   · cases i with
     |zero=>simp at ha hv;subst ha;subst hv;rw[←wV];exact he t
     |succ i=>exact g2.2 i a v (by simpa using ha) (by simpa using hv)
 | .cell t ty :: l, rs, vs, hc, hr => by
   simp only[dk,wG]at hc
   obtain⟨ag,ha,n,hn,rs',hc,q⟩:=hc
   obtain rfl:=wH q
   simp only[c9,oL,wG]at hr
   obtain⟨v,hv,vs',hr,q⟩:=hr
   obtain rfl:=wH q
   obtain⟨vals,g1,g2⟩:=fV r he hc hr
   have ht:=he t
   have hload:∃u,((do loadVar ty (←asAddr (tmps.getD t undef)):Sem Value).run L.P w)=.ok u w∧V L ι M v u:=by
    unfold cf at hv
    split at hv
    · rename_i id off q
      rw[q]at ht
      obtain⟨lo,hlo,hp⟩:=ht.aX
      simp only[wG]at hv
      obtain⟨cs,hg,hv⟩:=hv
      obtain⟨u,k1,k2⟩:=ed ha hn (r.row hg hlo) hv
      exact⟨u,by rw[hp];simpa [asAddr]using k1,k2⟩
    · rename_i cs off q
      rw[q]at ht
      obtain⟨b,base,hp,hrow⟩:=V.cQ r ht
      obtain⟨u,k1,k2⟩:=ed ha hn hrow hv
      exact⟨u,by rw[hp];simpa [asAddr]using k1,k2⟩
    · cases hv
   obtain⟨u,k1,k2⟩:=hload
   refine⟨u::vals, ?_,by simp [g2.1],fun i a x hx hy=> ?_⟩
   · simp only[List.mapM_cons,Sem.run_bind,Sem.run_pure,Result.andThen_ok,g1]at k1 ⊢
     rw[k1];simp only[Result.andThen_ok,g1]
   · cases i with
     |zero=>simp at hx hy;subst hx;subst hy;exact k2
     |succ i=>exact g2.2 i a x (by simpa using hx) (by simpa using hy)
theorem iW (r:R L w0 ι M h w) {e:Env} {fn:Func} {tmps:Array Value} (he:bm L ι M e tmps) {rs:List RV} {vs:List AV} (hc:dk L fn.results.toList=some rs) (hr:c9 e h rs=some vs):
 ∃v,(results fn tmps).run L.P w=.ok v w∧V L ι M (dS vs) v:=by
 obtain⟨vals,g1,g2⟩:=fV r he hc hr
 unfold results
 rw[Array.mapM_eq_mapM_toList]
 have:(if hx:vals.toArray.size=1 then vals.toArray[0]else .tuple vals.toArray)=(if hx:vals.toArray.size=1 then vals.toArray[0]else .tuple vals.toArray):=rfl
 refine⟨if hx:vals.toArray.size=1 then vals.toArray[0]else .tuple vals.toArray, ?_, ?_⟩
 · simp only[Sem.run_bind,Sem.run_map,Sem.run_pure]
   erw [g1]
   rfl
 · match vs,vals,g2 with
   |[v],[u],g2=>simpa [dS]using g2.2 0 v u rfl rfl
   |[],[],g2=>simp only[dS];exact .bW g2.1 g2.2
   | a :: b :: vs, x :: y :: vals, g2 =>
     have:¬(x::y::vals).toArray.size=1:=by simp
     rw[dif_neg this]
     exact .bW g2.1 g2.2
   |[],_::_,g2=>cases g2.1
   |_::_,[],g2=>cases g2.1
   |[_],_::_::_,g2=>cases g2.1
   |_::_::_,[_],g2=>cases g2.1
end
end Ab
namespace Ab
open Go RowKit
structure fk (L:Lk) (A:bp):Prop where
 hm:L.P.follows .mixedOrders=true
 fns : ∀ (fid : FuncId) (f : Nat), L.mf fid = some f → ∃ fn c, L.P.funcs[fid]? = some fn ∧ fn.body = some c ∧ (fn.name == "runtime.NumGoroutine") = false ∧
  ∀af,A f=some af→(∃x0,comp L fn.ntmps c x0=some af.body)∧dk L fn.results.toList=some af.res
 wC:∀name t f d,L.iv name=some (t,f,d)→∀T,L.mt T=t→∃fid,L.mf fid=some f∧mZ L.P T name fid d
 wE:∀t k,L.ta t=some k→tY L.P t∧∀T,L.mt T=k→T=t
 eqs:∀t,L.sq t=true→L.P.stoodInHeld t=false
theorem fk.rV {L:Lk} {A:bp} (lk:fk L A):dD L:=⟨fun fid f h=>let ⟨fn,c,a,b,d,_⟩:=lk.fns fid f h;⟨fn,c,a,b,d⟩,lk.wC,lk.wE,lk.eqs⟩
theorem gy : ∀ (args : List AV) (k t : Nat), look (params k args) t = if k ≤ t then (args[t - k]?).getD .bot else .bot
 |[],k,t=>by simp [params,look]
 | v :: r, k, t => by
   simp only[params,look,gy r (k+1) t]
   by_cases h:k=t
   · subst h;simp
   · rw[if_neg h]
     by_cases hk:k≤t
     · have e:t-k=(t-(k+1))+1:=by omega
       rw[if_pos hk,if_pos (by omega),e,w9]
     · rw[if_neg hk,if_neg (by omega)]
section
variable {L:Lk} {w0:World} {ι:Io} {M:Mm} {h:H} {w:World}
theorem bm.params {args:List AV} {vals:List Value} (hr:aw L ι M args vals) (n:Nat):bm L ι M (params 0 args) (vals.toArray++Array.replicate n undef):=by
 intro t
 rw[gy,if_pos (Nat.zero_le _),Nat.sub_zero]
 cases ha:args[t]? with
 |none=>exact .ar (.bot _)
 | some a =>
   obtain⟨hlt,_⟩:=wO.1 ha
   have hlt':t<vals.length:=by rw[←hr.1];exact hlt
   have hv:vals[t]?=some vals[t]:=List.getElem?_eq_getElem hlt'
   have:=hr.2 t a _ ha hv
   rw[wV,Array.getElem?_append_left (by simpa using hlt')]
   simpa [hv]using this
theorem R.eO (r:R L w0 ι M h w):R L w0 ι M h.eO w:=⟨r.below,r.kU,r.iR,r.own,r.val,r.ig,r.ar,r.iS⟩
theorem callee {A : bp} (lk : fk L A) : ∀ d, Callee L w0 (aW A d)
 |0,_,_,_,_,_,_,_,_,_,_,_,hev,_,_=>by cases hev
 | d + 1, f, fid, args, vals, ι, M, h, h', w, v, hmf, hev, r, hrow => by
   have ih:=callee lk d
   obtain⟨fn,c,hf,hb,_,hA⟩:=lk.fns fid f hmf
   simp only[aW,wG]at hev
   obtain⟨af,haf,hev⟩:=hev
   obtain⟨⟨x0,hx⟩,hres⟩:=hA af haf
   unfold fW at hev
   split at hev
   · rename_i hnp
     simp only[wG]at hev
     obtain⟨⟨ex,e1,h1⟩,hv,hfin⟩:=hev
     have hsz:fn.ntmps≤(vals.toArray++Array.replicate (fn.ntmps-vals.toArray.size) undef).size:=by simp;omega
     refine calls_of_wp hf hb ?_
     have hr':R L w0 ι M (if af.pure=true then h.eO else h) w:=by
      split
      · exact r.eO
      · exact r
     refine pq lk.hm ih lk.rV (dx A d) d c x0 af.body hx (a:={tmps:=vals.toArray++Array.replicate (fn.ntmps-vals.toArray.size) undef,defers:=[]}) (bm.params hrow _) hsz hr' hv ?_
     intro ι1 M1 a1 w1 g r1 he1 _ hd1
     have post:∀(P:Value→World→Prop) (vs:List AV),c9 e1 h1 af.res=some vs→(∀u,V L ι1 M1 (dS vs) u→P u w1)→bodyPost L.P fn (fun e w'=>∃v',e=.returned v'∧P v' w') .normal a1 w1:=by
      intro P vs hvs hP
      obtain⟨u,k1,k2⟩:=iW r1 (fn:=fn) he1 hres hvs
      exact⟨hd1,u,k1,u,rfl,hP u k2⟩
     have main:∀vs,c9 e1 h1 af.res=some vs→(if af.pure=true then(snap h1.get h.next iQ true (dS vs)).bind fun v=>some (v,h)else some (dS vs,h1))=some (v,h')→
      bodyPost L.P fn (fun e w'=>∃v',e=.returned v'∧Out L w0 ι M h h' v v' w') .normal a1 w1:=by
      intro vs hvs hfin
      split at hfin
      · rename_i hp
        simp only[wG]at hfin
        obtain⟨v2,hsn,hfin⟩:=hfin
        obtain⟨rfl,rfl⟩:=wJ (wH hfin)
        simp only[hp,if_true]at g hv
        have kp:=dI (dx A d) (j7 A d) d _ _ _ _ _ _ (wU _) hv
        refine post (fun u w'=>Out L w0 ι M h h v2 u w') vs hvs fun u hu=> ?_
        have hold:∀id l,id<h.next→ι1 id=some l→ι id=some l:=fun id l a b=>g.ju id l a b
        exact⟨ι,bM M1 ι1 h1 h.next w1,fun _ _ q=>q,fun b o x q=>eU _ b o x (g.mm _ _ _ q),fun _ _ _ q=>q,r.back r1 (fun id hid=>kp.get id hid) g.io g.mm,(lF r1 hold _ true _ _ _ hu hsn).1 rfl⟩
      · rename_i hp
        obtain⟨rfl,rfl⟩:=wJ (wH hfin)
        rw[if_neg hp]at g
        exact post (fun u w'=>Out L w0 ι M h h1 (dS vs) u w') vs hvs fun u hu=>⟨ι1,M1,g.io,g.mm,g.ju,r1,hu⟩
     unfold fin at hfin
     split at hfin
     · cases hfin
     · rename_i hne q
       cases q
       simp only[wG]at hfin
       obtain⟨vs,hvs,hfin⟩:=hfin
       have:=main vs hvs hfin
       cases ex with
       |normal=>exact this
       |ret=>exact this
       |exit id=>exact(hne _ rfl).elim
   · cases hev
theorem jV {A:bp} (lk:fk L A):Callee L w0 (aU A):=by
 intro f fid args vals ι M h h' w v hmf hev r hrow
 obtain⟨n,hn⟩:=fI hev
 exact callee lk n f fid args vals ι M h h' w v hmf hn r hrow
end
end Ab
namespace Ab
open Go RowKit ChangeShapes WideShapes
def vu:Io:=fun _=>none
def wF:Mm:=fun _ _=>none
theorem R.start (L:Lk) (W:World) {M:Mm} (hM:∀b o v,M b o=some v→W.cell? (at' b o)=some v):R L W vu M H.empty W:=
 ⟨Below.refl _ _,fun _ _ h=>(by cases h),fun _ _ _ _ h=>(by cases h),fun _ _ _ _ h=>(by cases h),fun _ _ _ _ h=>(by cases h),fun _ _ _ _ _ _ _ _ h=>(by cases h),hM,fun _ _ _ _ _ _ _ _ h=>(by cases h)⟩
theorem mV {L:Lk} {A:bp} (lk:fk L A) {f:Nat} {fid:FuncId} {args:List AV} {vals:List Value} {M:Mm} {W:World} {h':H} (hm:L.mf fid=some f) (hM:∀b o v,M b o=some v→W.cell? (at' b o)=some v)
 (hc:aU A f args H.empty=some (.bool true,h')) (hr:aw L vu M args vals):Calls L.P fid vals.toArray W fun e W'=>e=.returned (.bool true)∧Below W.heap.size W W':=by
 refine(jV lk f fid args vals vu M H.empty h' W _ hm hc (R.start L W hM) hr).mono fun e W' ⟨v',he,ι',M',_,_,_,r',hv⟩=> ?_
 have:=hv.cg
 subst this
 exact⟨he,r'.below⟩
theorem vr {a:Int} (w:(Lit.int .i64 a).wf=true): -9223372036854775808≤a∧a<9223372036854775808:=by
 simp only[Lit.wf,wT,decide_eq_true_eq]at w
 have h1:IntKind.min .i64= -9223372036854775808:=by decide
 have h2:IntKind.max .i64=9223372036854775807:=by decide
 rw[h1,h2]at w
 omega
theorem vS {s:ByteArray} (w:s.size≤reachBytes):s.size<140737488355328:=by
 unfold reachBytes at w;omega
theorem mS {H:Type} {enc:TypeId×Value→H} {P:Program} {f:Func} {s:ChangeSpec} {apart fresh handsOn:Bool} {W W':World} {args:Array Value} {ds gs:List (DataW H)} {before pa pv:List MemPlace} {t:TypeId}
 (hW:DataW.Whole enc P f.params.toList s.vars apart W args.toList ds gs before) (hb:Below W.heap.size W W')
 (hrt:f.resultTypes= #[t]) (hres:∀(b:Nat) (sp:Nat→Bool) (hd:Bool),DataW.Trod enc P W' b sp hd t (.bool true) (.lit (.bool true)) []) (hsr:(s.fn H (ds++gs)).results=[.lit (.bool true)])
 (hargs:DataW.TrodAll enc P W' 0 (fun b=>decide (b<W.heap.size)) true f.params.toList args.toList (s.fn H (ds++gs)).args pa)
 (hvars:DataW.TrodVars enc P W' (fun b=>decide (b<W.heap.size)) s.vars (s.fn H (ds++gs)).vars pv):
 s.post enc P f apart fresh handsOn false W args (.bool true) W':=by
 refine⟨ds,gs,before,[],pa,pv,hW, ?_,hargs,hvars,hb.frame _,fun h=>by cases h⟩
 rw[hrt,hsr]
 exact trodAll_mk1 (hres _ _ _)
end Ab
namespace Ab
open Go RowKit ChangeShapes WideShapes
inductive Ty where
 |bool
 |int (k:IntKind)
 |str
 |sl (e:Ty) (z b:Nat)
 |st (fs:List Ty)
mutual
inductive Sh (B:Nat):Ty→List AV→Prop where
 |bool (b:Bool):Sh B .bool [.bool b]
 |int {k:IntKind} {n:Int} (h:(Lit.int k n).wf=true):Sh B (.int k) [.int k n]
 |str {s:ByteArray} (h:s.size≤B):Sh B .str [.str s]
 |aS {e:Ty} {z b:Nat}:Sh B (.sl e z b) [.aS]
 |aY {e:Ty} {z b:Nat} (ess:List (List AV)) (h:∀es,es∈ess→Sh B e es) (hz:∀es,es∈ess→es.length=z) (hb:ess.length* b≤B):Sh B (.sl e z b) [.aY false ess.flatten 0 ess.length z]
 |st {fs:List Ty} {as:List AV} (h:jM B fs as):Sh B (.st fs) as
inductive jM (B:Nat):List Ty→List AV→Prop where
 |nil:jM B [] []
 |cons {f:Ty} {fs:List Ty} {a r:List AV} (h:Sh B f a) (hr:jM B fs r):jM B (f::fs) (a++r)
end
def mj (P:Program) (r:TypeId→Option (Ty×Nat)):Nat→List Field→Option (List Ty×Nat)
 |o,[]=>some ([],o)
 |o,f::l=>if f.offset=o then(r f.type).bind fun y=>if P.cellsOf f.type=y.2 then(mj P r (o+y.2) l).map fun x=>(y.1::x.1,x.2)else none else none
def lG (P : Program) : Nat → TypeId → Option (Ty × Nat)
 |0,_=>none
 | n + 1, t => match P.underlying t with
   |some .bool=>some (.bool,1)
   |some (.int k)=>some (.int k,1)
   |some .string=>some (.str,1)
   |some (.slice e)=>(lG P n e).bind fun y=>if 0<y.2∧P.cellsOf e=y.2 then some (.sl y.1 y.2 (P.bytesOf e),1)else none
   |some (.struct fs)=>(mj P (lG P n) 0 fs.toList).bind fun x=>if P.cellsOf t=x.2 then some (.st x.1,x.2)else none
   |_=>none
theorem ot {α : Type} {Q : Nat → α → Prop} : ∀ n : Nat, (∀ i, i < n → ∃ x, Q i x) → ∃ l : List α, l.length = n ∧ ∀ i x, l[i]? = some x → Q i x
 |0,_=>⟨[],rfl,fun i x h=>by simp at h⟩
 | n + 1, h => by
   obtain⟨l,hl,hq⟩:=ot n fun i hi=>h i (by omega)
   obtain⟨x,hx⟩:=h n (by omega)
   refine⟨l++[x],by simp [hl],fun i y hy=> ?_⟩
   by_cases c:i<l.length
   · rw[List.getElem?_append_left c]at hy;exact hq i y hy
   · rw[List.getElem?_append_right (by omega)]at hy
     have hi:i=n:=by
      rcases Nat.lt_or_ge n i with q|q
      · rw[List.getElem?_eq_none (by simp;omega)]at hy;cases hy
      · omega
     subst hi
     rw[hl,Nat.sub_self]at hy
     obtain rfl:=wH hy
     exact hx
theorem gv {α:Type} {z:Nat} (hz:0<z):∀(l:List (List α)) (_:∀x∈l,x.length=z) (i:Nat),l.flatten[i]?=(l[i/z]?).bind (·[i%z]?)
 |[],_,i=>by simp
 | x :: l, h, i => by
   have hx:=h x (by simp)
   rw[List.flatten_cons]
   by_cases c:i<z
   · rw[List.getElem?_append_left (by omega),Nat.div_eq_of_lt c,Nat.mod_eq_of_lt c];rfl
   · rw[List.getElem?_append_right (by omega),gv hz l (fun y hy=>h y (by simp [hy])),hx]
     have e1:i/z=(i-z)/z+1:=by rw[Nat.div_eq i z,if_pos ⟨hz,by omega⟩]
     have e2:i%z=(i-z)%z:=Nat.mod_eq_sub_mod (by omega)
     rw[e1,e2];rfl
theorem gx {α:Type} {z:Nat}:∀(l:List (List α)) (_:∀x∈l,x.length=z),l.flatten.length=l.length* z
 |[],_=>by simp
 | x :: l, h => by
   rw[List.flatten_cons,xu,gx l (fun y hy=>h y (by simp [hy])),h x (by simp),List.length_cons,Nat.succ_mul,Nat.add_comm]
def iU (W:World):Mm:=fun b o=>W.cell? (at' b o)
def Rel (L:Lk) (W:World) (as:List AV) (cs:List Value):Prop:=as.length=cs.length∧∀(i:Nat) (a:AV) (v:Value),as[i]?=some a→cs[i]?=some v→VI L (iU W) a v
section
variable {H:Type} {enc:TypeId×Value→H} {P:Program} {W:World} {L:Lk} {B:Nat}
theorem dU {e:TypeId}:∀{l:List (DataW H)} {d:DataW H},d∈l→∀n∈d.weights P e,n∈DataW.weightsAll P e l
 | x :: l, d, hd, n, hn => by
   rw[DataW.weightsAll,List.mem_append]
   rcases xn.1 hd with rfl|hd
   · exact .inl hn
   · exact .inr (dU hd n hn)
theorem ji {n : Nat} {r : TypeId → Option (Ty × Nat)} {cs : List Value}
 (ih:∀(t:TypeId) (y:Ty×Nat),r t=some y→∀(cs:List Value) (x:DataW H×List MemPlace),DataW.trod enc P W 0 (fun _=>true) true n t cs=some x→(∀k∈x.1.weights P t,k≤B)→∃as,Sh B y.1 as∧as.length=y.2∧Rel L W as cs):
 ∀ (fs : List Field) (o : Nat) (xs : List (DataW H × List MemPlace)) (y : List Ty × Nat), mj P r o fs = some y → xs.length = fs.length →
   (∀(i:Nat) (f:Field),fs[i]?=some f→DataW.trod enc P W 0 (fun _=>true) true n f.type ((cs.drop f.offset).take (P.cellsOf f.type))=xs[i]?)→
   (∀k∈DataW.weightsEach P (fs.map (·.type)) (xs.map (·.1)),k≤B)→
   ∃as,jM B y.1 as∧o+as.length=y.2∧∀(i:Nat) (a:AV) (v:Value),as[i]?=some a→cs[o+i]?=some v→VI L (iU W) a v
 | [], o, xs, y, hy, hl, ht, hw => by
   obtain rfl:=wH hy
   exact⟨[],.nil,rfl,fun i a v h=>by simp at h⟩
 |f::fs,o,[],y,hy,hl,ht,hw=>by simp at hl
 | f :: fs, o, x :: xs, y, hy, hl, ht, hw => by
   unfold mj at hy
   split at hy
   · rename_i ho
     obtain⟨y1,h1,hy⟩:=wG.1 hy
     split at hy
     · rename_i hc
       obtain⟨y2,h2,rfl⟩:=wI.1 hy
       simp only[List.map_cons,DataW.weightsEach,List.mem_append]at hw
       obtain⟨as,s1,l1,r1,r2⟩:=ih f.type y1 h1 _ x (ht 0 f rfl) (fun k hk=>hw k (.inl hk))
       obtain⟨bs,s2,l2,q2⟩:=ji ih fs (o+y1.2) xs y2 h2 (by simpa using hl) (fun i g hg=>ht (i+1) g hg) (fun k hk=>hw k (.inr hk))
       refine⟨as++bs,.cons s1 s2,by rw[xu];omega,fun i a v ha hv=> ?_⟩
       by_cases c:i<as.length
       · rw[List.getElem?_append_left c]at ha
         refine r2 i a v ha ?_
         rw[xr,if_pos (by omega),xc,ho];exact hv
       · rw[List.getElem?_append_right (by omega)]at ha
         refine q2 _ a v ha ?_
         rw[show o+y1.2+(i-as.length)=o+i by omega];exact hv
     · cases hy
   · cases hy
theorem nF (b o n:Nat):(at' b o).add n=at' b (o+n):=by
 unfold Addr.add at'
 split
 · rename_i h;rw[h];rfl
 · rfl
theorem mX {a:Addr} {v:Value} (h:W.cell? a=some v):a=at' a.block a.off:=by
 unfold World.cell? at h
 cases hs:a.spot with
 |none=>cases a;simp at hs;subst hs;rfl
 | some k =>
   rw[hs]at h
   split at h
   · simp at h
   · cases h
theorem oP : ∀ (m : Nat) (t : TypeId) (y : Ty × Nat), lG P m t = some y → ∀ (n : Nat) (cs : List Value) (x : DataW H × List MemPlace), DataW.trod enc P W 0 (fun _ => true) true n t cs = some x →
 (∀k∈x.1.weights P t,k≤B)→∃as,Sh B y.1 as∧as.length=y.2∧Rel L W as cs
 |0,t,y,hy,n,cs,x,hx,hw=>by cases hy
 | m + 1, t, y, hy, n, cs, x, hx, hw => by
   unfold lG at hy
   split at hy
   · rename_i hu
     obtain rfl:=wH hy
     obtain⟨b,rfl,rfl⟩:=DataW.trod_bool hu hx
     exact⟨_,.bool b,rfl,rfl,fun i a v ha hv=>by
      match i,ha,hv with
      |0,ha,hv=>simp at ha hv;subst ha;subst hv;exact .bool b⟩
   · rename_i k hu
     obtain rfl:=wH hy
     obtain⟨z,rfl,rfl,hz⟩:=DataW.trod_int hu hx
     exact⟨_,.int hz,rfl,rfl,fun i a v ha hv=>by
      match i,ha,hv with
      |0,ha,hv=>simp at ha hv;subst ha;subst hv;exact .int _ _⟩
   · rename_i hu
     obtain rfl:=wH hy
     obtain⟨s,rfl,rfl,hz⟩:=DataW.trod_string hu hx
     refine⟨_,.str (s:=s) (hw _ ?_),rfl,rfl,fun i a v ha hv=>by
      match i,ha,hv with
      |0,ha,hv=>simp at ha hv;subst ha;subst hv;exact .str _⟩
     simp [DataW.weights]
   · rename_i e hu
     obtain⟨y1,h1,hy⟩:=wG.1 hy
     split at hy
     · rename_i hc
       obtain⟨hz,hc⟩:=hc
       obtain rfl:=wH hy
       rcases DataW.trod_slice hu hx with ⟨rfl,rfl⟩|⟨a,len,cap,elems,rest,n',rfl,rfl,rfl,-,hl,hm,hlen,hel,hsp,-⟩
       · exact⟨_,.aS,rfl,rfl,fun i a v ha hv=>by
          match i,ha,hv with
          |0,ha,hv=>simp at ha hv;subst ha;subst hv;exact .aS⟩
       · obtain⟨hrl,hr⟩:=hsp rfl
         simp only[DataW.weights,hu,List.length_map,xn,List.mem_append]at hw
         have ha:cap≠0→a=at' a.block a.off:=by
          intro h0
          have:∃cs,W.cells? 0 (a.add (0* P.cellsOf e)) (P.cellsOf e)=some cs:=by
           by_cases c:0<len
           · have:=hel 0 c
             obtain⟨q,hq⟩:∃q,elems[0]?=some q:=⟨elems[0],by simp [hlen,c]⟩
             rw[hq]at this
             obtain⟨c1,c2,_⟩:=wG.1 this
             exact⟨c1,c2⟩
           · have:=hr 0 (by omega)
             obtain⟨q,hq⟩:∃q,rest[0]?=some q:=⟨rest[0]'(by omega),by simp⟩
             rw[hq]at this
             obtain⟨c1,c2,_⟩:=wG.1 this
             exact⟨c1,by rw[show len+0=0 by omega]at c2;exact c2⟩
          obtain⟨c1,c2⟩:=this
          obtain⟨-,k1,k2⟩:=World.cells?_some c2
          have k3:=k2 0 (by omega)
          have:(a.add (0* P.cellsOf e)).add 0=a:=by simp [Addr.add]
          rw[this]at k3
          obtain⟨v,hv⟩:∃v,c1[0]?=some v:=⟨c1[0]'(by omega),by simp⟩
          rw[hv]at k3
          exact mX k3
         have each:∀i,i<len→∃as,(Sh B y1.1 as∧as.length=y1.2)∧∀j,j<y1.2→∃v,W.cell? (at' a.block (a.off+(i* y1.2+j)))=some v∧∀c,as[j]?=some c→VI L (iU W) c v:=by
          intro i hi
          obtain⟨q,hq⟩:∃q,elems[i]?=some q:=⟨elems[i]'(by omega),by simp⟩
          have h2:=hel i hi
          rw[hq]at h2
          obtain⟨c1,c2,c3⟩:=wG.1 h2
          obtain⟨as,s1,l1,r1,r2⟩:=oP m e y1 h1 n' c1 q c3 (fun k hk=>hw k (.inr (.inl (dU (List.mem_map.2 ⟨q,wX hq,rfl⟩) k hk))))
          obtain⟨-,k1,k2⟩:=World.cells?_some c2
          refine⟨as,⟨s1,l1⟩,fun j hj=> ?_⟩
          have k3:=k2 j (by omega)
          have ea:=ha (by omega)
          generalize a.block=ab at *
          generalize a.off=ao at *
          subst ea
          rw[nF,nF,hc]at k3
          obtain⟨v,hv⟩:∃v,c1[j]?=some v:=⟨c1[j]'(by omega),by simp⟩
          rw[hv]at k3
          exact⟨v,by rw[←wS];exact k3,fun c hcc=>r2 j c v hcc hv⟩
         obtain⟨ess,le,he⟩:=ot len each
         have hzz:∀es∈ess,es.length=y1.2:=fun es hes=>by
          obtain⟨i,hi⟩:=List.getElem?_of_mem hes
          exact(he i es hi).1.2
         refine⟨_,.aY (b:=P.bytesOf e) ess (fun es hes=>by
          obtain⟨i,hi⟩:=List.getElem?_of_mem hes
          exact(he i es hi).1.1) hzz (xq (wW _ (by omega)) (hw _ (.inl rfl))),rfl,rfl,fun i c v hc' hv=> ?_⟩
         match i,hc',hv with
         | 0, hc', hv =>
           simp only[List.getElem?_cons_zero,wK]at hc' hv
           subst hc';subst hv
           have cell:∀(i:Nat) (c:AV),ess.flatten[i]?=some c→∃v,W.cell? (at' a.block (a.off+i))=some v∧VI L (iU W) c v:=by
            intro i c hi
            rw[gv hz ess hzz]at hi
            obtain⟨es,h3,h4⟩:=wG.1 hi
            obtain⟨v,h5,h6⟩:=(he _ es h3).2 (i%y1.2) (Nat.mod_lt _ hz)
            refine⟨v, ?_,h6 c h4⟩
            rw[Nat.mul_comm (i/y1.2),Nat.div_add_mod]at h5;exact h5
           rw[le]
           refine .aY (b:=a.block) (base:=a.off) (fun i=>(W.cell? (at' a.block (a.off+i))).getD default) (fun i c hi=> ?_) (fun i c hi=> ?_) hl (fun q=>ha q) ?_ (fun q=>by cases q)
           · obtain⟨v,h5,_⟩:=cell i c hi
             show W.cell? _=_
             rw[h5];rfl
           · obtain⟨v,h5,h6⟩:=cell i c hi
             rw[h5];exact h6
           · rw[gx ess hzz,le,wY];exact wW _ hl
     · cases hy
   · rename_i fs hu
     obtain⟨y1,h1,hy⟩:=wG.1 hy
     split at hy
     · rename_i hc
       obtain rfl:=wH hy
       obtain⟨xs,n',rfl,rfl,hl,hxl,hf⟩:=DataW.trod_struct hu hx
       simp only[DataW.weights,hu]at hw
       obtain⟨as,s1,l1,q1⟩:=ji (cs:=cs) (fun t y h cs x hx hw=>oP m t y h n' cs x hx hw) fs.toList 0 xs y1 h1 (by simpa using hxl) (fun i f h=>hf i f (by simpa using h)) hw
       refine⟨as,.st s1,by show as.length=y1.2;omega,by omega,fun i a v ha hv=>q1 i a v ha (by rw[wY];exact hv)⟩
     · cases hy
   · cases hy
def kL:Ty×List AV→AV
 |(.st _,as)=>.agg as
 |(_,as)=>as.headD .bot
inductive gY (L:Lk) (W:World) (B:Nat):List Value→List (Ty×List AV)→Prop where
 |nil:gY L W B [] []
 |cons {v:Value} {vs:List Value} {x:Ty×List AV} {r:List (Ty×List AV)} (h1:Sh B x.1 x.2) (h2:V L (fun _=>none) (iU W) (kL x) v) (hr:gY L W B vs r):gY L W B (v::vs) (x::r)
def fX (P:Program) (m:Nat):List TypeId→Option (List Ty)
 |[]=>some []
 |t::ts=>(lG P m t).bind fun y=>(fX P m ts).map fun r=>y.1::r
theorem gV {y:Ty} {as:List AV} {v:Value} (hy:∀fs,y≠.st fs) (h1:as.length=1) (hv:v.cells.toList=[v]) (h2:Rel L W as v.cells.toList):VI L (iU W) (kL (y,as)) v:=by
 match as,h1 with
 | [a], _ =>
   have:=h2.2 0 a v rfl (by rw[hv];rfl)
   cases y<;>first|exact this|exact absurd rfl (hy _)
theorem tD {fs:List Ty} {as:List AV} {cs:Array Value} (h2:Rel L W as (Value.agg cs).cells.toList):VI L (iU W) (kL (.st fs,as)) (.agg cs):=by
 have e:(Value.agg cs).cells.toList=cs.toList:=rfl
 rw[e]at h2
 have:Value.agg cs=.agg cs.toList.toArray:=by simp
 rw[this]
 exact .agg h2.1 h2.2
theorem uf {m : Nat} {t : TypeId} {y : Ty × Nat} {as : List AV} {v : Value} {base : Nat} (hy : lG P m t = some y) (hl : as.length = y.2) (hv : Value.okWide P W .any base t v) (h2 : Rel L W as v.cells.toList) : VI L (iU W) (kL (y.1, as)) v := by
 cases m with
 |zero=>cases hy
 | succ m =>
   unfold lG at hy
   unfold Value.okWide at hv
   split at hy
   · rename_i hu
     obtain rfl:=wH hy
     rw[hu]at hv
     unfold Cell.okWide Cell.ok at hv
     rw[hu]at hv
     cases v<;>first|exact hv.elim|exact gV (by intro fs e;cases e) hl rfl h2
   · rename_i k hu
     obtain rfl:=wH hy
     rw[hu]at hv
     unfold Cell.okWide Cell.ok at hv
     rw[hu]at hv
     cases v<;>first|exact hv.elim|exact gV (by intro fs e;cases e) hl rfl h2
   · rename_i hu
     obtain rfl:=wH hy
     rw[hu]at hv
     unfold Cell.okWide Cell.ok at hv
     rw[hu]at hv
     cases v<;>first|exact hv.elim|exact gV (by intro fs e;cases e) hl rfl h2
   · rename_i e hu
     obtain⟨y1,h1,hy⟩:=wG.1 hy
     split at hy
     · obtain rfl:=wH hy
       rw[hu]at hv
       unfold Cell.okWide Cell.ok at hv
       rw[hu]at hv
       cases v<;>first|exact hv.elim|exact gV (by intro fs e;cases e) hl rfl h2
     · cases hy
   · rename_i fs hu
     obtain⟨y1,h1,hy⟩:=wG.1 hy
     split at hy
     · obtain rfl:=wH hy
       rw[hu]at hv
       obtain⟨cs,rfl,_⟩:=hv
       exact tD h2
     · cases hy
   · cases hy
theorem lN {m base:Nat}:∀{ts:List TypeId} {vs:List Value} {ds:List (DataW H)} {ps:List MemPlace} {ys:List Ty},fX P m ts=some ys→DataW.TrodAll enc P W 0 (fun _=>true) true ts vs ds ps→
 (∀(j:Nat) t v,ts[j]?=some t→vs[j]?=some v→Value.okWide P W .any base t v)→(∀k∈DataW.weightsEach P ts ds,k≤B)→∃r:List (Ty×List AV),r.map (·.1)=ys∧gY L W B vs r
 |[],[],[],ps,ys,hy,_,_,_=>by obtain rfl:=wH hy;exact⟨[],rfl,.nil⟩
 | t :: ts, v :: vs, d :: ds, ps, ys, hy, ⟨p, q, ⟨n, h1⟩, h2, _⟩, hv, hw => by
   unfold fX at hy
   obtain⟨y,g1,hy⟩:=wG.1 hy
   obtain⟨r,g2,rfl⟩:=wI.1 hy
   simp only[DataW.weightsEach,List.mem_append]at hw
   obtain⟨as,s1,l1,r1⟩:=oP (L:=L) m t y g1 n _ (d,p) h1 (fun k hk=>hw k (.inl hk))
   obtain⟨r',e,g3⟩:=lN g2 h2 (fun j t v a b=>hv (j+1) t v a b) (fun k hk=>hw k (.inr hk))
   exact⟨(y.1,as)::r',by rw[List.map_cons,e],.cons s1 (.ar (uf g1 l1 (hv 0 t v rfl rfl) r1)) g3⟩
 |[],_::_,_,_,_,_,h,_,_=>h.elim
 |[],[],_::_,_,_,_,h,_,_=>h.elim
 |_::_,[],_,_,_,_,h,_,_=>h.elim
 |_::_,_::_,[],_,_,_,h,_,_=>h.elim
theorem jT:∀{vs:List Value} {r:List (Ty×List AV)},gY L W B vs r→aw L vu (iU W) (r.map kL) vs∧∀x∈r,Sh B x.1 x.2
 |[],[],.nil=>⟨.nil,fun x h=>by cases h⟩
 | v :: vs, x :: r, .cons h1 h2 hr => by
   obtain⟨q1,q2⟩:=jT hr
   exact⟨.cons h2 q1,fun y hy=>by
    rcases xn.1 hy with rfl|hy
    · exact h1
    · exact q2 y hy⟩
theorem jR {W':World} (hl:laidOutB P=true) (hb:Below W.heap.size W W'):∀{ts:List TypeId} {vs:List Value} {ds:List (DataW H)} {ps:List MemPlace},
 ts.all (fun t=>P.readableRec t&&decide (t<P.types.size))=true→DataW.TrodAll enc P W 0 (fun _=>true) true ts vs ds ps→(∀x∈ps,x.block<W.heap.size)→DataW.TrodAll enc P W' 0 (fun b=>decide (b<W.heap.size)) true ts vs ds ps
 |[],[],[],_,_,h,_=>h
 | t :: ts, v :: vs, d :: ds, ps, ht, ⟨p, q, h1, h2, hp⟩, hlt => by
   subst hp
   simp only[List.all_cons,wT,decide_eq_true_eq]at ht
   exact⟨p,q,Below.trod hl ht.1.1 ht.1.2 h1 hb (fun x hx=>hlt x (List.mem_append_left _ hx)),jR hl hb ht.2 h2 (fun x hx=>hlt x (List.mem_append_right _ hx)),rfl⟩
 |[],_::_,_,_,_,h,_=>h.elim
 |[],[],_::_,_,_,h,_=>h.elim
 |_::_,[],_,_,_,h,_=>h.elim
 |_::_,_::_,[],_,_,h,_=>h.elim
end
theorem vt {C : Checked} {L : Lk} {A : bp} (lk : fk L A) (hP : L.P = C.prog) {f : FuncId} {fn : Func} {key : Nat} (hm : L.mf f = some key) {tys : List Ty} {m : Nat} (hty : fX C.prog m fn.params.toList = some tys)
 (hl:laidOutB C.prog=true) (hread:fn.params.toList.all (fun t=>C.prog.readableRec t&&decide (t<C.prog.types.size))=true) {tb:TypeId} (hrt:fn.resultTypes= #[tb]) (hb:C.prog.underlying tb=some .bool)
 {s:ChangeSpec} (hvars:s.vars=[]) (hspec:∀(H:Type) (ds:List (DataW H)),ds.length=tys.length→s.fn H ds={results:=[.lit (.bool true)],args:=ds})
 (law:∀r:List (Ty×List AV),r.map (·.1)=tys→(∀x∈r,Sh reachBytes x.1 x.2)→aU A key (r.map kL) H.empty=some (.bool true,H.empty))
 {H:Type} {enc:TypeId×Value→H} {W:World} {base:Nat} {args:Array Value} {ds gs:List (DataW H)} {before:List MemPlace}
 (hval:∀(j:Nat) t v,fn.params[j]?=some t→args[j]?=some v→Value.okWide C.prog W .any base t v)
 (hW:DataW.Whole enc C.prog fn.params.toList s.vars false W args.toList ds gs before)
 (hsz:(DataW.weightsEach C.prog (fn.params.toList++s.plain.varTypes C.prog) (ds++gs)).all (· ≤reachBytes)=true):
 Calls C.prog f args W fun e W'=>∃v,e=.returned v∧s.post enc C.prog fn false true false false W args v W':=by
 have hW':=hW
 obtain⟨p,q,hA,hV,rfl,hfz,hnd⟩:=hW
 rw[hvars]at hV
 obtain⟨rfl,rfl⟩:=trodVars_none hV
 have hw:∀k∈DataW.weightsEach C.prog fn.params.toList ds,k≤reachBytes:=by
  intro k hk
  have hv0:s.plain.varTypes C.prog=[]:=by
   have:s.plain.vars=[]:=hvars
   unfold DataSpec.varTypes;rw[this];rfl
  rw[hv0,List.append_nil,List.append_nil]at hsz
  simpa using List.all_eq_true.1 hsz k hk
 obtain⟨r,hr,hs⟩:=lN (L:=L) (base:=base) hty hA (fun j t v a b=>hval j t v (by simpa using a) (by simpa using b)) hw
 obtain⟨hrow,hsh⟩:=jT hs
 have hlen:ds.length=tys.length:=by
  have a1:∀{ts:List TypeId} {vs:List Value} {ds:List (DataW H)} {ps:List MemPlace},DataW.TrodAll enc C.prog W 0 (fun _=>true) true ts vs ds ps→ds.length=ts.length:=by
   intro ts
   induction ts with
   |nil=>intro vs ds ps h;cases vs<;>cases ds<;>first|rfl|exact h.elim
   |cons t ts ih=>intro vs ds ps h;cases vs<;>cases ds<;>first|exact h.elim|(obtain⟨_,_,_,h2,_⟩:=h;simp [ih h2])
  have a2:∀{ts:List TypeId} {ys:List Ty},fX C.prog m ts=some ys→ys.length=ts.length:=by
   intro ts
   induction ts with
   |nil=>intro ys h;obtain rfl:=wH h;rfl
   | cons t ts ih =>
     intro ys h
     unfold fX at h
     obtain⟨y,_,h⟩:=wG.1 h
     obtain⟨z,g2,rfl⟩:=wI.1 h
     simp [ih g2]
  rw[a1 hA,a2 hty]
 have key:=mV lk (f:=key) (fid:=f) (args:=r.map kL) (vals:=args.toList) (M:=iU W) (W:=W) hm (fun _ _ _ h=>h) (law r hr hsh) hrow
 rw[hP]at key
 have ea:args.toList.toArray=args:=by simp
 rw[ea]at key
 simp only[List.append_nil]at hW'
 refine key.mono fun e W' ⟨he,hb'⟩=> ?_
 subst he
 have e1:=hspec H (ds++[]) (by simpa using hlen)
 refine⟨_,rfl,mS (pa:=p) (pv:=[]) hW' hb' hrt (fun _ _ _=>shut_bool hb true) (by rw[e1]) (by rw[e1];simpa using jR hl hb' hread hA (fun x hx=>by simpa using hW'.lt x hx)) ?_⟩
 rw[e1,hvars];rfl
theorem vg {α β:Type} {x y:Option α} (f:α→Option β) (h:x=y):x.bind f=y.bind f:=by rw[h]
@[simp] theorem uO (t : Nat) : look [] t = .bot := rfl
@[simp] theorem tU (s t : Nat) (v : AV) (r : Env) : look ((s, v) :: r) t = if s = t then v else look r t := rfl
@[simp] theorem tV (e : Env) : ay e [] = [] := rfl
@[simp] theorem tE (e : Env) (t : Nat) (r : List Nat) : ay e (t :: r) = (t, look e t) :: ay e r := rfl
@[simp] theorem wA (e : Env) (n : Nat) : (X.t n).ev e = look e n := rfl
@[simp] theorem wz (e : Env) (v : AV) : (X.c v).ev e = v := rfl
@[simp] theorem rS (agg : Bool) (n id off : Nat) (h : H) : cf agg n (.aG id off) h = (h.get id).bind fun cs => iO agg n cs off := rfl
@[simp] theorem rQ (agg : Bool) (n off : Nat) (cs : List AV) (h : H) : cf agg n (.aN cs off) h = iO agg n cs off := rfl
@[simp] theorem qW (n id off : Nat) (v : AV) (h : H) : dG n (.aG id off) v h = (h.get id).bind fun cs =>
 if h.floor≤id∧v.cells.length=n∧off+n≤cs.length∧AV.aE v.cells=true then some (h.set id (setFrom cs off v.cells))else none:=rfl
@[simp] theorem wj (n : Nat) (cs : List AV) (off : Nat) : iO false n cs off = cs[off]? := rfl
section
variable (k:IntKind) (a b:Int)
@[simp] theorem nh : bC .add (.int k a) (.int k b) = some (.int k (k.wrap (a + b))) := by simp [bC, bq]
@[simp] theorem nD : bC .sub (.int k a) (.int k b) = some (.int k (k.wrap (a - b))) := by simp [bC, bq]
@[simp] theorem ny : bC .mul (.int k a) (.int k b) = some (.int k (k.wrap (a * b))) := by simp [bC, bq]
@[simp] theorem nu : bC .lss (.int k a) (.int k b) = some (.bool (decide (a < b))) := by simp [bC, bq]
@[simp] theorem nr : bC .leq (.int k a) (.int k b) = some (.bool (decide (a ≤ b))) := by simp [bC, bq]
@[simp] theorem nq : bC .gtr (.int k a) (.int k b) = some (.bool (decide (a > b))) := by simp [bC, bq]
@[simp] theorem nk : bC .geq (.int k a) (.int k b) = some (.bool (decide (a ≥ b))) := by simp [bC, bq]
@[simp] theorem nj : bC .eql (.int k a) (.int k b) = some (.bool (a == b)) := by simp [bC, bq]
@[simp] theorem nC : bC .neq (.int k a) (.int k b) = some (.bool (a != b)) := by simp [bC, bq]
@[simp] theorem ni : bC .and (.int k a) (.int k b) = some (.int k (bits .and k a b)) := by simp [bC, bq]
@[simp] theorem o0 : bC .or (.int k a) (.int k b) = some (.int k (bits .or k a b)) := by simp [bC, bq]
@[simp] theorem nE : bC .xor (.int k a) (.int k b) = some (.int k (bits .xor k a b)) := by simp [bC, bq]
theorem uc (h:b≠0):bC .quo (.int k a) (.int k b)=some (.int k (k.wrap (a.tdiv b))):=by simp [bC,bq,h]
theorem ud (h:b≠0):bC .rem (.int k a) (.int k b)=some (.int k (a.tmod b)):=by simp [bC,bq,h]
end
@[simp] theorem mB (k : IntKind) (n : Int) : (AV.int k n).cells = [.int k n] := rfl
@[simp] theorem kO (b : Bool) : (AV.bool b).cells = [.bool b] := rfl
@[simp] theorem mC (b : ByteArray) : (AV.str b).cells = [.str b] := rfl
@[simp] theorem kR (i o : Nat) : (AV.aG i o).cells = [.aG i o] := rfl
@[simp] theorem kS (i o l z : Nat) : (AV.aH i o l z).cells = [.aH i o l z] := rfl
@[simp] theorem kQ : AV.aS.cells = [.aS] := rfl
@[simp] theorem kP : AV.cT.cells = [.cT] := rfl
@[simp] theorem mA (c : List AV) : (AV.agg c).cells = c := rfl
@[simp] theorem tO : AV.aE [] = true := rfl
@[simp] theorem rP (v : AV) (r : List AV) : AV.aE (v :: r) = (v.sc && AV.aE r) := rfl
@[simp] theorem rF (cs : List AV) (off : Nat) : setFrom cs off [] = cs := rfl
@[simp] theorem qK (cs : List AV) (off : Nat) (v : AV) (r : List AV) : setFrom cs off (v :: r) = setFrom (cs.set off v) (off + 1) r := rfl
@[simp] theorem tJ (k : IntKind) (n : Int) : (AV.int k n).sc = true := rfl
@[simp] theorem qF (b : Bool) : (AV.bool b).sc = true := rfl
@[simp] theorem tK (b : ByteArray) : (AV.str b).sc = true := rfl
@[simp] theorem qI (i o : Nat) : (AV.aG i o).sc = true := rfl
@[simp] theorem qJ (i o l z : Nat) : (AV.aH i o l z).sc = true := rfl
@[simp] theorem qH : AV.aS.sc = true := rfl
@[simp] theorem qG : AV.cT.sc = true := rfl
@[simp] theorem rC (d : Nat) (v : AV) (e : Env) : aP (some d) v e = (d, v) :: e := rfl
@[simp] theorem rz (v : AV) (e : Env) : aP none v e = e := rfl
@[simp] theorem rG (call : ae) (ops : List aj) (e : Env) (gs : List H) : bh call ops e gs [] = true := rfl
@[simp] theorem rL (off id o : Nat) : fZ off (.aG id o) = some (.aG id (o + off)) := rfl
@[simp] theorem rK (off o : Nat) (c : List AV) : fZ off (.aN c o) = some (.aN c (o + off)) := rfl
@[simp] theorem qU (n sz id off : Nat) (i : AV) : dF n sz (.aG id off) i = (dC i n).bind fun j => some (.aG id (off + j * sz)) := rfl
@[simp] theorem qT (n sz off : Nat) (c : List AV) (i : AV) : dF n sz (.aN c off) i = (dC i n).bind fun j => some (.aN c (off + j * sz)) := rfl
noncomputable def Lp (A:bp) (yR:List Nat) (c:aI) (e:Env) (h:H):ej:=bH (fun e h=>aO (aU A) bH c (ay e yR) h) e h
theorem uo (A:bp) (yR:List Nat) (c:aI) (e:Env) (h:H):aO (aU A) bH (.loop yR c) e h=Lp A yR c e h:=rfl
theorem u9 {A:bp} {yR:List Nat} {c:aI} {e e':Env} {h h':H} {r} (h1:aO (aU A) bH c (ay e yR) h=some (.normal,e',h')) (h2:Lp A yR c e' h'=some r):Lp A yR c e h=some r:=j9 h1 h2
theorem u6 {A:bp} {yR:List Nat} {c:aI} {e e':Env} {h h':H} {i:Nat} (h1:aO (aU A) bH c (ay e yR) h=some (.exit i,e',h')):Lp A yR c e h=some (.exit i,e',h'):=k9 h1
theorem vF {A:bp} {yR:List Nat} {c:aI} {e e':Env} {h h':H} (h1:aO (aU A) bH c (ay e yR) h=some (.ret,e',h')):Lp A yR c e h=some (.ret,e',h'):=mN h1
theorem wk {c:ae} {l:bQ} {a b:aI} {e e1:Env} {h h1:H} {r} (h1':aO c l a e h=some (.normal,e1,h1)) (h2:aO c l b e1 h1=some r):aO c l (.seq a b) e h=some r:=by
 simp only[aO,h1',wP];exact h2
theorem wq {c:ae} {l:bQ} {a b:aI} {e e1:Env} {h h1:H} {i:Nat} (h1':aO c l a e h=some (.exit i,e1,h1)):aO c l (.seq a b) e h=some (.exit i,e1,h1):=by
 simp only[aO,h1',wP]
theorem wo {c:ae} {l:bQ} {a b:aI} {e e1:Env} {h h1:H} (h1':aO c l a e h=some (.ret,e1,h1)):aO c l (.seq a b) e h=some (.ret,e1,h1):=by
 simp only[aO,h1',wP]
theorem rU {A:bp} {id:Nat} {k yR:List Nat} {c:aI} {e e1:Env} {h h1:H} (hl:Lp A yR c e h=some (.exit id,e1,h1)):aO (aU A) bH (.block id (.loop yR c) k) e h=some (.normal,ay e1 k,h1):=by
 simp only[aO,wG]
 exact⟨_,hl,by simp⟩
theorem vP {A:bp} {f:Nat} {fn:fY} {args:List AV} {h h2:H} {e:Env} {vs:List AV} {v:AV} (hf:A f=some fn) (hnp:args.length=fn.np) (hp:fn.pure=true)
 (hx:aO (aU A) bH fn.body (params 0 args) h.eO=some (.ret,e,h2)) (hres:c9 e h2 fn.res=some vs) (hs:snap h2.get h.next 16 true (dS vs)=some v):aU A f args h=some (v,h):=by
 refine lS hf ?_
 unfold fW
 rw[if_pos hnp]
 simp only[hp,if_true,hx,wP,fin,hres,iQ,hs]
theorem vv {A:bp} {f:Nat} {fn:fY} {args:List AV} {h h2:H} {e:Env} {vs:List AV} (hf:A f=some fn) (hnp:args.length=fn.np) (hp:fn.pure=false)
 (hx:aO (aU A) bH fn.body (params 0 args) h=some (.ret,e,h2)) (hres:c9 e h2 fn.res=some vs):aU A f args h=some (dS vs,h2):=by
 refine lS hf ?_
 unfold fW
 rw[if_pos hnp]
 simp [hp,hx,fin,hres]
theorem iz {c:ae}:∀(os:List aj) (e:Env) (h:H),au c os e h=(aQ c os e h).bind fun r=>some (r.1,r.2.1)
 |[],_,_=>rfl
 | o :: os, e, h => by
   simp only[au,aQ]
   cases hv:ai c o e h with
   |none=>rfl
   | some r =>
     simp only[wP]
     rw[iz os]
     cases aQ c os (aP o.dst r.1 e) r.2<;>rfl
section
variable (c:ae) (l:bQ) (e:Env) (h:H)
theorem vi (ops:List aj) (yR:List Nat):aO c l (.qz ops yR) e h=(au c ops e h).bind fun r=>some (.normal,ay r.1 yR,r.2):=by rw[aO]
theorem mE (ord:List Nat) (ops:List aj) (yR:List Nat):aO c l (.jG ord ops [] yR) e h=(au c ops e h).bind fun r=>some (.normal,ay r.1 yR,r.2):=by
 rw[iz]
 simp only[aO]
 cases aQ c ops e h<;>simp
theorem vk (a b:aI):aO c l (.seq a b) e h=(aO c l a e h).bind fun r=>match r with|(.normal,e',h')=>aO c l b e' h'|r=>some r:=by rw[aO];rfl
theorem um (x:X) (a b:aI) (yR:List Nat):aO c l (.cond x a b yR) e h=match x.ev e with
 | .bool t=>(if t then aO c l a e h else aO c l b e h).bind fun r=>match r with|(.normal,e',h')=>some (.normal,ay e' yR,h')|r=>some r
 |_=>none:=by rw[aO];rfl
theorem tR (id:Nat) (x:aI) (yR:List Nat):aO c l (.block id x yR) e h=(aO c l x e h).bind fun r=>match r with
 |(.normal,e',h')=>some (.normal,ay e' yR,h')
 |(.exit j,e',h')=>if j=id then some (.normal,ay e' yR,h')else some (.exit j,e',h')
 |(.ret,e',h')=>some (.ret,e',h'):=by rw[aO];rfl
theorem oi:aO c l .skip e h=some (.normal,e,h):=by rw[aO]
theorem pB:aO c l .ret e h=some (.ret,e,h):=by rw[aO]
theorem oh (i:Nat):aO c l (.exit i) e h=some (.exit i,e,h):=by rw[aO]
end
def I (n:Int):AV:=.int .i64 n
theorem vC {n:Int} (h1: -9223372036854775808≤n) (h2:n<9223372036854775808):IntKind.wrap .i64 n=n:=by
 have e:IntKind.wrap .i64 n=if n%18446744073709551616≥9223372036854775808 then n%18446744073709551616-18446744073709551616 else n%18446744073709551616:=by
  simp [IntKind.wrap,IntKind.bits,IntKind.signed]
 rw[e];split<;>omega
def oV (n:Nat) (C:Nat→AV):List AV:=(List.range n).map C
def vT (C:Nat→AV) (i:Nat) (v:AV):Nat→AV:=fun j=>if j=i then v else C j
@[simp] theorem tL (n : Nat) (C : Nat → AV) : (oV n C).length = n := by simp [oV]
theorem gX {n:Nat} {C:Nat→AV} {i:Nat} (h:i<n):(oV n C)[i]?=some (C i):=by simp [oV,h]
@[simp] theorem rH {n : Nat} {C : Nat → AV} {i : Nat} (h : i < (oV n C).length) : (oV n C)[i] = C i := by simp [oV]
theorem vB {n:Nat} {C:Nat→AV} {i:Nat} (h:i<n) (v:AV):(oV n C).set i v=oV n (vT C i v):=by
 apply List.ext_getElem?
 intro j
 by_cases hj:j<n
 · by_cases e:j=i
   · subst e;rw[xi (by simpa using hj),gX hj];simp [vT]
   · rw[List.getElem?_set_ne (by omega),gX hj,gX hj];simp [vT,e]
 · rw[List.getElem?_eq_none (by simp;omega),List.getElem?_eq_none (by simp;omega)]
theorem vw {n:Nat} {C:Nat→AV} {i k:Nat} (h:i<n):iO false k (oV n C) i=some (C i):=gX h
def ints (l:List Int):List AV:=l.map I
@[simp] theorem rk (l : List Int) : (ints l).length = l.length := by simp [ints]
theorem uM {l:List Int} {i:Nat} {x:Int} (h:l[i]?=some x):(ints l)[i]?=some (I x):=by simp [ints,h]
theorem kG:∀l:List Int,AV.aE (ints l)=true
 |[]=>rfl
 |x::l=>by simp [ints,AV.aE,I,AV.sc];exact kG l
theorem rj (a b:List Int):ints (a++b)=ints a++ints b:=by simp [ints]
def Rd (h:H) (v:AV) (cs:List AV):Prop:=aV h 1 v=some (cs.length,cs)∧∀s,v≠.str s
theorem Rd.len {h:H} {v:AV} {cs:List AV} (r:Rd h v cs):jQ false v=some (I cs.length):=by
 obtain⟨r,hs⟩:=r
 unfold aV at r
 split at r
 · obtain⟨h1,h2⟩:=wJ (wH r);subst h2;rfl
 · exact absurd rfl (hs _)
 · split at r
   · simp only[wG]at r
     obtain⟨c,_,r⟩:=r
     split at r
     · obtain⟨h1,h2⟩:=wJ (wH r);simp [jQ,I,h1]
     · cases r
   · cases r
 · split at r
   · split at r
     · obtain⟨h1,h2⟩:=wJ (wH r);simp [jQ,I,h1]
     · cases r
   · cases r
 · cases r
theorem Rd.mono {h g:H} {v:AV} {cs:List AV} (r:Rd h v cs) (hg:∀id c,h.get id=some c→g.get id=some c):Rd g v cs:=by
 obtain⟨r,hs⟩:=r
 refine⟨?_,hs⟩
 unfold aV at r ⊢
 split at r
 · exact r
 · exact r
 · split at r
   · rename_i q;simp only[if_pos q,wG]at r ⊢
     obtain⟨c,h1,r⟩:=r
     exact⟨c,hg _ _ h1,r⟩
   · cases r
 · exact r
 · cases r
theorem lJ {i n:Nat} (h:i<n):dC (I i) n=some i:=by
 simp [dC,pc,I];omega
theorem Rd.elem {h : H} {v : AV} {cs : List AV} (r : Rd h v cs) {i : Nat} {c : AV} (hc : cs[i]? = some c) : ∃ p, gZ 1 v (I i) = some p ∧ ∀ g : H, (∀ id c, h.get id = some c → g.get id = some c) → cf false 1 p g = some c := by
 obtain⟨r,hs⟩:=r
 have hi:i<cs.length:=(wO.1 hc).1
 unfold aV at r
 split at r
 · obtain⟨h1,h2⟩:=wJ (wH r);subst h2;simp at hi
 · exact absurd rfl (hs _)
 · rename_i id off len s
   split at r
   · rename_i q
     subst q
     simp only[wG]at r
     obtain⟨d,hd,r⟩:=r
     split at r
     · obtain⟨h1,h2⟩:=wJ (wH r)
       refine⟨.aG id (off+i),by simp [gZ,lJ (h1 ▸ hi)],fun g hg=> ?_⟩
       simp only[cf,hg _ _ hd,wP,iO,wR,xp]
       rw[←h2,xr]at hc
       split at hc
       · rwa [xc]at hc
       · cases hc
     · cases r
   · cases r
 · rename_i t cells off len s
   split at r
   · rename_i q
     subst q
     split at r
     · obtain⟨h1,h2⟩:=wJ (wH r)
       refine⟨.aN cells (off+i),by simp [gZ,lJ (h1 ▸ hi)],fun g hg=> ?_⟩
       simp only[cf,iO,wR,xp]
       rw[←h2,xr]at hc
       split at hc
       · rwa [xc]at hc
       · cases hc
     · cases r
   · cases r
 · cases r
def oU (h:H) (v:AV) (cs:List AV):Prop:=(v=.aS∧cs=[])∨∃id,v=.aH id 0 cs.length 1∧h.get id=some cs∧h.floor≤id∧cs≠[]
theorem oU.mono {h g:H} {v:AV} {cs:List AV} (o:oU h v cs) (hf:g.floor=h.floor) (hg:∀i,v.id?=some i→g.get i=h.get i):oU g v cs:=by
 rcases o with o|⟨id,rfl,h1,h2,h3⟩
 · exact .inl o
 · exact .inr ⟨id,rfl,by rw[hg id rfl];exact h1,by rw[hf];exact h2,h3⟩
theorem oU.sc {h:H} {v:AV} {cs:List AV} (o:oU h v cs):v.sc=true:=by
 rcases o with ⟨rfl,_⟩|⟨id,rfl,_⟩<;>rfl
theorem oU.lt {h:H} {v:AV} {cs:List AV} (o:oU h v cs) {i:Nat} (hi:v.id?=some i):i<h.next:=by
 rcases o with ⟨rfl,_⟩|⟨id,rfl,h1,_⟩
 · cases hi
 · obtain rfl:=wH hi;exact h.lt _ _ h1
theorem oU.app {h:H} {v:AV} {cs:List AV} (o:oU h v cs) (hfn:h.floor≤h.next) {z:Nat} (c:AV) (hc:c.sc=true) (hr:roomy z (cs.length+1)=true):
 ∃v' h',eK h 1 z v 1 [c]=some (v',h')∧oU h' v' (cs++[c])∧h'.floor=h.floor∧h.next≤h'.next∧(∀i,v.id?≠some i→i≠h.next→h'.get i=h.get i)∧v'.id?=some h.next:=by
 have ha:AV.aE [c]=true:=by simp [AV.aE,hc]
 rcases o with ⟨rfl,rfl⟩|⟨id,rfl,hg,hf,hne⟩
 · refine⟨.aH h.next 0 1 1,h.alloc [c], ?_,.inr ⟨h.next,rfl,by simp [H.aZ], ?_,by simp⟩,by simp,by simp,fun i _ hi=>by rw[H.aZ,if_neg hi],rfl⟩
   · unfold eK
     rw[if_neg (by omega),if_neg (by simp [ha])]
     simp only[List.length_nil,wY]at hr
     simp only[hr,if_true]
   · simp;omega
 · refine⟨.aH h.next 0 (cs.length+1) 1,(h.del id).alloc (cs++[c]), ?_,.inr ⟨h.next,by simp,by simp [H.aZ], ?_,by simp⟩,by simp,by simp,fun i h1 h2=> ?_,rfl⟩
   · unfold eK
     rw[if_neg (by omega),if_neg (by simp [ha])]
     simp only[hf,and_self,if_true,hg,wP]
     rw[if_neg (by omega),if_pos ⟨by omega,hr⟩]
     simp
   · have:=h.lt id cs hg;simp;omega
   · rw[H.aZ,H.kd,if_neg h2,H.eS,if_neg]
     intro e;subst e;exact h1 rfl
def dP (h:H) (p:Option AV):Option (AV×H):=p.bind fun v=>some (v,h)
theorem tF (h:H) (v:AV):dP h (some v)=some (v,h):=wM rfl rfl
def uZ (h:H) (neg:Bool) (p:Option Bool):Option (AV×H):=p.bind fun b=>some (qR neg b,h)
theorem tG (h:H) (neg b:Bool):uZ h neg (some b)=some (qR neg b,h):=wM rfl rfl
theorem u0 (b:Bool):qR false b=.bool b:=wM rfl rfl
theorem u5 (b:Bool):qR true b=.bool (!b):=wM rfl rfl
def tH (p:Option H):Option (AV×H):=p.bind fun h=>some (.bot,h)
theorem tI (h:H):tH (some h)=some (.bot,h):=wM rfl rfl
def oK (h:H) (a b:AV) (c:AV):Option (AV×H):=match c with| .bool t=>some (if t then a else b,h)|_=>none
theorem qy (h:H) (a b:AV):oK h a b (.bool true)=some (a,h):=wM rfl rfl
theorem qx (h:H) (a b:AV):oK h a b (.bool false)=some (b,h):=wM rfl rfl
def kh (h:H) (c:AV):Option (AV×H):=match c with| .aG i o=>some (.aG i o,h)| .aN c o=>some (.aN c o,h)| .fn f a b=>some (.fn f a b,h)| .iface t v=>some (.iface t v,h)|_=>none
theorem pT (h:H) (i o:Nat):kh h (.aG i o)=some (.aG i o,h):=wM rfl rfl
theorem pR (h:H) (c:List AV) (o:Nat):kh h (.aN c o)=some (.aN c o,h):=wM rfl rfl
theorem pQ (h:H) (f:Nat) (a b:List AV):kh h (.fn f a b)=some (.fn f a b,h):=wM rfl rfl
theorem pS (h:H) (t:Nat) (v:AV):kh h (.iface t v)=some (.iface t v,h):=wM rfl rfl
def uQ (h:H) (c:AV):Option (AV×H):=match c with| .bool b=>some (.bool (!b),h)|_=>none
theorem tc (h:H) (b:Bool):uQ h (.bool b)=some (.bool (!b),h):=wM rfl rfl
def uP (h:H) (c:AV):Option (AV×H):=match c with| .int k n=>some (.int k (k.wrap (0-n)),h)|_=>none
theorem vN (h:H) (k:IntKind) (n:Int):uP h (.int k n)=some (.int k (k.wrap (0-n)),h):=wM rfl rfl
def uN (h:H) (c:AV):Option (AV×H):=match c with| .int k n=>some (.int k (bits .xor k (if k.signed then-1 else k.max) n),h)|_=>none
theorem vM (h:H) (k:IntKind) (n:Int):uN h (.int k n)=some (.int k (bits .xor k (if k.signed then-1 else k.max) n),h):=wM rfl rfl
def qX (h:H) (k:IntKind) (c:AV):Option (AV×H):=match c with| .int _ n=>some (.int k (k.wrap n),h)|_=>none
theorem px (h:H) (j k:IntKind) (n:Int):qX h k (.int j n)=some (.int k (k.wrap n),h):=wM rfl rfl
def rD (h:H) (c:AV):Option (AV×H):=match c with| .str s=>some (.str s,h)|_=>none
theorem qE (h:H) (s:ByteArray):rD h (.str s)=some (.str s,h):=wM rfl rfl
def uk (h:H) (neg:Bool) (a b:AV):Option (AV×H):=match a,b with| .bool a,.bool b=>some (qR neg (a==b),h)|_,_=>none
theorem vJ (h:H) (neg a b:Bool):uk h neg (.bool a) (.bool b)=some (qR neg (a==b),h):=wM rfl rfl
def rh (h:H) (i:Nat) (v:AV):Option (AV×H):=match v with| .bW vs=>dP h (vs[i]?)|_=>none
theorem pE (h:H) (i:Nat) (vs:List AV):rh h i (.bW vs)=dP h (vs[i]?):=wM rfl rfl
def uu (h:H) (agg:Bool) (off n:Nat) (v:AV):Option (AV×H):=match v with| .agg cs=>dP h (iO agg n cs off)|_=>none
theorem sJ (h:H) (agg:Bool) (off n:Nat) (cs:List AV):uu h agg off n (.agg cs)=dP h (iO agg n cs off):=wM rfl rfl
def oR (h:H) (t:Nat) (v:AV):Option (AV×H):=match v with| .iface u v=>if u=t then some (v,h)else none|_=>none
theorem qP (h:H) (t:Nat) (v:AV):oR h t (.iface t v)=some (v,h):=by simp [oR]
def lQ (c:ae) (args:List AV) (h:H) (f:AV):Option (AV×H):=match f with| .fn k first captured=>c k (first++args++captured) h|_=>none
theorem po (c:ae) (args:List AV) (h:H) (k:Nat):lQ c args h (.fn k [] [])=c k args h:=by simp [lQ]
theorem nW (c:ae) (args:List AV) (h:H) (k:Nat) (f g:List AV):lQ c args h (.fn k f g)=c k (f++args++g) h:=wM rfl rfl
def fu (h:H) (p:Option (List AV×(Nat→AV))):Option (AV×H):=p.bind fun b=>some (b.2 h.next,h.alloc b.1)
theorem nQ (h:H) (cs:List AV) (f:Nat→AV):fu h (some (cs,f))=some (f h.next,h.alloc cs):=wM rfl rfl
def ue (h:H) (p:Option (List AV)):Option (AV×H):=p.bind fun cs=>some (.agg cs,h)
theorem rO (h:H) (cs:List AV):ue h (some cs)=some (.agg cs,h):=wM rfl rfl
def vH (h:H) (x:AV) (p:Option (Nat×List AV)):Option (AV×H):=p.bind fun q=>(mu q.2).bind fun l=>match x with| .str _=>none|_=>some (.str ⟨l.toArray⟩,h)
section
variable (c:ae) (e:Env) (h:H)
theorem uR (x:X):ah c e h (.mv x)=some (x.ev e,h):=wM rfl rfl
theorem qt (x a b:X):ah c e h (.pick x a b)=oK h (a.ev e) (b.ev e) (x.ev e):=wM rfl rfl
theorem iM (z:List AV):ah c e h (.alloc z)=fu h (bg e (.alloc z)):=wM rfl rfl
theorem jJ (n:Nat) (x:X):ah c e h (.box n x)=fu h (bg e (.box n x)):=wM rfl rfl
theorem gI (a b:Nat) (z:List AV) (ps):ah c e h (.dj a b z ps)=fu h (bg e (.dj a b z ps)):=wM rfl rfl
theorem iV (a b:Nat) (z:List AV) (x y:X):ah c e h (.jI a b z x y)=fu h (bg e (.jI a b z x y)):=wM rfl rfl
theorem pW (x:X):ah c e h (.qD x)=fu h (bg e (.qD x)):=wM rfl rfl
theorem oB (z:List AV) (ps:List (Nat×Nat×X)):ah c e h (.build z ps)=ue h (eP z (ps.map fun p=>(p.1,p.2.1,p.2.2.ev e))):=wM rfl rfl
theorem qk (agg:Bool) (n:Nat) (p:X):ah c e h (.load agg n p)=dP h (cf agg n (p.ev e) h):=wM rfl rfl
theorem oE (n:Nat) (p v:X):ah c e h (.store n p v)=tH (dG n (p.ev e) (v.ev e) h):=wM rfl rfl
theorem qp (x:X):ah c e h (.pP x)=kh h (x.ev e):=wM rfl rfl
theorem tg (o:Bo) (x y:X):ah c e h (.bin o x y)=dP h (bC o (x.ev e) (y.ev e)):=wM rfl rfl
theorem tn (k:Nat) (neg:Bool) (x y:X):ah c e h (.mD k neg x y)=uZ h neg (gG k (x.ev e) (y.ev e)):=wM rfl rfl
theorem tj (neg:Bool) (x y:X):ah c e h (.uj neg x y)=uk h neg (x.ev e) (y.ev e):=wM rfl rfl
theorem tu (x:X):ah c e h (.not x)=uQ h (x.ev e):=wM rfl rfl
theorem tt (x:X):ah c e h (.neg x)=uP h (x.ev e):=wM rfl rfl
theorem tq (x:X):ah c e h (.inv x)=uN h (x.ev e):=wM rfl rfl
theorem pY (k:IntKind) (x:X):ah c e h (.conv k x)=qX h k (x.ev e):=wM rfl rfl
theorem qu (x:X):ah c e h (.same x)=rD h (x.ev e):=wM rfl rfl
theorem te (x:X):ah c e h (.mu x)=vH h (x.ev e) (aV h 1 (x.ev e)):=wM rfl rfl
theorem qo (t:Nat) (x:X):ah c e h (.pO t x)=if(x.ev e).sc then some (.iface t (x.ev e),h)else none:=wM rfl rfl
theorem qm (f:Nat) (a b:List X):ah c e h (.pN f a b)=some (.fn f (bc e a) (bc e b),h):=wM rfl rfl
theorem tz (x:X) (lo hi:Option X):ah c e h (.vA x lo hi)=dP h (pd (x.ev e) (lo.map (X.ev e)) (hi.map (X.ev e))):=wM rfl rfl
theorem uS (sz:Nat) (x:X) (lo hi mx:Option X):ah c e h (.sl sz x lo hi mx)=dP h (ug h sz (x.ev e) (lo.map (X.ev e)) (hi.map (X.ev e)) (mx.map (X.ev e))):=wM rfl rfl
theorem tw (n sz:Nat) (x:X) (lo hi:Option X):ah c e h (.tW n sz x lo hi)=dP h (nN h n sz (x.ev e) (lo.map (X.ev e)) (hi.map (X.ev e))):=wM rfl rfl
theorem p9 (off:Nat) (x:X):ah c e h (.pF off x)=dP h (fZ off (x.ev e)):=wM rfl rfl
theorem tp (agg:Bool) (off n:Nat) (x:X):ah c e h (.vm agg off n x)=uu h agg off n (x.ev e):=wM rfl rfl
theorem qb (sz:Nat) (x i:X):ah c e h (.pG sz x i)=dP h (gZ sz (x.ev e) (i.ev e)):=wM rfl rfl
theorem oD (n sz:Nat) (x i:X):ah c e h (.lZ n sz x i)=dP h (dF n sz (x.ev e) (i.ev e)):=wM rfl rfl
theorem qg (x i:X):ah c e h (.idxs x i)=dP h (nH (x.ev e) (i.ev e)):=wM rfl rfl
theorem qe (agg:Bool) (n sz:Nat) (x i:X):ah c e h (.pK agg n sz x i)=dP h (nG agg n sz (x.ev e) (i.ev e)):=wM rfl rfl
theorem p8 (x:X) (i:Nat):ah c e h (.pD x i)=rh h i (x.ev e):=wM rfl rfl
def oq (c:ae) (h:H) (t f:Nat) (d:Bool) (xs:List AV) (v:AV):Option (AV×H):=match v with| .iface u v=>if u=t then(jb d v h).bind fun x=>c f (x::xs) h else none|_=>none
def sS (c:ae) (h:H) (f:Nat) (xs:List AV) (p:Option AV):Option (AV×H):=p.bind fun x=>c f (x::xs) h
theorem sU (c:ae) (h:H) (f:Nat) (xs:List AV) (x:AV):sS c h f xs (some x)=c f (x::xs) h:=rfl
theorem sQ (c:ae) (h:H) (t f:Nat) (xs:List AV) (v:AV):oq c h t f false xs (.iface t v)=c f (v::xs) h:=by simp [oq,jb]
theorem sR (c:ae) (h:H) (t f:Nat) (xs:List AV) (v:AV):oq c h t f true xs (.iface t v)=sS c h f xs (cf false 1 v h):=by simp [oq,jb,sS]
theorem qv (x:X) (t:Nat):ah c e h (.qN x t)=oR h t (x.ev e):=wM rfl rfl
theorem qh (r:X) (t f:Nat) (d:Bool) (xs:List X):ah c e h (.inv2 r t f d xs)=oq c h t f d (bc e xs) (r.ev e):=wM rfl rfl
theorem pX (f:X) (args:List X):ah c e h (.call f args)=lQ c (bc e args) h (f.ev e):=wM rfl rfl
theorem td (a b:Nat) (x y:X):ah c e h (.app a b x y)=mo h a b (x.ev e) (y.ev e):=wM rfl rfl
theorem pV (a b:Nat) (z:List AV) (x y:X):ah c e h (.kH a b z x y)=iY h a b z (x.ev e) (y.ev e):=wM rfl rfl
theorem tr (s:Bool) (x:X):ah c e h (.len s x)=dP h (jQ s (x.ev e)):=wM rfl rfl
theorem th (x:X):ah c e h (.cap x)=dP h (rJ (x.ev e)):=wM rfl rfl
theorem pZ (n:Nat) (x y:X):ah c e h (.copy n x y)=iZ h n (x.ev e) (y.ev e):=wM rfl rfl
theorem oC (n:Nat) (z:List AV) (x:X):ah c e h (.clear n z x)=tH (fp h n z (x.ev e)):=wM rfl rfl
end
theorem nM (e:Env):bc e []=[]:=wM rfl rfl
theorem mq (e:Env) (x:X) (r:List X):bc e (x::r)=x.ev e::bc e r:=wM rfl rfl
def vK (c:ae) (d:Option Nat) (r:List aj) (e:Env) (p:Option (AV×H)):Option (Env×H):=p.bind fun q=>au c r (aP d q.1 e) q.2
theorem uF (c:ae) (d:Option Nat) (r:List aj) (e:Env) (v:AV) (h:H):vK c d r e (some (v,h))=au c r (aP d v e) h:=wM rfl rfl
def mK (w:Bool) (c:ae) (e:Env) (h:H) (op:cq) (g:AV):Option (AV×H):=match g with| .bool b=>if b=w then ah c e h op else some (.bW [],h)| .bW []=>some (.bW [],h)|_=>none
theorem sP (c:ae) (e:Env) (h:H) (op:cq):mK true c e h op (.bool true)=ah c e h op:=by simp [mK]
theorem sL (c:ae) (e:Env) (h:H) (op:cq):mK false c e h op (.bool false)=ah c e h op:=by simp [mK]
theorem sN (c:ae) (e:Env) (h:H) (op:cq):mK true c e h op (.bool false)=some (.bW [],h):=by simp [mK]
theorem sM (c:ae) (e:Env) (h:H) (op:cq):mK false c e h op (.bool true)=some (.bW [],h):=by simp [mK]
theorem uz (w:Bool) (c:ae) (e:Env) (h:H) (op:cq):mK w c e h op (.bW [])=some (.bW [],h):=by simp [mK]
theorem oj (c:ae) (d:Option Nat) (op:cq) (g:Nat) (w:Bool) (e:Env) (h:H):ai c ⟨d,op,some (g,w)⟩ e h=mK w c e h op (look e g):=by
 unfold ai mK
 dsimp only
 cases look e g with
 |bW vs=>cases vs<;>rfl
 |_=>rfl
theorem qw (c:ae) (e:Env) (h:H):au c [] e h=some (e,h):=wM rfl rfl
theorem uU (c:ae) (d:Option Nat) (op:cq) (r:List aj) (e:Env) (h:H):au c (⟨d,op,none⟩::r) e h=vK c d r e (ah c e h op):=wM rfl rfl
theorem uT (c:ae) (d:Option Nat) (op:cq) (g:Nat) (w:Bool) (r:List aj) (e:Env) (h:H):au c (⟨d,op,some (g,w)⟩::r) e h=vK c d r e (mK w c e h op (look e g)):=by
 rw[au,oj];rfl
def vL (yR:List Nat) (p:Option (Env×H)):ej:=p.bind fun q=>some (.normal,ay q.1 yR,q.2)
theorem uG (yR:List Nat) (e:Env) (h:H):vL yR (some (e,h))=some (.normal,ay e yR,h):=wM rfl rfl
def vq (c:ae) (l:bQ) (b:aI) (p:ej):ej:=p.bind fun r=>match r with|(.normal,e',h')=>aO c l b e' h'|r=>some r
theorem uH (c:ae) (l:bQ) (b:aI) (e:Env) (h:H):vq c l b (some (.normal,e,h))=aO c l b e h:=wM rfl rfl
theorem uJ (c:ae) (l:bQ) (b:aI) (i:Nat) (e:Env) (h:H):vq c l b (some (.exit i,e,h))=some (.exit i,e,h):=wM rfl rfl
theorem uI (c:ae) (l:bQ) (b:aI) (e:Env) (h:H):vq c l b (some (.ret,e,h))=some (.ret,e,h):=wM rfl rfl
def vp (yR:List Nat) (p:ej):ej:=p.bind fun r=>match r with|(.normal,e',h')=>some (.normal,ay e' yR,h')|r=>some r
theorem uC (yR:List Nat) (e:Env) (h:H):vp yR (some (.normal,e,h))=some (.normal,ay e yR,h):=wM rfl rfl
theorem uE (yR:List Nat) (i:Nat) (e:Env) (h:H):vp yR (some (.exit i,e,h))=some (.exit i,e,h):=wM rfl rfl
theorem uD (yR:List Nat) (e:Env) (h:H):vp yR (some (.ret,e,h))=some (.ret,e,h):=wM rfl rfl
def vo (c:ae) (l:bQ) (a b:aI) (e:Env) (h:H) (t:AV):ej:=match t with| .bool t=>if t then aO c l a e h else aO c l b e h|_=>none
theorem uB (c:ae) (l:bQ) (a b:aI) (e:Env) (h:H):vo c l a b e h (.bool true)=aO c l a e h:=wM rfl rfl
theorem uA (c:ae) (l:bQ) (a b:aI) (e:Env) (h:H):vo c l a b e h (.bool false)=aO c l b e h:=wM rfl rfl
def sK (id:Nat) (yR:List Nat) (p:ej):ej:=p.bind fun r=>match r with
 |(.normal,e',h')=>some (.normal,ay e' yR,h')
 |(.exit j,e',h')=>if j=id then some (.normal,ay e' yR,h')else some (.exit j,e',h')
 |(.ret,e',h')=>some (.ret,e',h')
theorem uv (id:Nat) (yR:List Nat) (e:Env) (h:H):sK id yR (some (.normal,e,h))=some (.normal,ay e yR,h):=wM rfl rfl
theorem ux (id:Nat) (yR:List Nat) (e:Env) (h:H):sK id yR (some (.exit id,e,h))=some (.normal,ay e yR,h):=by simp [sK]
theorem uy {id j:Nat} (hj:j≠id) (yR:List Nat) (e:Env) (h:H):sK id yR (some (.exit j,e,h))=some (.exit j,e,h):=by simp [sK,hj]
theorem uw (id:Nat) (yR:List Nat) (e:Env) (h:H):sK id yR (some (.ret,e,h))=some (.ret,e,h):=wM rfl rfl
section
variable (c:ae) (l:bQ) (e:Env) (h:H)
theorem tZ (ops:List aj) (yR:List Nat):aO c l (.qz ops yR) e h=vL yR (au c ops e h):=by rw[aO];rfl
theorem oX (ord:List Nat) (ops:List aj) (yR:List Nat):aO c l (.jG ord ops [] yR) e h=vL yR (au c ops e h):=by rw[mE];rfl
theorem ua (a b:aI):aO c l (.seq a b) e h=vq c l b (aO c l a e h):=by rw[aO];rfl
theorem rI (x:X) (a b:aI) (yR:List Nat):aO c l (.cond x a b yR) e h=vp yR (vo c l a b e h (x.ev e)):=by
 rw[aO];unfold vo;cases hx:x.ev e with
 |bool t=>cases t<;>rfl
 |_=>rfl
theorem oW (id:Nat) (x:aI) (yR:List Nat):aO c l (.block id x yR) e h=sK id yR (aO c l x e h):=by rw[aO];rfl
end
theorem ou (t:Nat) (v:AV) (r:Env):look ((t,v)::r) t=v:=if_pos rfl
theorem mM {s t:Nat} (hst:s≠t) (v:AV) (r:Env):look ((s,v)::r) t=look r t:=if_neg hst
theorem ur (e:Env) (n:Nat):(X.t n).ev e=look e n:=wM rfl rfl
theorem uq (e:Env) (v:AV):(X.c v).ev e=v:=wM rfl rfl
theorem qA (e:Env) (t:Nat) (r:List Nat):ay e (t::r)=(t,look e t)::ay e r:=wM rfl rfl
theorem qB (e:Env):ay e []=[]:=wM rfl rfl
theorem uW (d:Nat) (v:AV) (e:Env):aP (some d) v e=(d,v)::e:=wM rfl rfl
theorem uV (v:AV) (e:Env):aP none v e=e:=wM rfl rfl
theorem oJ (i:Nat):params i []=[]:=wM rfl rfl
theorem oI (i:Nat) (v:AV) (r:List AV):params i (v::r)=(i,v)::params (i+1) r:=wM rfl rfl
def wc (id off sz:Nat) (p:Option Nat):Option AV:=p.bind fun j=>some (.aG id (off+j* sz))
def wg (c:List AV) (off sz:Nat) (p:Option Nat):Option AV:=p.bind fun j=>some (.aN c (off+j* sz))
theorem uK (id off sz j:Nat):wc id off sz (some j)=some (.aG id (off+j* sz)):=wM rfl rfl
theorem uL (c:List AV) (off sz j:Nat):wg c off sz (some j)=some (.aN c (off+j* sz)):=wM rfl rfl
theorem pJ (n sz id off:Nat) (i:AV):dF n sz (.aG id off) i=wc id off sz (dC i n):=wM rfl rfl
theorem pH (n sz off:Nat) (c:List AV) (i:AV):dF n sz (.aN c off) i=wg c off sz (dC i n):=wM rfl rfl
theorem sI (off id o:Nat):fZ off (.aG id o)=some (.aG id (o+off)):=wM rfl rfl
theorem sH (off o:Nat) (c:List AV):fZ off (.aN c o)=some (.aN c (o+off)):=wM rfl rfl
def wh (agg:Bool) (n off:Nat) (p:Option (List AV)):Option AV:=p.bind fun cs=>iO agg n cs off
theorem uX (agg:Bool) (n off:Nat) (cs:List AV):wh agg n off (some cs)=iO agg n cs off:=wM rfl rfl
theorem sX (agg:Bool) (n id off:Nat) (h:H):cf agg n (.aG id off) h=wh agg n off (h.get id):=wM rfl rfl
theorem sW (agg:Bool) (n off:Nat) (cs:List AV) (h:H):cf agg n (.aN cs off) h=iO agg n cs off:=wM rfl rfl
theorem uY (n:Nat) (cs:List AV) (off:Nat):iO false n cs off=cs[off]?:=by simp [iO]
def vR (h:H) (id off n:Nat) (v:List AV) (p:Option (List AV)):Option H:=p.bind fun cs=>if h.floor≤id∧v.length=n∧off+n≤cs.length∧AV.aE v=true then some (h.set id (setFrom cs off v))else none
theorem qM (n id off:Nat) (v:AV) (h:H):dG n (.aG id off) v h=vR h id off n v.cells (h.get id):=wM rfl rfl
theorem wx {h:H} {id off:Nat} {v:AV} {cs:List AV} (h1:h.floor≤id) (h2:off<cs.length) (h3:v.sc=true):vR h id off 1 [v] (some cs)=some (h.set id (cs.set off v)):=by
 simp only[vR,wP]
 rw[if_pos ⟨h1,rfl,h2,by simp [h3]⟩];rfl
theorem sk (i o:Nat):gG 0 (.aG i o) .cT=some false:=wM rfl rfl
theorem sh (c:List AV) (o:Nat):gG 0 (.aN c o) .cT=some false:=wM rfl rfl
theorem sj:gG 0 .cT .cT=some true:=wM rfl rfl
theorem sG (i o l z:Nat):gG 1 (.aH i o l z) .aS=some false:=wM rfl rfl
theorem sC (t:Bool) (c:List AV) (o l z:Nat):gG 1 (.aY t c o l z) .aS=some false:=wM rfl rfl
theorem sD:gG 1 .aS .aS=some true:=wM rfl rfl
theorem vW {a b:Int} (h:a=b):(a==b)=true:=by simp [h]
theorem vV {a b:Int} (h:a≠b):(a==b)=false:=by simp [h]
theorem vY {a b:Int} (h:a≠b):(a !=b)=true:=by simp [h]
theorem vX {a b:Int} (h:a=b):(a !=b)=false:=by simp [h]
theorem wy (n:Int):I n=.int .i64 n:=rfl
theorem pL (s:ByteArray):jQ true (.str s)=some (.int .i64 s.size):=wM rfl rfl
theorem wD (n:Int):(I n).sc=true:=rfl
attribute [go_sem] sU sQ sR qh uF sP sL sN sM uz qw uU uT uG uH uJ uI uC uE uD uB uA uv ux uw uy tZ oX ua rI oW oi pB oh ou mM ur uq qA qB uW uV oJ oI tF tG u0 u5 tI qy qx pT pR pQ pS tc px qE pE sJ qP po nW nQ rO uR qt iM jJ gI iV oB qk oE qp tg tn tj tu tt tq pY qu te qo qm tz uS tw p9 tp qb oD qg qe p8 qv pX td pV tr th pZ oC nM mq uK uL pJ pH sI sH uX sX sW uY qM mB kO mC kR kS kQ kP mA tJ qF tK qI qJ qH qG ne_eq not_false_eq_true Nat.zero_add Nat.add_zero Nat.mul_one Bool.not_true Bool.not_false nh nD ny nu nr nq nk nj nC ni o0 nE gt_iff_lt ge_iff_le List.cons_append List.nil_append List.append_nil List.append_assoc sk sh sj sG sC sD pL decide_true decide_false List.length_cons List.length_nil List.set_cons_zero List.set_cons_succ List.getElem?_cons_zero List.getElem?_cons_succ
attribute [go_sem] Nat.reduceEqDiff reduceIte Nat.reduceAdd Nat.reduceMul Nat.reduceLT Nat.reduceLeDiff Int.reduceBEq Int.reduceBNe Int.reduceLT Int.reduceLE Int.reduceEq
end Ab
