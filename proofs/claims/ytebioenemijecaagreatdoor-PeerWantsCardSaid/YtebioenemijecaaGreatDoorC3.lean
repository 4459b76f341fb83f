/- Part C3. -/
import Derived.Test.YtebioenemijecaaGreatDoorC2
set_option linter.unusedSimpArgs false
set_option linter.unusedVariables false
set_option maxRecDepth 100000
namespace Ab
open Go
def BC (s:ByteArray):List Nat:=s.data.toList.map (·.toNat)
theorem GG (s:ByteArray):(BC s).length=s.size:=by unfold BC;rw[UF,Array.length_toList];rfl
theorem KC (a b:ByteArray):BC (a++b)=BC a++BC b:=by simp [BC]
theorem Jv (s:ByteArray):∀b∈BC s,b<256:=by
 intro b hb
 obtain⟨x,_,rfl⟩:=UR.1 hb
 exact x.toNat_lt
theorem Ek (s:ByteArray):bytesOf (BC s)=s:=by
 unfold BC bytesOf;rw[U6];apply ByteArray.ext;simp [Function.comp_def]
theorem Fb {l:List Nat} (h:∀b∈l,b<256):BC (bytesOf l)=l:=by
 simp only[BC,bytesOf,U6]
 conv=>rhs;rw[←List.map_id l]
 exact List.map_congr_left fun b hb=>by simp [Function.comp,UInt8.toNat_ofNat_of_lt' (h b hb)]
theorem xZ (a b:List Nat):bytesOf a++bytesOf b=bytesOf (a++b):=by
 apply ByteArray.ext;simp [bytesOf]
theorem yE (x k:Nat):∀b∈vY x k,b<256:=by
 intro b hb
 obtain⟨i,_,rfl⟩:=UR.1 hb
 exact Nat.mod_lt _ (by omega)
theorem KB {a b:ByteArray} (h:a.size+b.size≤9223372036854775807):br .add (.str a) (.str b)=some (.str (a++b)):=D6 h
theorem yJ {a b:List Nat} (h:a.length+b.length≤9223372036854775807):br .add (.str (bytesOf a)) (.str (bytesOf b))=some (.str (bytesOf (a++b))):=by
 rw[KB (by rw[wA,wA];exact h),xZ]
def En (c:Nat) (l:List Nat):Nat:=l.foldl yk c
theorem JM {s:ByteArray} {i:Nat} {p q:List Nat} {b:Nat} (h:BC s=p++b::q) (hi:p.length=i):yq s i=b:=by
 have:(BC s)[i]?=some b:=by rw[h,←hi];simp
 unfold yq
 unfold BC at this
 rw[uT]at this
 have e:s[i]?=s.data.toList[i]?:=by
  show s.data[i]?=_
  simp
 rw[e]
 cases hq:s.data.toList[i]? with
 |none=>rw[hq]at this;cases this
 |some x=>rw[hq]at this;simpa using this
theorem CO (s:ByteArray):∀(q p:List Nat) (c:Nat),BC s=p++q→xV s q.length p.length c=En c q
 |[],p,c,h=>rfl
 | b :: q, p, c, h => by
   show xV s q.length (p.length+1) (yk c (yq s p.length))=_
   have:=CO s q (p++[b]) (yk c b) (by rw[h];simp)
   rw[JM h rfl]
   rw[vg]at this
   exact this
theorem Aw (a:Nat) (s:ByteArray):xh a s=4294967295-En (4294967295-a) (BC s):=by
 unfold xh
 have:=CO s (BC s) [] (4294967295-a) rfl
 rw[GG]at this
 rw[←this];rfl
theorem F2:∀(l:List Nat) {c:Nat},c<4294967296→(∀b∈l,b<256)→En c l<4294967296
 |[],_,h,_=>h
 |b::l,_,h,hb=>F2 l (yX h (hb b (by simp))) (fun x hx=>hb x (by simp [hx]))
theorem zN {a:Nat} (s t:ByteArray):xh (xh a s) t=xh a (s++t):=by
 rw[Aw,Aw a,Aw a,KC]
 have:=F2 (BC s) (c:=4294967295-a) (by omega) (Jv s)
 rw[show 4294967295-(4294967295-En (4294967295-a) (BC s))=En (4294967295-a) (BC s)by omega]
 simp [En]
def zl (l:List Nat):Nat:=4294967295-En 4294967295 l
theorem Nc (s:ByteArray):xG s=zl (BC s):=Aw 0 s
theorem BN {l:List Nat} (h:∀b∈l,b<256):xG (bytesOf l)=zl l:=by rw[Nc,Fb h]
def DZ (l:List Int):List Nat:=l.flatMap fun n=>vY n.toNat 4
def CG (e:vN):List Nat:=vY 20592 2++vY 22 2++DZ e.vec++vY e.vQ.toNat 4++vY e.node.toNat 1++vY (if e.gone then 1 else 0) 1
theorem Fc (l:List Int):(DZ l).length=4* l.length:=by
 induction l with
 |nil=>rfl
 |cons n l ih=>unfold DZ at *;rw[List.flatMap_cons,vg,vV,ih,UD];omega
theorem GJ (l:List Int):∀b∈DZ l,b<256:=by
 intro b hb
 obtain⟨n,_,hn⟩:=List.mem_flatMap.1 hb
 exact yE _ _ b hn
theorem Kr (e:vN):∀b∈CG e,b<256:=by
 intro b hb
 unfold CG at hb
 simp only[List.mem_append]at hb
 rcases hb with ((((hb|hb)|hb)|hb)|hb)|hb
 · exact yE _ _ b hb
 · exact yE _ _ b hb
 · exact GJ _ b hb
 · exact yE _ _ b hb
 · exact yE _ _ b hb
 · exact yE _ _ b hb
def PC (e:vN):AV:=if wh e=true then .bS [.str (bytesOf (CG e)),.int .i64 0]else .bS [.str ⟨#[]⟩,.int .i64 1200]
theorem yb {e:vN} (h:wh e=true):e.vec.length=4∧(∀n∈e.vec,0≤n∧n≤1048576)∧(1≤e.vQ∧e.vQ≤1048576)∧(0≤e.node∧e.node<4):=by
 simp only[wh,xa,wY,wL,uL,UH,UY]at h
 exact⟨h.1.1,h.1.2,⟨h.2.1,h.2.2.1.2⟩,h.2.2.2⟩
theorem EN {v P:AV} {l:List Int} (hl:l.length<1000000) (hn:∀n∈l,0≤n∧n≤1048576) (h:H) (rd:Rd h v (ints l)):∀(q p:List Int) (acc:List Nat),l=p++q→acc.length+4* q.length<100000000→
 ∃e',Lp AP.A [1,4,14,15,16] AP.f102L0 [(1,P),(4,.str (bytesOf acc)),(14,v),(15,.int .i64 l.length),(16,.int .i64 p.length)] h=some (.exit 0,e',h)∧look e' 1=P∧look e' 4=.str (bytesOf (acc++DZ q))
 | [], p, acc, hp, ha => by
   refine⟨[(1,P),(4,.str (bytesOf acc)),(14,v),(15,.int .i64 l.length),(16,.int .i64 p.length),(17,.bool false)],tc ?_,rfl,by simp [DZ,look]⟩
   have e:l.length=p.length:=by rw[hp];simp
   rw[e]
   simp (disch:=first|omega|(simp only[ye,UD,UE,uP,Nat.reduceAdd];first|done|omega|fail)|(simp (disch:=first|omega|(simp only[ye,UD,UE,uP,Nat.reduceAdd];first|done|omega|fail)|fail)only[ye,D4,UG,UD,UE,uP,Nat.reduceAdd];done)|fail)only[go_sem,vq,Fg,AP.f102L0]
 | n :: q, p, acc, hp, ha => by
   rw[UD]at ha
   obtain⟨e',r1,r2,r3⟩:=EN (P:=P) hl hn h rd q (p++[n]) (acc++vY n.toNat 4) (by rw[hp];simp) (by rw[vg,vV];omega)
   obtain⟨ad,a1,a2⟩:=rd.wT
   have hlen:l.length=p.length+(q.length+1):=by rw[hp];simp
   have i1:=a1 (p.length:Int) ⟨by omega,by omega⟩
   have i2:=a2 h (Ext.refl h) p.length n (by rw[hp];simp)
   have bn:=hn n (by rw[hp];simp)
   have k1:=fun g=>zV g n.toNat 4 (by omega) (by omega)
   rw[show((n.toNat:Nat):Int)=n by omega]at k1
   have s1:br .add (.str (bytesOf acc)) (.str (Iw n.toNat 4))=some (.str (bytesOf (acc++vY n.toNat 4))):=yJ (by rw[vV];omega)
   have n1:((p.length+1:Nat):Int)=(p.length:Int)+1:=by omega
   rw[vg,show [n].length=1 from rfl,n1]at r1
   refine⟨e',td ?_ r1,r2,by rw[r3];simp [DZ]⟩
   have k1':∀g:H,aS AP.A 104 [.int .i64 n,.int .i64 4] g=some (.str (Iw n.toNat 4),g):=k1
   simp (disch:=first|omega|(simp only[ye,UD,UE,uP,Nat.reduceAdd];first|done|omega|fail)|(simp (disch:=first|omega|(simp only[ye,UD,UE,uP,Nat.reduceAdd];first|done|omega|fail)|fail)only[ye,D4,UG,UD,UE,uP,Nat.reduceAdd];done)|fail)only[go_sem,vq,Fg,AP.f102L0,i1,i2,k1',s1]
theorem PE.obj {h:H} {id:Nat} {cs:List AV} (hg:h.get id=some cs):PE h (.aE id 0) cs:=
 ⟨fun g=>rfl,fun k=>.aE id (0+k),fun k=>rfl,fun g hx k c hc=>by
  show bX false 1 (.aE id (0+k)) g=_
  rw[uP]
  simp only[bX,hx _ _ hg,uG,ij,hc];rfl⟩
theorem Nj (h:H) (hf:h.floor≤h.next) (e:vN) (v:AV) (hv:v.sc=true) (ok:xe h (e,v)):aS AP.A 102 [.agg (vw e v)] h=some (PC e,h):=by
 obtain⟨A,hA⟩:∃x,x=vw e v:=⟨_,rfl⟩
 have lA:A.length=9:=by rw[hA];rfl
 have cA:AV.aD A=true:=by rw[hA];exact yH hv
 have g2:A[2]?=some v:=by rw[hA];rfl
 have g1:A[1]?=some (.bool e.gone):=by rw[hA];rfl
 have g3:A[3]?=some (.int .i64 e.vQ):=by rw[hA];rfl
 have g4:A[4]?=some (.int .i64 e.node):=by rw[hA];rfl
 have x1:Ext h (h.eh.alloc A):=fun i c q=>((Ext.refl h.eh).alloc _) i c q
 have o1:=ok.mono x1
 have q1:aS AP.A 112 [.aE h.next 0] (h.eh.alloc A)=some (.bool (wh e),h.eh.alloc A):=by
  refine Iq (h.eh.alloc A) (.aE h.next 0) v e ?_ o1.vec o1.vl
  rw[←hA];exact PE.obj (vu (by simp))
 unfold PC
 cases hh:wh e with
 | false =>
   rw[hh]at q1
   rw[if_neg (by decide)]
   refine tQ (fn:=AP.f102) (h2:=h.eh.alloc A) (e:=[(2,.str ⟨#[]⟩),(3,.int .i64 1200)]) rfl rfl rfl ?_ rfl rfl
   rw[←hA]
   simp (disch:=first|omega|(simp only[ye,UD,UE,uP,Nat.reduceAdd];first|done|omega|fail)|(simp (disch:=first|omega|(simp only[ye,UD,UE,uP,Nat.reduceAdd];first|done|omega|fail)|fail)only[ye,D4,UG,UD,UE,uP,Nat.reduceAdd];done)|fail)only[go_sem,vq,Fg,AP.f102,lA,cA,q1]
 | true =>
   rw[hh]at q1
   rw[if_pos rfl]
   obtain⟨f1,f2,f3,f4⟩:=yb hh
   have k1:∀g,aS AP.A 104 [.int .i64 20592,.int .i64 2] g=some (.str (bytesOf (vY 20592 2)),g):=fun g=>zV g 20592 2 (by omega) (by omega)
   have k2:∀g,aS AP.A 104 [.int .i64 22,.int .i64 2] g=some (.str (bytesOf (vY 22 2)),g):=fun g=>zV g 22 2 (by omega) (by omega)
   have k3:∀g,aS AP.A 104 [.int .i64 e.vQ,.int .i64 4] g=some (.str (bytesOf (vY e.vQ.toNat 4)),g):=fun g=>by
    have:=zV g e.vQ.toNat 4 (by omega) (by omega)
    rw[show((e.vQ.toNat:Nat):Int)=e.vQ by omega]at this;exact this
   have k4:∀g,aS AP.A 104 [.int .i64 e.node,.int .i64 1] g=some (.str (bytesOf (vY e.node.toNat 1)),g):=fun g=>by
    have:=zV g e.node.toNat 1 (by omega) (by omega)
    rw[show((e.node.toNat:Nat):Int)=e.node by omega]at this;exact this
   have k5:∀g,aS AP.A 104 [.int .i64 0,.int .i64 1] g=some (.str (bytesOf (vY 0 1)),g):=fun g=>zV g 0 1 (by omega) (by omega)
   have k6:∀g,aS AP.A 104 [.int .i64 1,.int .i64 1] g=some (.str (bytesOf (vY 1 1)),g):=fun g=>zV g 1 1 (by omega) (by omega)
   have ln:=o1.vec.len
   rw[pC]at ln
   simp only[I]at ln
   obtain⟨e',r1,r2,r3⟩:=EN (P:=.aE h.next 0) (by omega) f2 (h.eh.alloc A) o1.vec e.vec [] (vY 20592 2++vY 22 2) rfl (by rw[vg,vV,vV];omega)
   have r1':Lp AP.A [1,4,14,15,16] AP.f102L0 [(1,.aE h.next 0),(4,.str (bytesOf (vY 20592 2++vY 22 2))),(14,v),(15,.int .i64 e.vec.length),(16,.int .i64 0)] (h.eh.alloc A)=some (.exit 0,e',h.eh.alloc A):=r1
   clear r1
   have vl:=Fc e.vec
   have s1:br .add (.str (bytesOf (vY 20592 2))) (.str (bytesOf (vY 22 2)))=some (.str (bytesOf (vY 20592 2++vY 22 2))):=yJ (by rw[vV,vV];omega)
   obtain⟨L1,hL1⟩:∃x,x=vY 20592 2++vY 22 2++DZ e.vec:=⟨_,rfl⟩
   have l1:L1.length=20:=by rw[hL1,vg,vg,vV,vV,vl,f1]
   obtain⟨S1,h1⟩:∃x,x=bytesOf L1:=⟨_,rfl⟩
   obtain⟨S2,h2⟩:∃x,x=bytesOf (L1++vY e.vQ.toNat 4):=⟨_,rfl⟩
   obtain⟨S3,h3⟩:∃x,x=bytesOf (L1++vY e.vQ.toNat 4++vY e.node.toNat 1):=⟨_,rfl⟩
   obtain⟨S4,h4⟩:∃x,x=bytesOf (L1++vY e.vQ.toNat 4++vY e.node.toNat 1++vY (if e.gone then 1 else 0) 1):=⟨_,rfl⟩
   have s2:br .add (.str S1) (.str (bytesOf (vY e.vQ.toNat 4)))=some (.str S2):=by rw[h1,h2];exact yJ (by rw[vV];omega)
   have s3:br .add (.str S2) (.str (bytesOf (vY e.node.toNat 1)))=some (.str S3):=by rw[h2,h3];exact yJ (by rw[vg,vV,vV];omega)
   have s4:br .add (.str S3) (.str (bytesOf (vY (if e.gone then 1 else 0) 1)))=some (.str S4):=by rw[h3,h4];exact yJ (by rw[vg,vg,vV,vV,vV];omega)
   rw[show vY 20592 2++vY 22 2++DZ e.vec=L1 from hL1.symm,←h1]at r3
   unfold CG
   rw[←hL1,←hA,←h4]
   clear hL1 o1 x1 ok h1 h2 h3 h4
   refine tQ (fn:=AP.f102) (h2:=h.eh.alloc A) (e:=[(2,.str S4),(3,.int .i64 0)]) rfl rfl rfl ?_ rfl rfl
   cases hg:e.gone with
   | true =>
     rw[hg]at g1 s4
     rw[if_pos rfl]at s4
     simp (disch:=first|omega|(simp only[ye,UD,UE,uP,Nat.reduceAdd];first|done|omega|fail)|(simp (disch:=first|omega|(simp only[ye,UD,UE,uP,Nat.reduceAdd];first|done|omega|fail)|fail)only[ye,D4,UG,UD,UE,uP,Nat.reduceAdd];done)|fail)only[go_sem,vq,Fg,AP.f102,lA,cA,q1,k1,k2,k3,k4,k5,k6,s1,s2,s3,s4,g1,g2,g3,g4,ln,rV,r1',r2,r3]
   | false =>
     rw[hg]at g1 s4
     rw[if_neg (by decide)]at s4
     simp (disch:=first|omega|(simp only[ye,UD,UE,uP,Nat.reduceAdd];first|done|omega|fail)|(simp (disch:=first|omega|(simp only[ye,UD,UE,uP,Nat.reduceAdd];first|done|omega|fail)|fail)only[ye,D4,UG,UD,UE,uP,Nat.reduceAdd];done)|fail)only[go_sem,vq,Fg,AP.f102,lA,cA,q1,k1,k2,k3,k4,k5,k6,s1,s2,s3,s4,g1,g2,g3,g4,ln,rV,r1',r2,r3]
def Ep (e:vN):List Nat:=vY e.name.size 1++BC e.name++CG e++vY e.zt.toNat 4
def Nf (e:vN):Option Nat:=if wZ e=true then some (zl (Ep e))else none
def Sr:Option Nat→AV
 |some n=>.bS [.int .i64 n,.int .i64 0]
 |none=>.bS [.int .i64 0,.int .i64 1500]
theorem E6 (l:List Nat):zl l<4294967296:=by unfold zl;omega
theorem F3 (p:Nat) (ss:List ByteArray) (h:H) (hg:h.get p=some (ss.map AV.str)) (hs:∀s∈ss,s.size<1125899906842624) (hl:ss.length<1000000):∀(q pr:List ByteArray) (a:Nat),ss=pr++q→a<4294967296→
 ∃e',Lp AP.A [6,7,28,29,30] AP.f91L0 [(6,.fn 103 [] []),(7,.int .i64 a),(28,.aF p 0 ss.length 1),(29,.int .i64 ss.length),(30,.int .i64 pr.length)] h=some (.exit 0,e',h)∧look e' 7=.int .i64 (q.foldl xh a:Nat)
 | [], pr, a, hp, ha => by
   have e:ss.length=pr.length:=by rw[hp];simp
   refine⟨[(6,.fn 103 [] []),(7,.int .i64 a),(28,.aF p 0 ss.length 1),(29,.int .i64 ss.length),(30,.int .i64 pr.length),(31,.bool false)],tc ?_,rfl⟩
   rw[e]
   simp (disch:=first|omega|(simp only[ye,UD,UE,uP,Nat.reduceAdd];first|done|omega|fail)|(simp (disch:=first|omega|(simp only[ye,UD,UE,uP,Nat.reduceAdd];first|done|omega|fail)|fail)only[ye,D4,UG,UD,UE,uP,Nat.reduceAdd];done)|fail)only[go_sem,vq,Fg,AP.f91L0]
 | s :: q, pr, a, hp, ha => by
   obtain⟨e',r1,r2⟩:=F3 p ss h hg hs hl q (pr++[s]) (xh a s) (by rw[hp];simp) (B0 a s)
   have hlen:ss.length=pr.length+(q.length+1):=by rw[hp];simp
   have k1:=FD h s a ha (hs s (by rw[hp];simp))
   have g1:(ss.map AV.str)[pr.length]?=some (.str s):=by rw[hp];simp
   have n1:((pr.length+1:Nat):Int)=(pr.length:Int)+1:=by omega
   rw[vg,show [s].length=1 from rfl,n1]at r1
   refine⟨e',td ?_ r1,r2⟩
   simp (disch:=first|omega|(simp only[ye,UD,UE,uP,Nat.reduceAdd];first|done|omega|fail)|(simp (disch:=first|omega|(simp only[ye,UD,UE,uP,Nat.reduceAdd];first|done|omega|fail)|fail)only[ye,D4,UG,UD,UE,uP,Nat.reduceAdd];done)|fail)only[go_sem,vq,Fg,AP.f91L0,hg,k1,g1]
theorem Ph (a b c d:ByteArray):[a,b,c,d].foldl xh 0=xG (a++b++c++d):=by
 show xh (xh (xh (xh 0 a) b) c) d=xh 0 _
 rw[zN,zN,zN]
 congr 1
 simp only[ByteArray.append_assoc]
theorem Ho (s:ByteArray):BZ s=true↔s.size=0:=by
 unfold BZ
 rw[beq_iff_eq]
 constructor
 · intro h;rw[←GG];unfold BC;rw[h];rfl
 · intro h
   have:s.data.toList.length=0:=by rw[Array.length_toList];exact h
   rw[UO this]
theorem Hu {e:vN} (h:wZ e=true):wh e=true∧(1≤e.name.size∧e.name.size≤8)∧0≤e.zt∧e.zt≤4294967295:=by
 unfold wZ yY at h
 split at h
 · cases h
 · rename_i hm
   have hm:wR [e]=true:=by cases q:wR [e]with|true=>rfl|false=>exact absurd q hm
   simp only[wR,wK,Aq,uL,Bool.and_true]at hm
   obtain⟨⟨h1,h2,h3⟩,_⟩:=hm
   refine⟨h2, ?_, ?_⟩
   · simp only[wz,uL,UH]at h1
     exact⟨h1.1,h1.2.1⟩
   · unfold xg at h3
     split at h3
     · simp only[uL,UH]at h3;omega
     · simp only[uL,UH,z9]at h3;omega
theorem JQ (e:vN):∀b∈Ep e,b<256:=by
 intro b hb
 unfold Ep at hb
 simp only[List.mem_append]at hb
 rcases hb with ((hb|hb)|hb)|hb
 · exact yE _ _ b hb
 · exact Jv _ b hb
 · exact Kr _ b hb
 · exact yE _ _ b hb
theorem JR (e:vN):bytesOf (vY e.name.size 1)++e.name++bytesOf (CG e)++bytesOf (vY e.zt.toNat 4)=bytesOf (Ep e):=by
 unfold Ep
 rw[←xZ,←xZ,←xZ,Ek]
theorem IX {e:vN} (h:wh e=true):(CG e).length=26:=by
 obtain⟨f1,_⟩:=yb h
 unfold CG
 simp only[vg,vV,Fc,f1]
set_option maxHeartbeats 1000000 in
theorem H4 (h:H) (hf:h.floor≤h.next) (e:vN) (v:AV) (hv:v.sc=true) (ok:xe h (e,v)):aS AP.A 91 [.agg (vw e v)] h=some (Sr (Nf e),h):=by
 obtain⟨A,hA⟩:∃x,x=vw e v:=⟨_,rfl⟩
 have lA:A.length=9:=by rw[hA];rfl
 have cA:AV.aD A=true:=by rw[hA];exact yH hv
 have tA:List.take 9 A=A:=by rw[hA];rfl
 have g0:A[0]?=some (.str e.name):=by rw[hA];rfl
 have g8:A[8]?=some (.int .i64 e.zt):=by rw[hA];rfl
 have x1:Ext h (h.eh.alloc A):=fun i c q=>((Ext.refl h.eh).alloc _) i c q
 have o1:=ok.mono x1
 have f1:(h.eh.alloc A).floor≤(h.eh.alloc A).next:=by simp
 have q1:aS AP.A 96 [.agg A] (h.eh.alloc A)=some (.bool (wZ e),h.eh.alloc A):=by
  have:=Fp (h.eh.alloc A) f1 e v hv o1
  rw[←hA]at this;exact this
 unfold Nf
 cases hm:wZ e with
 | false =>
   rw[hm]at q1
   rw[if_neg (by decide)]
   refine tQ (fn:=AP.f91) (h2:=h.eh.alloc A) (e:=[(2,.int .i64 0),(3,.int .i64 1500)]) rfl rfl rfl ?_ rfl rfl
   rw[←hA]
   simp (disch:=first|omega|(simp only[ye,UD,UE,uP,Nat.reduceAdd];first|done|omega|fail)|(simp (disch:=first|omega|(simp only[ye,UD,UE,uP,Nat.reduceAdd];first|done|omega|fail)|fail)only[ye,D4,UG,UD,UE,uP,Nat.reduceAdd];done)|fail)only[go_sem,vq,Fg,AP.f91,lA,cA,tA,q1]
 | true =>
   rw[hm]at q1
   rw[if_pos rfl]
   obtain⟨m1,m2,m3⟩:=Hu hm
   have q2:aS AP.A 102 [.agg A] (h.eh.alloc A)=some (.bS [.str (bytesOf (CG e)),.int .i64 0],h.eh.alloc A):=by
    have:=Nj (h.eh.alloc A) f1 e v hv o1
    unfold PC at this
    rw[if_pos m1,←hA]at this;exact this
   have q3:∀g,aS AP.A 104 [.int .i64 e.name.size,.int .i64 1] g=some (.str (bytesOf (vY e.name.size 1)),g):=fun g=>zV g e.name.size 1 (by omega) (by omega)
   have q4:∀g,aS AP.A 104 [.int .i64 e.zt,.int .i64 4] g=some (.str (bytesOf (vY e.zt.toNat 4)),g):=fun g=>by
    have:=zV g e.zt.toNat 4 (by omega) (by omega)
    rw[show((e.zt.toNat:Nat):Int)=e.zt by omega]at this;exact this
   have pl:=IX m1
   obtain⟨T1,e1⟩:∃x,x=bytesOf (vY e.name.size 1):=⟨_,rfl⟩
   obtain⟨T3,e3⟩:∃x,x=bytesOf (CG e):=⟨_,rfl⟩
   obtain⟨T4,e4⟩:∃x,x=bytesOf (vY e.zt.toNat 4):=⟨_,rfl⟩
   have ds:=JR e
   rw[←e1,←e3,←e4]at ds
   rw[←e3]at q2
   rw[←e1]at q3
   rw[←e4]at q4
   have t1:T1.size=1:=by rw[e1,wA,vV]
   have t3:T3.size=26:=by rw[e3,wA,pl]
   have t4:T4.size=4:=by rw[e4,wA,vV]
   obtain⟨e',r1,r2⟩:=F3 (h.next+1) [T1,e.name,T3,T4] ((h.eh.alloc A).alloc [.str T1,.str e.name,.str T3,.str T4]) (vu (by simp)) (by
    intro s hs
    simp only[u5,List.mem_nil_iff,or_false]at hs
    rcases hs with rfl|rfl|rfl|rfl<;>omega) (by simp) [T1,e.name,T3,T4] [] 0 rfl (by omega)
   rw[Ph,ds,BN (JQ e)]at r2
   have r1':Lp AP.A [6,7,28,29,30] AP.f91L0 [(6,.fn 103 [] []),(7,.int .i64 0),(28,.aF (h.next+1) 0 4 1),(29,.int .i64 4),(30,.int .i64 0)] ((h.eh.alloc A).alloc [.str T1,.str e.name,.str T3,.str T4])=some (.exit 0,e',(h.eh.alloc A).alloc [.str T1,.str e.name,.str T3,.str T4]):=r1
   clear r1
   refine tQ (fn:=AP.f91) (h2:=(h.eh.alloc A).alloc [.str T1,.str e.name,.str T3,.str T4]) (e:=[(2,.int .i64 (zl (Ep e))),(3,.int .i64 0)]) rfl rfl rfl ?_ rfl rfl
   rw[←hA]
   clear ds e1 e3 e4 o1 x1 ok
   simp (disch:=first|omega|(simp only[ye,UD,UE,uP,Nat.reduceAdd];first|done|omega|fail)|(simp (disch:=first|omega|(simp only[ye,UD,UE,uP,Nat.reduceAdd];first|done|omega|fail)|fail)only[ye,D4,UG,UD,UE,uP,Nat.reduceAdd];done)|fail)only[go_sem,vq,Fg,AP.f91,lA,cA,tA,q1,q2,q3,q4,g0,g8,rV,r1',r2]
def Bh (l:List Int):List Nat:=l.flatMap fun n=>vY n.toNat 4
def EH (l:List Int):Option Nat:=if l.all z9=true then some (zl (Bh l))else none
theorem Iz (l:List Int):∀b∈Bh l,b<256:=GJ l
theorem C9 {v : AV} {l : List Int} (hl : l.length < 1125899906842624) (h : H) (rd : Rd h v (ints l)) : ∀ (q p : List Int) (a : Nat), l = p ++ q → a < 4294967296 →
 (q.all z9=true∧∃e',Lp AP.A [4,7,8,9] AP.f93L0 [(4,.int .i64 a),(7,v),(8,.int .i64 l.length),(9,.int .i64 p.length)] h=some (.exit 0,e',h)∧look e' 4=.int .i64 (xh a (bytesOf (Bh q)):Nat))∨
 (q.all z9=false∧∃e',Lp AP.A [4,7,8,9] AP.f93L0 [(4,.int .i64 a),(7,v),(8,.int .i64 l.length),(9,.int .i64 p.length)] h=some (.ret,e',h)∧look e' 2=.int .i64 0∧look e' 3=.int .i64 1500)
 | [], p, a, hp, ha => by
   left
   have e:l.length=p.length:=by rw[hp];simp
   refine⟨rfl,[(4,.int .i64 a),(7,v),(8,.int .i64 l.length),(9,.int .i64 p.length),(10,.bool false)],tc ?_, ?_⟩
   · rw[e]
     simp (disch:=first|omega|(simp only[ye,UD,UE,uP,Nat.reduceAdd];first|done|omega|fail)|(simp (disch:=first|omega|(simp only[ye,UD,UE,uP,Nat.reduceAdd];first|done|omega|fail)|fail)only[ye,D4,UG,UD,UE,uP,Nat.reduceAdd];done)|fail)only[go_sem,vq,Fg,AP.f93L0]
   · show AV.int .i64 (a:Int)=.int .i64 ((xh a (bytesOf []):Nat):Int)
     rw[Aw]
     have:En (4294967295-a) (BC (bytesOf []))=4294967295-a:=rfl
     rw[this];congr 1;omega
 | n :: q, p, a, hp, ha => by
   obtain⟨ad,a1,a2⟩:=rd.wT
   have hlen:l.length=p.length+(q.length+1):=by rw[hp];simp
   have i1:=a1 (p.length:Int) ⟨by omega,by omega⟩
   have i2:=a2 h (Ext.refl h) p.length n (by rw[hp];simp)
   have k1:=Kb h n
   rw[List.all_cons]
   cases hn:z9 n with
   | false =>
     rw[hn]at k1
     right
     refine⟨rfl,[(2,.int .i64 0),(3,.int .i64 1500)],tF ?_,rfl,rfl⟩
     simp (disch:=first|omega|(simp only[ye,UD,UE,uP,Nat.reduceAdd];first|done|omega|fail)|(simp (disch:=first|omega|(simp only[ye,UD,UE,uP,Nat.reduceAdd];first|done|omega|fail)|fail)only[ye,D4,UG,UD,UE,uP,Nat.reduceAdd];done)|fail)only[go_sem,vq,Fg,AP.f93L0,i1,i2,k1]
   | true =>
     rw[hn]at k1
     rw[UQ]
     simp only[z9,UH]at hn
     have k2:∀g,aS AP.A 104 [.int .i64 n,.int .i64 4] g=some (.str (bytesOf (vY n.toNat 4)),g):=fun g=>by
      have:=zV g n.toNat 4 (by omega) (by omega)
      rw[show((n.toNat:Nat):Int)=n by omega]at this;exact this
     have k3:=FD h (bytesOf (vY n.toNat 4)) a ha (by rw[wA,vV];omega)
     have n1:((p.length+1:Nat):Int)=(p.length:Int)+1:=by omega
     have ih:=C9 hl h rd q (p++[n]) (xh a (bytesOf (vY n.toNat 4))) (by rw[hp];simp) (B0 _ _)
     rw[vg,show [n].length=1 from rfl,n1,zN,xZ]at ih
     rcases ih with ⟨g1,e',r1,r2⟩|⟨g1,e',r1,r2⟩
     · left
       refine⟨g1,e',td ?_ r1,r2⟩
       simp (disch:=first|omega|(simp only[ye,UD,UE,uP,Nat.reduceAdd];first|done|omega|fail)|(simp (disch:=first|omega|(simp only[ye,UD,UE,uP,Nat.reduceAdd];first|done|omega|fail)|fail)only[ye,D4,UG,UD,UE,uP,Nat.reduceAdd];done)|fail)only[go_sem,vq,Fg,AP.f93L0,i1,i2,k1,k2,k3]
     · right
       refine⟨g1,e',td ?_ r1,r2⟩
       simp (disch:=first|omega|(simp only[ye,UD,UE,uP,Nat.reduceAdd];first|done|omega|fail)|(simp (disch:=first|omega|(simp only[ye,UD,UE,uP,Nat.reduceAdd];first|done|omega|fail)|fail)only[ye,D4,UG,UD,UE,uP,Nat.reduceAdd];done)|fail)only[go_sem,vq,Fg,AP.f93L0,i1,i2,k1,k2,k3]
theorem IB (h:H) (v:AV) (l:List Int) (rd:Rd h v (ints l)) (hl:l.length<1125899906842624):aS AP.A 93 [v] h=some (Sr (EH l),h):=by
 have rd':=rd.mono (vF h)
 have ln:=rd'.len
 rw[pC]at ln
 simp only[I]at ln
 unfold EH
 rcases C9 hl h.eh rd' l [] 0 rfl (by omega)with ⟨g1,e',r1,r2⟩|⟨g1,e',r1,r2,r3⟩
 · rw[if_pos g1]
   have r1':Lp AP.A [4,7,8,9] AP.f93L0 [(4,.int .i64 0),(7,v),(8,.int .i64 l.length),(9,.int .i64 0)] h.eh=some (.exit 0,e',h.eh):=r1
   have r2':look e' 4=.int .i64 (zl (Bh l)):=by rw[r2,←BN (Iz l)];rfl
   refine tQ (fn:=AP.f93) (h2:=h.eh) (e:=[(2,.int .i64 (zl (Bh l))),(3,.int .i64 0)]) rfl rfl rfl ?_ rfl rfl
   simp (disch:=first|omega|(simp only[ye,UD,UE,uP,Nat.reduceAdd];first|done|omega|fail)|(simp (disch:=first|omega|(simp only[ye,UD,UE,uP,Nat.reduceAdd];first|done|omega|fail)|fail)only[ye,D4,UG,UD,UE,uP,Nat.reduceAdd];done)|fail)only[go_sem,vq,Fg,AP.f93,ln,rV,r1',r2']
 · rw[if_neg (by rw[g1];decide)]
   have r1':Lp AP.A [4,7,8,9] AP.f93L0 [(4,.int .i64 0),(7,v),(8,.int .i64 l.length),(9,.int .i64 0)] h.eh=some (.ret,e',h.eh):=r1
   refine tQ (fn:=AP.f93) (h2:=h.eh) (e:=e') rfl rfl rfl ?_ (by simp only[AP.f93,cO,na,r2,r3];rfl) rfl
   simp (disch:=first|omega|(simp only[ye,UD,UE,uP,Nat.reduceAdd];first|done|omega|fail)|(simp (disch:=first|omega|(simp only[ye,UD,UE,uP,Nat.reduceAdd];first|done|omega|fail)|fail)only[ye,D4,UG,UD,UE,uP,Nat.reduceAdd];done)|fail)only[go_sem,vq,Fg,AP.f93,ln,rV,r1']
def JB (e:vN):Nat:=128+2* e.name.size+e.packed.size
def AE:List vN→Nat
 |[]=>0
 |e::l=>JB e+AE l
theorem BB (a b:List vN):AE (a++b)=AE a+AE b:=by
 induction a with
 |nil=>simp [AE]
 |cons x a ih=>rw[List.cons_append,AE,AE,ih];omega
def xF (l:List vN):Nat:=22+AE l
def v9 (l:List vN):Bool:=wR l&&l.all wZ
theorem zA:∀{l:List vN} {p:Option vN},wK p l=true→∀e∈l,wz e.name=true∧wh e=true∧xg e=true
 |[],_,_,e,h=>by cases h
 | x :: l, p, hm, e, h => by
   rw[wK,uL]at hm
   rcases u5.1 h with rfl|h
   · have:=hm.1
     unfold xE at this
     simp only[uL]at this
     exact⟨this.1,this.2.2.1,this.2.2.2⟩
   · exact zA hm.2 e h
theorem yW {e:vN} (h:xg e=true):e.packed.size≤300:=by
 unfold xg at h
 split at h
 · simp only[uL]at h
   have:=(Ho _).1 h.2.1
   omega
 · simp only[uL,uX,UH]at h
   omega
theorem xi {s:ByteArray} (h:wz s=true):1≤s.size∧s.size≤8:=by
 unfold wz at h
 simp only[uL,UH]at h
 omega
theorem Jt:∀{l:List vN},(∀e∈l,wz e.name=true∧wh e=true∧xg e=true)→AE l≤444* l.length
 |[],_=>by simp [AE]
 | e :: l, h => by
   have i:=Jt (l:=l) fun x hx=>h x (by simp [hx])
   obtain⟨h1,_,h3⟩:=h e (by simp)
   have:=xi h1
   have:=yW h3
   rw[AE,UD];unfold JB;omega
theorem vZ {l:List vN} (h:wR l=true):l.length≤6∧(∀e∈l,wz e.name=true∧wh e=true∧xg e=true)∧xF l≤4096:=by
 unfold wR at h
 simp only[uL,UH]at h
 have a:=zA h.1
 have:=Jt a
 exact⟨h.2,a,by unfold xF;omega⟩
def CC (e:vN):Nat:=xG e.name%8
def Nd (e:vN):Int:=((zl (Ep e):Nat):Int)
def zT (l:List vN) (b:Nat):List Int:=(l.filter fun e=>CC e==b).map Nd
theorem G9 (l:List vN) (e:vN) (b:Nat):zT (l++[e]) b=if CC e=b then zT l b++[Nd e]else zT l b:=by
 unfold zT
 rw[List.filter_append,UX]
 by_cases c:CC e=b
 · rw[if_pos c];simp [c]
 · rw[if_neg c];simp [c]
theorem Ei (l:List vN) (b:Nat):(zT l b).length≤l.length:=by
 unfold zT;rw[UF];exact List.length_filter_le _ _
theorem JL (l:List vN) (b:Nat):(zT l b).all z9=true:=by
 unfold zT
 rw[List.all_map,UY]
 intro e _
 have:=E6 (Ep e)
 simp [Function.comp,z9,Nd]
 omega
def wQ (l:List Int):Int:=((zl (Bh l):Nat):Int)
theorem Iy {l:List Int} (h:l.all z9=true):EH l=some (zl (Bh l)):=by unfold EH;rw[if_pos h]
theorem IA (l:List Int):z9 (wQ l)=true:=by
 have:=E6 (Bh l)
 simp [z9,wQ]
 omega
def wo (l:List vN):List Int:=(List.range 8).map fun b=>wQ (zT l b)
theorem vR (l:List vN):(wo l).length=8:=by simp [wo]
theorem Er (l:List vN):(wo l).all z9=true:=by
 unfold wo
 rw[List.all_map,UY]
 exact fun b _=>IA _
def xH:Option Int→List Int→Bool
 |_,[]=>true
 |p,b::l=>(decide (0≤b)&&(decide (b<8)&&(match p with|none=>true|some q=>decide (q<b))))&&xH (some b) l
def yx (l:List Int):Bool:=xH none l
theorem Bb : ∀ {l : List Int} {p : Option Int}, xH p l = true → (∀ b ∈ l, 0 ≤ b ∧ b < 8 ∧ (match p with | none => True | some q => q < b)) ∧ l.Nodup
 |[],_,_=>⟨fun b h=>(by cases h),List.nodup_nil⟩
 | x :: l, p, h => by
   unfold xH at h
   simp only[uL,UH]at h
   obtain⟨h1,h2⟩:=h
   obtain⟨i1,i2⟩:=Bb h2
   refine⟨fun b hb=> ?_,List.nodup_cons.2 ⟨fun q=> ?_,i2⟩⟩
   · rcases u5.1 hb with rfl|hb
     · refine⟨h1.1,h1.2.1, ?_⟩
       cases p with
       |none=>trivial
       |some q=>exact of_decide_eq_true h1.2.2
     · have:=i1 b hb
       refine⟨this.1,this.2.1, ?_⟩
       cases p with
       |none=>trivial
       | some q =>
         have a:q<x:=of_decide_eq_true h1.2.2
         have b':x<b:=this.2.2
         show q<b
         omega
   · have:x<x:=(i1 x q).2.2
     omega
abbrev FP:=ByteArray×List Int
def vP (l:List vN) (bs:List Int):List FP:=(l.filter fun e=>bs.contains ((CC e:Nat):Int)).map fun e=>(e.name,e.vec)
structure Bu (h:H) (A:Nat) (C:Nat→AV) (ls:Nat→List Int):Prop where
 get:h.get A=some (nr 8 C)
 fl:h.floor≤A
 nx:h.floor≤h.next
 own:∀n,n<8→vT 1 h (C n) (ls n).length (ints (ls n))
 KL:∀n m,n<8→m<8→n≠m→∀i,(C n).id?=some i→(C m).id?≠some i
 gt:∀n,n<8→∀i,(C n).id?=some i→A<i
theorem Bu.mono {h g:H} {A:Nat} {C:Nat→AV} {ls:Nat→List Int} (b:Bu h A C ls) (hf:g.floor=h.floor) (hn:h.next≤g.next) (hg:∀i,i<h.next→g.get i=h.get i):Bu g A C ls:=
 ⟨by rw[hg A (h.lt _ _ b.get)];exact b.get,by rw[hf];exact b.fl,by rw[hf];exact u6 b.nx hn,fun n hn'=>(b.own n hn').mono hf fun i q=>hg i ((b.own n hn').lt q).2,b.KL,b.gt⟩
theorem Bu.push {h : H} {A : Nat} {C : Nat → AV} {ls : Nat → List Int} (b : Bu h A C ls) {n : Nat} (hn : n < 8) (hl : (ls n).length < 1000000) (x : Int) :
 ∃ v' h', kN (h.alloc [.int .i64 x]) 1 8 (C n) (.aF h.next 0 1 1) = some (v', h') ∧ v'.sc = true ∧ h'.get A = some (nr 8 C) ∧ h'.floor = h.floor ∧ h.next ≤ h'.next ∧
   Bu (h'.set A (nr 8 (tU C n v'))) A (tU C n v') (fun m=>if m=n then ls n++[x]else ls m)∧∀i,i<A→h'.get i=h.get i:=by
 have o:=b.own n hn
 obtain⟨v',h',p1,p2,p3,p4,p5,p6⟩:=o.push b.nx (z:=8) (m:=1) (by omega) (by omega) [.int .i64 x] rfl rfl (by simp [roomy];omega)
 have hA:=h.lt _ _ b.get
 have nA:(C n).id?≠some A:=fun q=>by have:=b.gt n hn A q;omega
 have gA:h'.get A=some (nr 8 C):=by rw[p5 A nA hA];exact b.get
 refine⟨v',h',p1,p2.sc,gA,p3,by omega,⟨by rw[vH rfl,gA];rfl,by simp [p3,b.fl],by simp [p3];have:=b.nx;omega,fun m hm=> ?_,fun m k hm hk hmk i q=> ?_,fun m hm i q=> ?_⟩,fun i hi=>p5 i (fun q=>by have:=b.gt n hn i q;omega) (by omega)⟩
 · by_cases c:m=n
   · subst c
     have e:ints (ls m)++[.int .i64 x]=ints (ls m++[x]):=by simp [ints,I]
     rw[e]at p2
     simp only[tU,if_true,vg,List.length_singleton]
     exact p2.mono (by simp) fun i q=>by rw[vA];rw[p6]at q;have:=uz q;omega
   · simp only[tU,if_neg c]
     refine(b.own m hm).mono (by simp [p3]) fun i q=> ?_
     have h1:=((b.own m hm).lt q).2
     have h2:=b.gt m hm i q
     rw[vA (by omega),p5 i (fun q2=>b.KL m n hm hn c i q q2) h1]
 · unfold tU at q ⊢
   by_cases c1:m=n
   · rw[if_pos c1,p6]at q
     have e:=uz q
     rw[if_neg (by omega)]
     intro q2
     have:=((b.own k hk).lt q2).2
     omega
   · rw[if_neg c1]at q
     by_cases c2:k=n
     · rw[if_pos c2,p6]
       intro q2
       have e:=uz q2
       have:=((b.own m hm).lt q).2
       omega
     · rw[if_neg c2]
       exact b.KL m k hm hk hmk i q
 · unfold tU at q
   by_cases c:m=n
   · rw[if_pos c,p6]at q
     have e:=uz q
     omega
   · rw[if_neg c]at q
     exact b.gt m hm i q
theorem Bu.new {h:H} (hf:h.floor≤h.next):Bu (h.alloc (nr 8 fun _=>.aQ)) h.next (fun _=>.aQ) (fun _=>[]):=
 ⟨vu rfl,by simpa using hf,by simp;omega,fun n _=>vT.nil,fun n m _ _ _ i q=>(by cases q),fun n _ i q=>(by cases q)⟩
theorem xb.Cb {n:Nat} {h g:H} {v:AV} {k:Nat} {cs:List AV} (r:xb n h v k cs) (hg:∀i,v.id?=some i→g.get i=h.get i):xb n g v k cs:=by
 obtain⟨r,hl,hs⟩:=r
 refine⟨?_,hl,hs⟩
 unfold aT at r ⊢
 split at r
 · exact r
 · exact r
 · rename_i id off len s
   split at r
   · rename_i q
     rw[if_pos q,hg id rfl];exact r
   · cases r
 · exact r
 · cases r
theorem Rd.Cb {h g:H} {v:AV} {cs:List AV} (r:Rd h v cs) (hg:∀i,v.id?=some i→g.get i=h.get i):Rd g v cs:=by
 have:=r.Ck.Cb hg
 exact⟨this.1,this.2.2⟩
theorem xe.Cb {h g:H} {x:vG} (o:xe h x) (hg:∀i,x.2.id?=some i→g.get i=h.get i):xe g x:=⟨o.vec.Cb hg,o.vl,o.nl,o.pl⟩
theorem Fq (l:List vG) (x:vG):vD (l++[x])=vD l++vw x.1 x.2:=by simp [vD,JW]
theorem xb.Ff {h:H} {v:AV} {l:List vG} (rd:xb 9 h v l.length (vD l)):∃ad:Int→Nat→AV,(∀i:Int,0≤i∧i<l.length→fZ 9 v (.int .i64 i)=some (ad i 0))∧
 (∀g,Ext h g→∀(i:Nat) (x:vG),l[i]?=some x→PE g (ad i 0) (vw x.1 x.2)∧bX true 9 (ad i 0) g=some (.agg (vw x.1 x.2))):=by
 obtain⟨ad,a1,a2,a4,a3⟩:=rd.at_
 refine⟨ad,a1,fun g hg i x hx=> ?_⟩
 have hi:i<l.length:=(uF.1 hx).1
 have hI:(0:Int)≤(i:Int)∧(i:Int)<l.length:=⟨by omega,by omega⟩
 refine⟨⟨fun g'=>a4 _ 0 g' hI,fun k=>ad i (0+k),fun k=>a2 _ 0 k hI,fun g' hg' k c hc=> ?_⟩, ?_⟩
 · have hk:k<9:=(uF.1 hc).1
   refine(a3 g' (fun id c q=>hg' id c (hg id c q))).1 _ _ _ hI ?_
   rw[wO,uP,show vD l=l.flatMap JW from rfl,y3 zK hx hk];exact hc
 · rw[(a3 g hg).2 _ hI,wO,show vD l=l.flatMap JW from rfl,DC zK hx];rfl
theorem GU {v:AV} {l:List vG} (h:H) (b:Nat) (hb:h.get b=some [v]) (rd:xb 9 h v l.length (vD l)) (hm:wR (l.map (·.1))=true):∀(q p:List vG),l=p++q→
 ∃e',Lp AP.A [0,3,10,11] AP.f192L0 [(0,.aE b 0),(3,.int .i64 (22+AE (p.map (·.1)):Nat)),(10,.int .i64 l.length),(11,.int .i64 p.length)] h=some (.exit 0,e',h)∧look e' 3=.int .i64 (xF (l.map (·.1)):Nat)
 | [], p, hp => by
   rw[UI]at hp;subst hp
   refine⟨[(0,.aE b 0),(3,.int .i64 (22+AE (l.map (·.1)):Nat)),(10,.int .i64 l.length),(11,.int .i64 l.length),(12,.bool false)],tc ?_,rfl⟩
   simp (disch:=omega)only[go_sem,vq,AP.f192L0]
 | x :: q, p, hp => by
   obtain⟨m1,m2,m3⟩:=vZ hm
   have hx:l[p.length]?=some x:=by rw[hp];simp
   have hlen:l.length=p.length+(q.length+1):=by rw[hp];simp
   rw[UF]at m1
   obtain⟨_,_,c3⟩:=m2 x.1 (by rw[hp];simp)
   have c1:=xi (m2 x.1 (by rw[hp];simp)).1
   have c2:=yW c3
   obtain⟨ad,a1,a2⟩:=rd.Ff
   have b1:=a1 p.length ⟨by omega,by omega⟩
   obtain⟨pe,_⟩:=a2 h (Ext.refl h) p.length x hx
   have nl:=pe.nil
   obtain⟨qq,f1,f2⟩:=pe.tl
   have l0:=f2 h (Ext.refl h) 0 _ rfl
   have l6:=f2 h (Ext.refl h) 6 _ rfl
   obtain⟨e',r1,r2⟩:=GU h b hb rd hm q (p++[x]) (by rw[hp];simp)
   have sz:xF (l.map (·.1))=22+(AE (p.map (·.1))+(JB x.1+AE (q.map (·.1)))):=by unfold xF;rw[hp,UX,BB,UL,AE]
   have e1:22+AE ((p++[x]).map (·.1))=22+AE (p.map (·.1))+JB x.1:=by rw[UX,BB];simp [AE];omega
   have n1:((p++[x]).length:Int)=(p.length:Int)+1:=by simp
   rw[e1,n1]at r1
   have se:JB x.1=128+2* x.1.name.size+x.1.packed.size:=rfl
   obtain⟨N,hN⟩:∃N,N=22+AE (p.map (·.1)):=⟨_,rfl⟩
   rw[←hN]at r1 ⊢
   have hN2:N≤4096:=by omega
   have w:(N:Int)+(76+2* ((x.1.name.size:Int)+26)+(x.1.packed.size:Int))=((N+JB x.1:Nat):Int):=by omega
   refine⟨e',td ?_ r1,r2⟩
   clear r1 r2 e1 sz hN rd a1 a2 f2 pe m2 m3 hm hp n1
   simp (disch:=omega)only[go_sem,vq,AP.f192L0,hb,b1,nl,f1,l0,l6,w]
theorem KE {v:AV} {l:List vG} (h:H) (b:Nat) (hb:h.get b=some [v]) (rd:xb 9 h v l.length (vD l)) (hm:wR (l.map (·.1))=true):aS AP.A 192 [.aE b 0] h=some (.int .i64 (xF (l.map (·.1)):Nat),h):=by
 obtain⟨e',r1,r2⟩:=GU h b hb rd hm l [] rfl
 have ln:=rd.len
 have r1':Lp AP.A [0,3,10,11] AP.f192L0 [(0,.aE b 0),(3,.int .i64 22),(10,.int .i64 l.length),(11,.int .i64 0)] h=some (.exit 0,e',h):=r1
 clear rd r1 hm
 generalize xF (l.map (·.1))=N at *
 refine tw (fn:=AP.f192) (h2:=h) (e:=[(2,.int .i64 N)]) (vs:=[.int .i64 N]) rfl rfl rfl ?_ rfl
 simp (disch:=omega)only[go_sem,vq,AP.f192,hb,ln,rV,r1',r2]
theorem wS (v:AV):ij true 1 [v] 0=some (.agg [v]):=rfl
theorem KD (h:H) (v:AV) (l:List vG) (hvs:v.sc=true) (hn:l.length<1125899906842624) (rd:xb 9 h v l.length (vD l)) (hv:∀x∈l,xe h x):aS AP.A 190 [.agg [v]] h=some (.int .i64 (if wR (l.map (·.1))=true then(xF (l.map (·.1)):Nat)else(0:Nat):Nat),h):=by
 obtain⟨h1,eh1⟩:∃g,g=h.eh.alloc [v]:=⟨_,rfl⟩
 have hx0:Ext h h1:=by rw[eh1];exact fun i c q=>((Ext.refl h.eh).alloc _) i c q
 have hn0:h.eh.next=h.next:=rfl
 have g1:h1.get h.next=some [v]:=by rw[eh1];exact vu rfl
 have rd1:=rd.mono fun i c q=>hx0 i c q
 have k1:=JA h1 v l hvs hn rd1 (fun x hx=>(hv x hx).mono hx0)
 cases hm:wR (l.map (·.1))with
 | false =>
   rw[hm]at k1
   refine tQ (fn:=AP.f190) (h2:=h1) (e:=[(2,.int .i64 0)]) (vs:=[.int .i64 0]) rfl rfl rfl ?_ rfl rfl
   clear rd rd1 hv hx0
   simp (disch:=omega)only[go_sem,vq,AP.f190,hvs,hn0,←eh1,g1,wS,k1]
 | true =>
   rw[hm]at k1
   have k2:=KE h1 h.next g1 rd1 hm
   refine tQ (fn:=AP.f190) (h2:=h1) (e:=[(2,.int .i64 (xF (l.map (·.1)):Nat))]) (vs:=[.int .i64 (xF (l.map (·.1)):Nat)]) rfl rfl rfl ?_ rfl rfl
   clear rd rd1 hv hx0
   simp (disch:=omega)only[go_sem,vq,AP.f190,hvs,hn0,←eh1,g1,wS,k1,k2]
theorem Pd (h:H) (v:AV) (l:List vG) (hvs:v.sc=true) (hn:l.length<1125899906842624) (rd:xb 9 h v l.length (vD l)) (hv:∀x∈l,xe h x):aS AP.A 186 [.agg [v]] h=some (.bool (wR (l.map (·.1))),h):=by
 obtain⟨h1,eh1⟩:∃g,g=h.eh.alloc [v]:=⟨_,rfl⟩
 have hx0:Ext h h1:=by rw[eh1];exact fun i c q=>((Ext.refl h.eh).alloc _) i c q
 have hn0:h.eh.next=h.next:=rfl
 have g1:h1.get h.next=some [v]:=by rw[eh1];exact vu rfl
 have rd1:=rd.mono fun i c q=>hx0 i c q
 have k1:=KD h1 v l hvs hn rd1 (fun x hx=>(hv x hx).mono hx0)
 cases hm:wR (l.map (·.1))with
 | false =>
   rw[hm]at k1
   have k1':aS AP.A 190 [.agg [v]] h1=some (.int .i64 0,h1):=k1
   refine tQ (fn:=AP.f186) (h2:=h1) (e:=[(2,.bool false)]) (vs:=[.bool false]) rfl rfl rfl ?_ rfl rfl
   clear rd rd1 hv hx0
   simp (disch:=omega)only[go_sem,vq,AP.f186,hvs,hn0,←eh1,g1,wS,k1']
 | true =>
   rw[hm]at k1
   have k1':aS AP.A 190 [.agg [v]] h1=some (.int .i64 (xF (l.map (·.1)):Nat),h1):=k1
   have m3:=(vZ hm).2.2
   have m4:22≤xF (l.map (·.1)):=by unfold xF;omega
   generalize xF (l.map (·.1))=N at *
   refine tQ (fn:=AP.f186) (h2:=h1) (e:=[(2,.bool true)]) (vs:=[.bool true]) rfl rfl rfl ?_ rfl rfl
   clear rd rd1 hv hx0 k1 hm
   simp (disch:=omega)only[go_sem,vq,AP.f186,hvs,hn0,←eh1,g1,wS,k1']
theorem Nm (h:H) (hf:h.floor≤h.next) (e:vN) (v:AV) (hv:v.sc=true) (ok:xe h (e,v)):aS AP.A 188 [.agg (vw e v)] h=some (.bool (!wZ e),h):=by
 obtain⟨h1,eh1⟩:∃g,g=h.eh.alloc (vw e v):=⟨_,rfl⟩
 have hx1:Ext h h1:=fun i c q=>by rw[eh1];exact((Ext.refl h.eh).alloc _) i c q
 have hn0:h.eh.next=h.next:=rfl
 have g0:h1.get h.next=some (vw e v):=by rw[eh1,vu (by simp)]
 have k1:=Fp h1 (by rw[eh1];simp) e v hv (ok.mono hx1)
 have rdA:ij true 9 (vw e v) 0=some (.agg (vw e v)):=rfl
 refine tQ (fn:=AP.f188) (h2:=h1) (e:=[(2,.bool (!wZ e))]) rfl rfl rfl ?_ rfl rfl
 clear hx1
 simp only[vw]at *
 simp (disch:=omega)only[go_sem,vq,AP.f188,hv,hn0,←eh1,g0,rdA,k1]
theorem Ga {v : AV} {l : List vG} (hl : l.length < 1000) (h : H) (hf : h.floor ≤ h.next) (rd : xb 9 h v l.length (vD l)) (hv : ∀ x ∈ l, xe h x ∧ x.2.sc = true) : ∀ (q p : List vG), l = p ++ q →
 (∃e',Lp AP.A [0,1,7,8] AP.f191L0 [(0,v),(1,.fn 188 [] []),(7,.int .i64 l.length),(8,.int .i64 p.length)] h=some (.exit 0,e',h)∧(q.map (·.1)).all wZ=true)∨
 (∃e',Lp AP.A [0,1,7,8] AP.f191L0 [(0,v),(1,.fn 188 [] []),(7,.int .i64 l.length),(8,.int .i64 p.length)] h=some (.ret,e',h)∧(∃k:Nat,look e' 4=.int .i64 k)∧(q.map (·.1)).all wZ=false)
 | [], p, hp => by
   rw[UI]at hp;subst hp
   refine .inl ⟨[(0,v),(1,.fn 188 [] []),(7,.int .i64 l.length),(8,.int .i64 l.length),(9,.bool false)],tc ?_,rfl⟩
   simp (disch:=omega)only[go_sem,vq,AP.f191L0]
 | x :: q, p, hp => by
   have hx:l[p.length]?=some x:=by rw[hp];simp
   have hlen:l.length=p.length+(q.length+1):=by rw[hp];simp
   obtain⟨ad,a1,a2⟩:=rd.Ff
   have b1:=a1 p.length ⟨by omega,by omega⟩
   obtain⟨_,b2⟩:=a2 h (Ext.refl h) p.length x hx
   obtain⟨ok,sc⟩:=hv x (by rw[hp];simp)
   have k1:=Nm h hf x.1 x.2 sc ok
   have n1:((p++[x]).length:Int)=(p.length:Int)+1:=by simp
   have ih:=Ga hl h hf rd hv q (p++[x]) (by rw[hp];simp)
   rw[n1]at ih
   rw[UL,List.all_cons]
   cases hm:wZ x.1 with
   | false =>
     rw[hm]at k1
     refine .inr ⟨[(4,.int .i64 p.length)],tF ?_,⟨p.length,rfl⟩,rfl⟩
     clear ih rd a1 a2 hv hp
     generalize vw x.1 x.2=E at *
     simp (disch:=omega)only[go_sem,vq,AP.f191L0,b1,b2,k1]
   | true =>
     rw[hm]at k1
     rw[UQ]
     have step:aM (aS AP.A) bD AP.f191L0 (ay [(0,v),(1,.fn 188 [] []),(7,.int .i64 l.length),(8,.int .i64 p.length)] [0,1,7,8]) h=some (.normal,[(0,v),(1,.fn 188 [] []),(7,.int .i64 l.length),(8,.int .i64 ((p.length:Int)+1))],h):=by
      clear ih rd a1 a2 hv hp
      generalize vw x.1 x.2=E at *
      simp (disch:=omega)only[go_sem,vq,AP.f191L0,b1,b2,k1]
     rcases ih with ⟨e',r1,r2⟩|⟨e',r1,r2,r3⟩
     · exact .inl ⟨e',td step r1,r2⟩
     · exact .inr ⟨e',td step r1,r2,r3⟩
theorem Lo (h:H) (hf:h.floor≤h.next) (v:AV) (l:List vG) (hl:l.length<1000) (rd:xb 9 h v l.length (vD l)) (hv:∀x∈l,xe h x∧x.2.sc=true):aS AP.A 187 [v,.fn 188 [] []] h=some (.bool (!(l.map (·.1)).all wZ),h):=by
 have xf:Ext h h.eh:=fun i c q=>q
 have k1:∃k:Int,aS AP.A 191 [v,.fn 188 [] []] h.eh=some (.int .i64 k,h.eh)∧(k<0↔(l.map (·.1)).all wZ=true):=by
  have ln:=rd.len
  rcases Ga hl h.eh.eh (by simp) (rd.mono fun i c q=>xf i c q) (fun x hx=>⟨(hv x hx).1.mono xf,(hv x hx).2⟩) l [] rfl with ⟨e',r1,r2⟩|⟨e',r1,⟨k,r2⟩,r3⟩
  · have r1':Lp AP.A [0,1,7,8] AP.f191L0 [(0,v),(1,.fn 188 [] []),(7,.int .i64 l.length),(8,.int .i64 0)] h.eh.eh=some (.exit 0,e',h.eh.eh):=r1
    refine⟨-1,tQ (fn:=AP.f191) (h2:=h.eh.eh) (e:=[(4,.int .i64 (-1))]) rfl rfl rfl ?_ rfl rfl,by rw[r2];simp⟩
    clear rd hv r1 r2
    simp (disch:=omega)only[go_sem,vq,AP.f191,ln,rV,r1']
  · have r1':Lp AP.A [0,1,7,8] AP.f191L0 [(0,v),(1,.fn 188 [] []),(7,.int .i64 l.length),(8,.int .i64 0)] h.eh.eh=some (.ret,e',h.eh.eh):=r1
    refine⟨k,tQ (fn:=AP.f191) (h2:=h.eh.eh) (e:=e') (vs:=[.int .i64 k]) rfl rfl rfl ?_ (by simp only[AP.f191,cO,na,r2];rfl) rfl,by rw[r3];simp⟩
    clear rd hv r1 r2 r3
    simp (disch:=omega)only[go_sem,vq,AP.f191,ln,rV,r1']
 obtain⟨k,k1,k2⟩:=k1
 refine tQ (fn:=AP.f187) (h2:=h.eh) (e:=[(4,.bool (!(l.map (·.1)).all wZ))]) rfl rfl rfl ?_ rfl rfl
 cases ha:(l.map (·.1)).all wZ with
 | true =>
   have:¬0≤k:=by have:=k2.2 ha;omega
   clear rd hv k2
   simp (disch:=omega)only[go_sem,vq,AP.f187,k1]
 | false =>
   have:0≤k:=by
    rw[ha]at k2
    have:¬k<0:=fun q=>by cases k2.1 q
    omega
   clear rd hv k2
   simp (disch:=omega)only[go_sem,vq,AP.f187,k1]
theorem Ii (h:H) (v:AV) (l:List vG) (hvs:v.sc=true) (hn:l.length<1125899906842624) (rd:xb 9 h v l.length (vD l)) (hv:∀x∈l,xe h x∧x.2.sc=true):aS AP.A 183 [.agg [v]] h=some (.bool (v9 (l.map (·.1))),h):=by
 obtain⟨h1,eh1⟩:∃g,g=h.eh.alloc [v]:=⟨_,rfl⟩
 have hx0:Ext h h1:=by rw[eh1];exact fun i c q=>((Ext.refl h.eh).alloc _) i c q
 have hn0:h.eh.next=h.next:=rfl
 have g1:h1.get h.next=some [v]:=by rw[eh1];exact vu rfl
 have rd1:=rd.mono fun i c q=>hx0 i c q
 have k1:=Pd h1 v l hvs hn rd1 (fun x hx=>(hv x hx).1.mono hx0)
 refine tQ (fn:=AP.f183) (h2:=h1) (e:=[(2,.bool (v9 (l.map (·.1))))]) rfl rfl rfl ?_ rfl rfl
 unfold v9
 cases hm:wR (l.map (·.1))with
 | false =>
   rw[hm]at k1
   clear rd rd1 hv hx0
   simp (disch:=omega)only[go_sem,vq,AP.f183,hvs,hn0,←eh1,g1,wS,k1]
 | true =>
   rw[hm]at k1
   have m1:=(vZ hm).1
   rw[UF]at m1
   have k2:=Lo h1 (by rw[eh1];simp) v l (by omega) rd1 (fun x hx=>⟨(hv x hx).1.mono hx0,(hv x hx).2⟩)
   clear rd rd1 hv hx0
   generalize (l.map (·.1)).all wZ=B at *
   cases B<;>simp (disch:=omega)only[go_sem,vq,AP.f183,hvs,hn0,←eh1,g1,wS,k1,k2]
def KM:Ty:=.sl Ni 9 104
def Fz:Ty:=.st [KM]
theorem Kx {ess:List (List AV)} (h:∀es,es∈ess→Sh reachBytes Ni es):∃l:List vG,l.length=ess.length∧ess.flatten=vD l∧∀x∈l,x.2.sc=true∧(∀g,xe g x)∧x.1.vec.length<20000000000000:=by
 induction ess with
 |nil=>exact⟨[],rfl,rfl,fun x hx=>by cases hx⟩
 | cons y ess ih =>
   obtain⟨e,v,rfl,hv,ok,hl⟩:=PI (h y (by simp))
   obtain⟨l,h1,h2,h3⟩:=ih fun es q=>h es (by simp [q])
   refine⟨(e,v)::l,by simp [h1],by rw[List.flatten_cons,h2];rfl,fun x hx=> ?_⟩
   rcases u5.1 hx with rfl|hx
   · exact⟨hv,ok,hl⟩
   · exact h3 x hx
theorem Ky {avs:List AV} (h:Sh reachBytes KM avs):∃(v:AV) (l:List vG),avs=[v]∧v.sc=true∧(∀g,xb 9 g v l.length (vD l))∧(∀x∈l,x.2.sc=true∧(∀g,xe g x)∧x.1.vec.length<20000000000000)∧l.length<1353300000000:=by
 cases h with
 |aQ=>exact⟨.aQ,[],rfl,rfl,fun g=>⟨rfl,rfl,fun s q=>(by cases q)⟩,fun x hx=>(by cases hx),by simp⟩
 | aW ess h hz hb =>
   obtain⟨l,h1,h2,h3⟩:=Kx h
   have hl:ess.flatten.length=ess.length* 9:=by rw[h2,xm,h1]
   refine⟨_,l,rfl,rfl,fun g=> ?_,h3, ?_⟩
   · rw[h2,←h1]
     refine⟨?_,by rw[xm],fun s q=>by cases q⟩
     simp only[aT,if_true,uP]
     rw[if_pos (by rw[xm];exact uK _),UK,uZ (by rw[xm];exact uK _)]
   · rw[h1];unfold reachBytes at hb;omega
theorem Jc {avs:List AV} (h:Sh reachBytes Fz avs):∃(v:AV) (l:List vG),avs=[v]∧v.sc=true∧(∀g,xb 9 g v l.length (vD l))∧(∀x∈l,x.2.sc=true∧(∀g,xe g x)∧x.1.vec.length<20000000000000)∧l.length<1353300000000:=by
 obtain⟨a1,r1,rfl,s1,h1⟩:=xq (K2 h)
 obtain rfl:=GA h1
 obtain⟨v,l,rfl,q⟩:=Ky s1
 exact⟨v,l,rfl,q⟩
theorem Jb {a b x:aH} {e e':Env} {h h':H} {q:dO} (k:aM (aS AP.A) bD (.seq a b) e h=some (.normal,e',h')) (z:aM (aS AP.A) bD x e' h'=q):aM (aS AP.A) bD (.seq a (.seq b x)) e h=q:=by
 rw[rI]at k ⊢
 cases hq:aM (aS AP.A) bD a e h with
 |none=>rw[hq]at k;cases k
 | some r =>
   obtain⟨ex,ev,hr⟩:=r
   cases ex with
   |normal=>rw[hq,sD]at k;rw[sD,rI,k,sD];exact z
   |exit i=>rw[hq]at k;cases k
   |ret=>rw[hq]at k;cases k
structure SD (n:Nat) (h:H) (w:AV) (h':H) (k:Nat) (cs:List AV):Prop where
 own:vT n h' w k cs
 ext:Ext h h'
 fl:h'.floor=h.floor
 nx:h.next≤h'.next
 ge:∀i,w.id?=some i→h.next≤i
theorem Ej (h:H) (s:ByteArray) (hs:s.size<1125899906842624):aS AP.A 179 [.str s] h=some (.int .i64 ((xG s%8:Nat):Int),h):=by
 have k1:=EI h.eh s hs
 have rm:br .rem (.int .i64 (xG s:Int)) (.int .i64 8)=some (.int .i64 ((xG s%8:Nat):Int)):=by
  show(if(8:Int)=0 then none else some (AV.int .i64 ((xG s:Int).tmod 8)))=_
  rw[if_neg (by decide),Int.tmod_eq_emod_of_nonneg (by omega)];rfl
 generalize ((xG s%8:Nat):Int)=M at *
 refine tQ (fn:=AP.f179) (h2:=h.eh) (e:=[(2,.int .i64 M)]) rfl rfl rfl ?_ rfl rfl
 simp (disch:=omega)only[go_sem,vq,AP.f179,k1,rm]
theorem xp {v:AV} (h:v.sc=true):v.cells=[v]:=by cases v<;>first|rfl|cases h
theorem FU {v:AV} {l:List vG} (h0:H) (rd:xb 9 h0 v l.length (vD l)) (hv:∀x∈l,xe h0 x∧x.2.sc=true) (hm:v9 (l.map (·.1))=true) (A:Nat) (hA:h0.next≤A):∀(q p:List vG),l=p++q→∀(h:H) (C:Nat→AV),Ext h0 h→h0.next≤h.next→Bu h A C (zT (p.map (·.1)))→
 ∃e' h' C',Lp AP.A [4,19,20,21] AP.f177L1 [(4,.aE A 0),(19,v),(20,.int .i64 l.length),(21,.int .i64 p.length)] h=some (.exit 0,e',h')∧look e' 4=.aE A 0∧Bu h' A C' (zT (l.map (·.1)))∧Ext h0 h'∧h'.floor=h.floor∧h.next≤h'.next
 | [], p, hp, h, C, hx, hn, bu => by
   rw[UI]at hp;subst hp
   refine⟨[(4,.aE A 0),(19,v),(20,.int .i64 l.length),(21,.int .i64 l.length),(22,.bool false)],h,C,tc ?_,rfl,bu,hx,rfl,uK _⟩
   simp (disch:=omega)only[go_sem,vq,AP.f177L1]
 | x :: q, p, hp, h, C, hx, hn, bu => by
   unfold v9 at hm
   have hm':=hm
   rw[uL]at hm
   obtain⟨m1,m2,m3⟩:=vZ hm.1
   rw[UF]at m1
   have hl:l[p.length]?=some x:=by rw[hp];simp
   have hlen:l.length=p.length+(q.length+1):=by rw[hp];simp
   have may:wZ x.1=true:=UY.1 hm.2 x.1 (by rw[hp];simp)
   have nsz:=xi (m2 x.1 (by rw[hp];simp)).1
   obtain⟨ad,a1,a2⟩:=rd.Ff
   have b1:=a1 p.length ⟨by omega,by omega⟩
   obtain⟨_,b2⟩:=a2 h hx p.length x hl
   obtain⟨ok,sc⟩:=hv x (by rw[hp];simp)
   obtain⟨E,hE⟩:∃E,E=vw x.1 x.2:=⟨_,rfl⟩
   have lE:E.length=9:=by rw[hE];rfl
   have cE:AV.aD E=true:=by rw[hE];exact yH sc
   have rE:ij true 9 E 0=some (.agg E):=by rw[hE];rfl
   have E0:E[0]?=some (.str x.1.name):=by rw[hE];rfl
   obtain⟨g0,eg0⟩:∃g,g=h.alloc Z9:=⟨_,rfl⟩
   obtain⟨g1,eg1⟩:∃g,g=g0.set h.next E:=⟨_,rfl⟩
   have z0:g0.get h.next=some Z9:=by rw[eg0,vu rfl]
   have st:tS g0 h.next 0 9 E (some Z9)=some g1:=by rw[eg1];exact w8 (by rw[eg0];simp;exact bu.nx) lE rfl cE
   have z1:g1.get h.next=some E:=by rw[eg1,vH rfl,z0];rfl
   have low:∀i,i<h.next→g1.get i=h.get i:=fun i hi=>by rw[eg1,vA (by omega),eg0,vO (by omega)]
   have f1:g1.floor=h.floor:=by rw[eg1,eg0];simp
   have n1:g1.next=h.next+1:=by rw[eg1,eg0];simp
   have x1:Ext h0 g1:=fun i c q=>by rw[low i (by have:=h0.lt _ _ q;omega)];exact hx i c q
   have bu1:=bu.mono f1 (by omega) low
   have k1:=H4 g1 (by have:=bu.nx;omega) x.1 x.2 sc (ok.mono x1)
   unfold Nf at k1
   rw[if_pos may,←hE]at k1
   have k1':aS AP.A 91 [.agg E] g1=some (.bS [.int .i64 (Nd x.1),.int .i64 0],g1):=k1
   have k2:=Ej g1 x.1.name (by omega)
   obtain⟨b,hb⟩:∃b,b=xG x.1.name%8:=⟨_,rfl⟩
   have hb8:b<8:=by omega
   rw[←hb]at k2
   obtain⟨v',h',p1,p2,p3,p4,p5,p6,p7⟩:=bu1.push hb8 (by have:=Ei (p.map (·.1)) b;rw[UF]at this;omega) (Nd x.1)
   have gC:(nr 8 C)[b]?=some (C b):=fX hb8
   have hc:=xp p2
   have gA1:=bu1.get
   have st2:tS h' A b 1 [v'] (some (nr 8 C))=some (h'.set A (nr 8 (tU C b v'))):=by
    rw[uk (by rw[p4];exact bu1.fl) (by simp [hb8]) p2,tB hb8]
   have eb:(fun m=>if m=b then zT (p.map (·.1)) b++[Nd x.1]else zT (p.map (·.1)) m)=zT ((p++[x]).map (·.1)):=by
    funext m
    rw[UX,List.map_singleton,G9]
    have:CC x.1=b:=hb.symm
    rw[this]
    by_cases c:m=b
    · subst c;simp
    · rw[if_neg c,if_neg (by omega)]
   rw[eb]at p6
   obtain⟨e',h2,C2,r1,r2,r3,r4,r5,r6⟩:=FU h0 rd hv hm' A hA q (p++[x]) (by rw[hp];simp) (h'.set A (nr 8 (tU C b v'))) _ (fun i c q=>by have:=h0.lt _ _ q;rw[vA (by omega),p7 i (by omega)];exact x1 i c q) (by simp;omega) p6
   have w1:((p++[x]).length:Int)=(p.length:Int)+1:=by simp
   rw[w1]at r1
   refine⟨e',h2,C2,td ?_ r1,r2,r3,r4,by rw[r5];simp [p4,f1],by simp at r6;omega⟩
   rw[←hE]at b2
   have a0:h.alloc [.str ⟨#[]⟩,.bool false,.aQ,.int .i64 0,.int .i64 0,.int .i64 0,.str ⟨#[]⟩,.int .i64 0,.int .i64 0]=g0:=eg0.symm
   have pI:(0:Int)≤(b:Int)∧(b:Int)<8:=⟨by omega,by omega⟩
   clear r1 r2 r3 r4 r5 r6 p6 eb hE hv rd a1 a2 x1 low bu bu1 k1 hx hm hm' m2 hb may hp eg0 eg1
   generalize Nd x.1=D at *
   generalize nr 8 (tU C b v')=T2 at *
   generalize nr 8 C=T1 at *
   simp (disch:=omega)only[go_sem,vq,AP.f177L1,b1,b2,a0,z0,lE,cE,st,z1,rE,E0,k1',k2,gA1,gC,p1,hc,p3,st2]
theorem FG {f:Nat→Int} (i:Nat):(List.range (i+1)).map f=(List.range i).map f++[f i]:=by rw[List.range_succ,UX];rfl
theorem Ef (h0 : H) (C : Nat → AV) (ls : Nat → List Int) (hb : ∀ m, m < 8 → (ls m).all z9 = true ∧ (ls m).length < 1000000) : ∀ (n i : Nat), i + n = 8 → ∀ (h : H) (ov : AV), (∀ m, m < 8 → Rd h (C m) (ints (ls m))) → vT 1 h ov i (ints ((List.range i).map fun b => wQ (ls b))) → h.floor ≤ h.next →
 (∀m,m<8→∀j,(C m).id?=some j→ov.id?≠some j∧j<h.next)→Ext h0 h→h0.next≤h.next→(∀j,ov.id?=some j→h0.next≤j)→
 ∃e' h' ov',Lp AP.A [10,42,43] AP.f177L0 [(10,ov),(42,.agg (nr 8 C)),(43,.int .i64 i)] h=some (.exit 2,e',h')∧look e' 10=ov'∧vT 1 h' ov' 8 (ints ((List.range 8).map fun b=>wQ (ls b)))∧Ext h0 h'∧h'.floor=h.floor∧h.next≤h'.next∧∀j,ov'.id?=some j→h0.next≤j
 | 0, i, hi, h, ov, ij, o, hf, sep, hx, hn, hge => by
   obtain rfl:i=8:=by omega
   refine⟨[(10,ov),(42,.agg (nr 8 C)),(43,.int .i64 8),(44,.bool false)],h,ov,tc ?_,rfl,o,hx,rfl,uK _,hge⟩
   generalize nr 8 C=T at *
   simp (disch:=omega)only[go_sem,vq,AP.f177L0]
 | n + 1, i, hi, h, ov, ij, o, hf, sep, hx, hn, hge => by
   obtain⟨ha,hl⟩:=hb i (by omega)
   have k1:=IB h (C i) (ls i) (ij i (by omega)) (by omega)
   rw[Iy ha]at k1
   have k1':aS AP.A 93 [C i] h=some (.bS [.int .i64 (wQ (ls i)),.int .i64 0],h):=k1
   obtain⟨v',h',p1,p2,p3,p4,p5,p6⟩:=o.push hf (z:=8) (m:=1) (by omega) (by omega) [.int .i64 (wQ (ls i))] rfl rfl (by simp [roomy];omega)
   have e:ints ((List.range i).map fun b=>wQ (ls b))++[.int .i64 (wQ (ls i))]=ints ((List.range (i+1)).map fun b=>wQ (ls b)):=by rw[FG];simp [ints,I]
   rw[e]at p2
   have wW:∀j,j<h.next→ov.id?≠some j→h'.get j=h.get j:=fun j a b=>p5 j b a
   have gC:md false 8 1 (.agg (nr 8 C)) (.int .i64 i)=some (C i):=by
    show(di (.int .i64 (i:Int)) 8).bind _=_
    rw[PZ ⟨by omega,by omega⟩,uG,wO,U4]
    exact fX (by omega)
   obtain⟨e',h2,ov',r1,r2⟩:=Ef h0 C ls hb n (i+1) (by omega) h' v' (fun m hm=>(ij m hm).Cb fun j q=>wW j (sep m hm j q).2 (sep m hm j q).1) p2 (by rw[p3];omega) (fun m hm j q=>by
    have:=(sep m hm j q).2
    rw[p6]
    exact⟨fun q2=>by have:=uz q2;omega,by omega⟩) (fun j c q=>by
     have:=h0.lt _ _ q
     rw[wW j (by omega) (fun q2=>by have:=hge j q2;omega)];exact hx j c q) (by omega) (fun j q=>by rw[p6]at q;have:=uz q;omega)
   have w1:((i+1:Nat):Int)=(i:Int)+1:=by omega
   rw[w1]at r1
   refine⟨e',h2,ov',td ?_ r1,r2.1,r2.2.1,r2.2.2.1,by rw[r2.2.2.2.1,p3],by have:=r2.2.2.2.2.1;omega,r2.2.2.2.2.2⟩
   have scC:(C i).sc=true:=by
    have:=ij i (by omega)
    cases hc:C i with
    |bot=>rw[hc]at this;cases this.1
    |agg _=>rw[hc]at this;cases this.1
    |bS _=>rw[hc]at this;cases this.1
    |_=>rfl
   clear r1 r2 wW ij o sep hx p2 e hb
   generalize wQ (ls i)=D at *
   generalize nr 8 C=T at *
   generalize C i=Ci at *
   simp (disch:=omega)only[go_sem,vq,AP.f177L0,gC,k1',p1,uH,vh]
theorem H6 (l:List vN):wo l=(List.range 8).map fun b=>wQ (zT l b):=rfl
theorem Fm (h : H) (hf : h.floor ≤ h.next) (v : AV) (l : List vG) (hvs : v.sc = true) (hn : l.length < 1125899906842624) (rd : xb 9 h v l.length (vD l)) (hv : ∀ x ∈ l, xe h x ∧ x.2.sc = true) :
 ∃w h',aS AP.A 177 [.agg [v]] h=some (.bS [w,.int .i64 (if v9 (l.map (·.1))then 0 else 1600)],h')∧SD 1 h w h' (if v9 (l.map (·.1))then wo (l.map (·.1))else []).length (ints (if v9 (l.map (·.1))then wo (l.map (·.1))else [])):=by
 obtain⟨g1,eg1⟩:∃g,g=h.alloc [v]:=⟨_,rfl⟩
 have hx1:Ext h g1:=by rw[eg1];exact(Ext.refl h).alloc _
 have z1:g1.get h.next=some [v]:=by rw[eg1];exact vu rfl
 have f1:g1.floor=h.floor:=by rw[eg1];simp
 have n1:g1.next=h.next+1:=by rw[eg1];simp
 have rd1:=rd.mono fun i c q=>hx1 i c q
 have hv1:∀x∈l,xe g1 x∧x.2.sc=true:=fun x hx=>⟨(hv x hx).1.mono hx1,(hv x hx).2⟩
 have k1:=Ii g1 v l hvs hn rd1 hv1
 have ln:=rd1.len
 cases hm:v9 (l.map (·.1))with
 | false =>
   rw[hm]at k1
   refine⟨.aQ,g1, ?_,⟨vT.nil,hx1,f1,by omega,fun i q=>by cases q⟩⟩
   refine tw (fn:=AP.f177) (h2:=g1) (e:=[(2,.aQ),(3,.int .i64 1600)]) (vs:=[.aQ,.int .i64 1600]) rfl rfl rfl ?_ rfl
   clear rd rd1 hv hv1 hx1
   simp (disch:=omega)only[go_sem,vq,AP.f177,hvs,←eg1,z1,wS,k1]
 | true =>
   rw[hm]at k1
   have m1:=hm
   unfold v9 at m1
   rw[uL]at m1
   have m2:=(vZ m1.1).1
   rw[UF]at m2
   obtain⟨g2,eg2⟩:∃g,g=g1.alloc (nr 8 fun _=>.aQ):=⟨_,rfl⟩
   have hx2:Ext g1 g2:=by rw[eg2];exact(Ext.refl g1).alloc _
   have z2:g2.get h.next=some [v]:=hx2 _ _ z1
   have bu:=Bu.new (h:=g1) (by omega)
   rw[←eg2]at bu
   obtain⟨e',g3,C,r1,r2,r3,r4,r5,r6⟩:=FU g1 rd1 hv1 hm g1.next (uK _) l [] rfl g2 (fun _=>.aQ) hx2 (by rw[eg2];simp) bu
   have r1':Lp AP.A [4,19,20,21] AP.f177L1 [(4,.aE (h.next+1) 0),(19,v),(20,.int .i64 l.length),(21,.int .i64 0)] g2=some (.exit 0,e',g3):=by rw[←n1];exact r1
   rw[n1]at r2 r3
   have a2:g1.alloc [.aQ,.aQ,.aQ,.aQ,.aQ,.aQ,.aQ,.aQ]=g2:=eg2.symm
   have z3:=r3.get
   have rT:ij true 8 (nr 8 C) 0=some (.agg (nr 8 C)):=rfl
   have n2:g2.next=h.next+2:=by rw[eg2];simp [n1]
   have f2:g2.floor=h.floor:=by rw[eg2];simp [f1]
   obtain⟨e2,g4,ov,s1,s2,s3,s4,s5,s6,s7⟩:=Ef h C (zT (l.map (·.1))) (fun m _=>⟨JL _ _,by have:=Ei (l.map (·.1)) m;rw[UF]at this;omega⟩) 8 0 rfl g3 .aQ (fun m hm=>by
    have o:=(r3.own m hm).rd
    exact⟨by have:=o.1;rw[pC];exact this,o.2.2⟩) vT.nil r3.nx (fun m hm j q=>⟨(fun q2=>by cases q2),((r3.own m hm).lt q).2⟩) (fun i c q=>r4 i c (hx1 i c q)) (by omega) (fun j q=>by cases q)
   have s1':Lp AP.A [10,42,43] AP.f177L0 [(10,.aQ),(42,.agg (nr 8 C)),(43,.int .i64 0)] g3=some (.exit 2,e2,g4):=s1
   refine⟨ov,g4, ?_,⟨by rw[if_pos rfl,vR,H6];exact s3,s4,by rw[s5,r5,f2],by omega,s7⟩⟩
   rw[if_pos rfl]
   refine tw (fn:=AP.f177) (h2:=g4) (e:=[(2,ov),(3,.int .i64 0)]) (vs:=[ov,.int .i64 0]) rfl rfl rfl ?_ rfl
   clear rd rd1 hv hv1 hx1 hx2 r1 s1 s3 s4 r3 bu eg2
   generalize nr 8 C=T at *
   simp (disch:=omega)only[go_sem,vq,AP.f177,hvs,←eg1,z1,n1,wS,k1,a2,z2,ln,rV,r1',r2,z3,rT,s1',s2]
def Gv (l:List Int):AV:=if l.all z9&&decide (l.length=8)then .bS [.int .i64 (wQ l),.int .i64 0]else .bS [.int .i64 0,.int .i64 1600]
theorem I8 (h:H) (v:AV) (l:List Int) (rd:Rd h v (ints l)) (hl:l.length<1125899906842624):aS AP.A 181 [v] h=some (Gv l,h):=by
 have xf:Ext h h.eh:=fun i c q=>q
 have k1:=IB h.eh v l (rd.mono fun i c q=>xf i c q) hl
 have r2:=(rd.mono fun i c q=>xf i c q:Rd h.eh v (ints l)).Ck
 rw[pC]at r2
 have ln:=r2.len
 unfold Gv
 unfold EH at k1
 cases ha:l.all z9 with
 | false =>
   rw[ha]at k1
   have k1':aS AP.A 93 [v] h.eh=some (.bS [.int .i64 0,.int .i64 1500],h.eh):=k1
   refine tQ (fn:=AP.f181) (h2:=h.eh) (e:=[(2,.int .i64 0),(3,.int .i64 1600)]) rfl rfl rfl ?_ rfl rfl
   clear rd r2 k1
   simp (disch:=omega)only[go_sem,vq,AP.f181,k1',ln]
 | true =>
   rw[ha]at k1
   have k1':aS AP.A 93 [v] h.eh=some (.bS [.int .i64 (wQ l),.int .i64 0],h.eh):=k1
   by_cases c:l.length=8
   · have c':(l.length:Int)=8:=by omega
     rw[dt c]
     refine tQ (fn:=AP.f181) (h2:=h.eh) (e:=[(2,.int .i64 (wQ l)),(3,.int .i64 0)]) rfl rfl rfl ?_ rfl rfl
     clear rd r2 k1
     generalize wQ l=M at *
     simp (disch:=omega)only[go_sem,vq,AP.f181,k1',ln]
   · have c':¬(l.length:Int)=8:=by omega
     rw[df c]
     refine tQ (fn:=AP.f181) (h2:=h.eh) (e:=[(2,.int .i64 0),(3,.int .i64 1600)]) rfl rfl rfl ?_ rfl rfl
     clear rd r2 k1
     generalize wQ l=M at *
     simp (disch:=omega)only[go_sem,vq,AP.f181,k1',ln]
def JG (p:Option Int) (b:Int):Bool:=decide (0≤b)&&(decide (b<8)&&(match p with|none=>true|some q=>decide (q<b)))
theorem FW (p:Option Int) (b:Int) (l:List Int):xH p (b::l)=(JG p b&&xH (some b) l):=by cases p<;>(rw[xH];rfl)
theorem FV {v : AV} {l : List Int} (hl : l.length < 1125899906842624) (h : H) (rd : Rd h v (ints l)) : ∀ (q p : List Int), l = p ++ q →
 (∃e',Lp AP.A [0,5,6,7] AP.f184L0 [(0,v),(5,v),(6,.int .i64 l.length),(7,.int .i64 p.length)] h=some (.exit 0,e',h)∧xH p.getLast? q=true)∨
 (∃e',Lp AP.A [0,5,6,7] AP.f184L0 [(0,v),(5,v),(6,.int .i64 l.length),(7,.int .i64 p.length)] h=some (.ret,e',h)∧look e' 2=.bool false∧xH p.getLast? q=false)
 | [], p, hp => by
   rw[UI]at hp;subst hp
   refine .inl ⟨[(0,v),(5,v),(6,.int .i64 l.length),(7,.int .i64 l.length),(8,.bool false)],tc ?_,rfl⟩
   simp (disch:=omega)only[go_sem,vq,AP.f184L0]
 | x :: q, p, hp => by
   have hlen:l.length=p.length+(q.length+1):=by rw[hp];simp
   have hx:l[p.length]?=some x:=by rw[hp];simp
   obtain⟨ad,a1,a2⟩:=rd.wT
   have b1:=a1 p.length ⟨by omega,by omega⟩
   have b2:=a2 h (Ext.refl h) p.length x hx
   have ih:=FV hl h rd q (p++[x]) (by rw[hp];simp)
   have w1:((p++[x]).length:Int)=(p.length:Int)+1:=by simp
   rw[w1,List.getLast?_concat]at ih
   rw[FW]
   have step : aM (aS AP.A) bD AP.f184L0 (ay [(0, v), (5, v), (6, .int .i64 l.length), (7, .int .i64 p.length)] [0, 5, 6, 7]) h = if JG p.getLast? x then some (.normal, [(0, v), (5, v), (6, .int .i64 l.length), (7, .int .i64 ((p.length : Int) + 1))], h) else some (.ret, [(2, .bool false)], h) := by
    unfold JG
    cases hq:p.getLast? with
    | none =>
      have hp0:p=[]:=List.getLast?_eq_none_iff.1 hq
      have hp1:p.length=0:=by rw[hp0];rfl
      clear ih rd a1 a2 hp w1
      by_cases c1:0≤x
      · by_cases c2:x<8
        · simp only[dt c1,dt c2,UW,if_true]
          simp (disch:=omega)only[go_sem,vq,AP.f184L0,b1,b2]
        · simp only[dt c1,df c2,UJ,UM,uH,vh]
          simp (disch:=omega)only[go_sem,vq,AP.f184L0,b1,b2]
      · simp only[df c1,UJ,uH,vh]
        simp (disch:=omega)only[go_sem,vq,AP.f184L0,b1,b2]
    | some y =>
      obtain⟨p',rfl⟩:∃p',p=p'++[y]:=List.getLast?_eq_some_iff.1 hq
      have hpl:(p'++[y]).length=p'.length+1:=by simp
      have hy:l[p'.length]?=some y:=by rw[hp];simp
      have bj:=a1 p'.length ⟨by omega,by omega⟩
      have lj:=a2 h (Ext.refl h) p'.length y hy
      have n2:(((p'++[y]).length:Nat):Int)-1=(p'.length:Int):=by rw[hpl];omega
      have n3:0<(((p'++[y]).length:Nat):Int):=by rw[hpl];omega
      clear ih rd a1 a2 hp w1 hx hy hq
      generalize (p'++[y]).length=pl at *
      by_cases c1:0≤x
      · by_cases c2:x<8
        · by_cases c3:y<x
          · rw[dt c1,dt c2]
            simp only[dt c3,UW,if_true]
            simp (disch:=omega)only[go_sem,vq,AP.f184L0,b1,b2,bj,lj,n2]
          · rw[dt c1,dt c2]
            simp only[df c3,UM,uH,vh]
            simp (disch:=omega)only[go_sem,vq,AP.f184L0,b1,b2,bj,lj,n2]
        · simp only[dt c1,df c2,UJ,UM,uH,vh]
          simp (disch:=omega)only[go_sem,vq,AP.f184L0,b1,b2]
      · simp only[df c1,UJ,uH,vh]
        simp (disch:=omega)only[go_sem,vq,AP.f184L0,b1,b2]
   by_cases hok:JG p.getLast? x=true
   · rw[if_pos hok]at step
     rw[hok,UQ]
     rcases ih with ⟨e',r1,r2⟩|⟨e',r1,r2,r3⟩
     · exact .inl ⟨e',td step r1,r2⟩
     · exact .inr ⟨e',td step r1,r2,r3⟩
   · have hok':JG p.getLast? x=false:=by simpa using hok
     rw[if_neg hok]at step
     rw[hok',UJ]
     exact .inr ⟨_,tF step,rfl,rfl⟩
theorem HT (h:H) (v:AV) (l:List Int) (rd:Rd h v (ints l)) (hl:l.length<1125899906842624):aS AP.A 184 [v] h=some (.bool (yx l),h):=by
 have xf:Ext h h.eh:=fun i c q=>q
 have rdf:Rd h.eh v (ints l):=rd.mono fun i c q=>xf i c q
 have r2:=rdf.Ck
 rw[pC]at r2
 have ln:=r2.len
 unfold yx
 rcases FV hl h.eh rdf l [] rfl with ⟨e',r1,r3⟩|⟨e',r1,r3,r4⟩
 · have r1':Lp AP.A [0,5,6,7] AP.f184L0 [(0,v),(5,v),(6,.int .i64 l.length),(7,.int .i64 0)] h.eh=some (.exit 0,e',h.eh):=r1
   have r3':xH none l=true:=r3
   rw[r3']
   refine tQ (fn:=AP.f184) (h2:=h.eh) (e:=[(2,.bool true)]) rfl rfl rfl ?_ rfl rfl
   clear rd rdf r2 r1 r3
   simp (disch:=omega)only[go_sem,vq,AP.f184,ln,rV,r1']
 · have r1':Lp AP.A [0,5,6,7] AP.f184L0 [(0,v),(5,v),(6,.int .i64 l.length),(7,.int .i64 0)] h.eh=some (.ret,e',h.eh):=r1
   have r4':xH none l=false:=r4
   rw[r4']
   refine tQ (fn:=AP.f184) (h2:=h.eh) (e:=e') (vs:=[.bool false]) rfl rfl rfl ?_ (by simp only[AP.f184,cO,na,r3];rfl) rfl
   clear rd rdf r2 r1 r4
   simp (disch:=omega)only[go_sem,vq,AP.f184,ln,rV,r1']
theorem Gb {v : AV} {l : List Int} (hl : l.length < 1125899906842624) (h : H) (rd : Rd h v (ints l)) (y : Int) : ∀ (q p : List Int), l = p ++ q →
 (∃e',Lp AP.A [0,1,7,8] AP.f189L0 [(0,v),(1,.int .i64 y),(7,.int .i64 l.length),(8,.int .i64 p.length)] h=some (.exit 0,e',h)∧q.contains y=false)∨
 (∃e',Lp AP.A [0,1,7,8] AP.f189L0 [(0,v),(1,.int .i64 y),(7,.int .i64 l.length),(8,.int .i64 p.length)] h=some (.ret,e',h)∧(∃k:Nat,look e' 4=.int .i64 k)∧q.contains y=true)
 | [], p, hp => by
   rw[UI]at hp;subst hp
   refine .inl ⟨[(0,v),(1,.int .i64 y),(7,.int .i64 l.length),(8,.int .i64 l.length),(9,.bool false)],tc ?_,rfl⟩
   simp (disch:=omega)only[go_sem,vq,AP.f189L0]
 | x :: q, p, hp => by
   have hlen:l.length=p.length+(q.length+1):=by rw[hp];simp
   have hx:l[p.length]?=some x:=by rw[hp];simp
   obtain⟨ad,a1,a2⟩:=rd.wT
   have b1:=a1 p.length ⟨by omega,by omega⟩
   have b2:=a2 h (Ext.refl h) p.length x hx
   have ih:=Gb hl h rd y q (p++[x]) (by rw[hp];simp)
   have w1:((p++[x]).length:Int)=(p.length:Int)+1:=by simp
   rw[w1]at ih
   by_cases c:y=x
   · refine .inr ⟨[(4,.int .i64 p.length)],tF ?_,⟨p.length,rfl⟩,by simp [c]⟩
     clear ih rd a1 a2 hp w1
     simp (disch:=omega)only[go_sem,vq,AP.f189L0,b1,b2,c]
   · have step:aM (aS AP.A) bD AP.f189L0 (ay [(0,v),(1,.int .i64 y),(7,.int .i64 l.length),(8,.int .i64 p.length)] [0,1,7,8]) h=some (.normal,[(0,v),(1,.int .i64 y),(7,.int .i64 l.length),(8,.int .i64 ((p.length:Int)+1))],h):=by
      clear ih rd a1 a2 hp w1
      simp (disch:=omega)only[go_sem,vq,AP.f189L0,b1,b2]
     have ec:(x::q).contains y=q.contains y:=by simp [c]
     rw[ec]
     rcases ih with ⟨e',r1,r2⟩|⟨e',r1,r2,r3⟩
     · exact .inl ⟨e',td step r1,r2⟩
     · exact .inr ⟨e',td step r1,r2,r3⟩
theorem Hk (h:H) (v:AV) (l:List Int) (y:Int) (rd:Rd h v (ints l)) (hl:l.length<1125899906842624):aS AP.A 185 [v,.int .i64 y] h=some (.bool (l.contains y),h):=by
 have xf:Ext h h.eh:=fun i c q=>q
 have rdf:Rd h.eh.eh v (ints l):=rd.mono fun i c q=>xf i c q
 have r2:=rdf.Ck
 rw[pC]at r2
 have ln:=r2.len
 have k1:∃k:Int,aS AP.A 189 [v,.int .i64 y] h.eh=some (.int .i64 k,h.eh)∧(0≤k↔l.contains y=true):=by
  rcases Gb hl h.eh.eh rdf y l [] rfl with ⟨e',r1,r3⟩|⟨e',r1,⟨k,r3⟩,r4⟩
  · have r1':Lp AP.A [0,1,7,8] AP.f189L0 [(0,v),(1,.int .i64 y),(7,.int .i64 l.length),(8,.int .i64 0)] h.eh.eh=some (.exit 0,e',h.eh.eh):=r1
    refine⟨-1,tQ (fn:=AP.f189) (h2:=h.eh.eh) (e:=[(4,.int .i64 (-1))]) rfl rfl rfl ?_ rfl rfl,by rw[r3];simp⟩
    clear rd rdf r2 r1 r3
    simp (disch:=omega)only[go_sem,vq,AP.f189,ln,rV,r1']
  · have r1':Lp AP.A [0,1,7,8] AP.f189L0 [(0,v),(1,.int .i64 y),(7,.int .i64 l.length),(8,.int .i64 0)] h.eh.eh=some (.ret,e',h.eh.eh):=r1
    refine⟨k,tQ (fn:=AP.f189) (h2:=h.eh.eh) (e:=e') (vs:=[.int .i64 k]) rfl rfl rfl ?_ (by simp only[AP.f189,cO,na,r3];rfl) rfl,by rw[r4];simp⟩
    clear rd rdf r2 r1 r4 r3
    simp (disch:=omega)only[go_sem,vq,AP.f189,ln,rV,r1']
 obtain⟨k,k1,k2⟩:=k1
 refine tQ (fn:=AP.f185) (h2:=h.eh) (e:=[(4,.bool (l.contains y))]) rfl rfl rfl ?_ rfl rfl
 clear rd rdf r2
 cases hc:l.contains y with
 | true =>
   have:=k2.2 hc
   clear k2
   simp (disch:=omega)only[go_sem,vq,AP.f185,k1]
 | false =>
   have:¬0≤k:=fun q=>by rw[hc]at k2;cases k2.1 q
   clear k2
   simp (disch:=omega)only[go_sem,vq,AP.f185,k1]
abbrev xR:=FP×AV
def JJ (x:xR):List AV:=[.str x.1.1,x.2]
def wB (l:List xR):List AV:=l.flatMap JJ
theorem zJ (x:xR):(JJ x).length=2:=rfl
theorem BJ (l:List xR) (x:xR):wB (l++[x])=wB l++JJ x:=by simp [wB]
structure HE (h0 h:H) (ov:AV) (x:xR):Prop where
 ex:∃j,x.2=.aF j 0 4 1∧h.get j=some (ints x.1.2)∧h0.next≤j∧ov.id?≠some j∧h.floor≤j
 l4:x.1.2.length=4
theorem HE.mono {h0 h g:H} {ov ov':AV} {x:xR} (b:HE h0 h ov x) (hf:g.floor=h.floor) (hg:∀j,j<h.next→ov.id?≠some j→g.get j=h.get j) (ho:∀j,j<h.next→ov.id?≠some j→ov'.id?≠some j):HE h0 g ov' x:=by
 obtain⟨j,e1,e2,e3,e4,e5⟩:=b.ex
 have:=h.lt _ _ e2
 exact⟨⟨j,e1,by rw[hg j this e4];exact e2,e3,ho j this e4,by rw[hf];exact e5⟩,b.l4⟩
theorem Bc (l:List vN) (e:vN) (bs:List Int):vP (l++[e]) bs=if bs.contains ((CC e:Nat):Int)then vP l bs++[(e.name,e.vec)]else vP l bs:=by
 unfold vP
 rw[List.filter_append,UX]
 by_cases c:bs.contains ((CC e:Nat):Int)=true
 · rw[if_pos c,List.filter_cons,if_pos c];rfl
 · rw[if_neg c,List.filter_cons,if_neg c];simp
theorem yU (l:List vN) (bs:List Int):(vP l bs).length≤l.length:=by unfold vP;rw[UF];exact List.length_filter_le _ _
theorem Dw {v w:AV} {l:List vG} {bs:List Int} (h0:H) (rd:xb 9 h0 v l.length (vD l)) (hv:∀x∈l,xe h0 x∧x.2.sc=true) (hm:v9 (l.map (·.1))=true) (rdb:Rd h0 w (ints bs)) (hbs:bs.length<1125899906842624):∀(q p:List vG),l=p++q→∀(h:H) (ov:AV) (acc:List xR),Ext h0 h→h0.next≤h.next→h.floor≤h.next→
 vT 2 h ov acc.length (wB acc)→acc.map (·.1)=vP (p.map (·.1)) bs→(∀x∈acc,HE h0 h ov x)→(∀j,ov.id?=some j→h0.next≤j)→
 ∃e' h' ov' acc',Lp AP.A [1,6,18,19,20] AP.f178L0 [(1,w),(6,ov),(18,v),(19,.int .i64 l.length),(20,.int .i64 p.length)] h=some (.exit 0,e',h')∧look e' 6=ov'∧vT 2 h' ov' acc'.length (wB acc')∧acc'.map (·.1)=vP (l.map (·.1)) bs∧(∀x∈acc',HE h0 h' ov' x)∧Ext h0 h'∧h'.floor=h.floor∧h.next≤h'.next∧∀j,ov'.id?=some j→h0.next≤j
 | [], p, hp, h, ov, acc, hx, hn, hf, o, ha, hb, hge => by
   rw[UI]at hp;subst hp
   refine⟨[(1,w),(6,ov),(18,v),(19,.int .i64 l.length),(20,.int .i64 l.length),(21,.bool false)],h,ov,acc,tc ?_,rfl,o,ha,hb,hx,rfl,uK _,hge⟩
   simp (disch:=omega)only[go_sem,vq,AP.f178L0]
 | x :: q, p, hp, h, ov, acc, hx, hn, hf, o, ha, hb, hge => by
   unfold v9 at hm
   have hm':=hm
   rw[uL]at hm
   obtain⟨m1,m2,m3⟩:=vZ hm.1
   rw[UF]at m1
   have hl:l[p.length]?=some x:=by rw[hp];simp
   have hlen:l.length=p.length+(q.length+1):=by rw[hp];simp
   have may:wZ x.1=true:=UY.1 hm.2 x.1 (by rw[hp];simp)
   have nsz:=xi (m2 x.1 (by rw[hp];simp)).1
   have v4:x.1.vec.length=4:=(yb (m2 x.1 (by rw[hp];simp)).2.1).1
   obtain⟨ad,a1,a2⟩:=rd.Ff
   have b1:=a1 p.length ⟨by omega,by omega⟩
   obtain⟨_,b2⟩:=a2 h hx p.length x hl
   obtain⟨ok,sc⟩:=hv x (by rw[hp];simp)
   obtain⟨E,hE⟩:∃E,E=vw x.1 x.2:=⟨_,rfl⟩
   have lE:E.length=9:=by rw[hE];rfl
   have cE:AV.aD E=true:=by rw[hE];exact yH sc
   have E0:E[0]?=some (.str x.1.name):=by rw[hE];rfl
   have E2:E[2]?=some x.2:=by rw[hE];rfl
   obtain⟨g0,eg0⟩:∃g,g=h.alloc Z9:=⟨_,rfl⟩
   obtain⟨g1,eg1⟩:∃g,g=g0.set h.next E:=⟨_,rfl⟩
   have z0:g0.get h.next=some Z9:=by rw[eg0,vu rfl]
   have st:tS g0 h.next 0 9 E (some Z9)=some g1:=by rw[eg1];exact w8 (by rw[eg0];simp;exact hf) lE rfl cE
   have z1:g1.get h.next=some E:=by rw[eg1,vH rfl,z0];rfl
   have low:∀i,i<h.next→g1.get i=h.get i:=fun i hi=>by rw[eg1,vA (by omega),eg0,vO (by omega)]
   have f1:g1.floor=h.floor:=by rw[eg1,eg0];simp
   have n1:g1.next=h.next+1:=by rw[eg1,eg0];simp
   have x1:Ext h0 g1:=fun i c q=>by rw[low i (by have:=h0.lt _ _ q;omega)];exact hx i c q
   have k2:=Ej g1 x.1.name (by omega)
   have k3:=Hk g1 w bs ((CC x.1:Nat):Int) (rdb.mono fun i c q=>x1 i c q) hbs
   have a0:h.alloc [.str ⟨#[]⟩,.bool false,.aQ,.int .i64 0,.int .i64 0,.int .i64 0,.str ⟨#[]⟩,.int .i64 0,.int .i64 0]=g0:=eg0.symm
   have w1:((p++[x]).length:Int)=(p.length:Int)+1:=by simp
   have k2':aS AP.A 179 [.str x.1.name] g1=some (.int .i64 ((CC x.1:Nat):Int),g1):=k2
   have al:=U2 List.length ha
   rw[UF]at al
   have bl:=yU (p.map (·.1)) bs
   rw[UF]at bl
   have bs':=Bc (p.map (·.1)) x.1 bs
   cases hc:bs.contains ((CC x.1:Nat):Int)with
   | false =>
     rw[hc]at k3
     rw[hc,if_neg (by decide)]at bs'
     obtain⟨e',h2,ov',acc',r1,r2⟩:=Dw h0 rd hv hm' rdb hbs q (p++[x]) (by rw[hp];simp) g1 ov acc x1 (by omega) (by omega) (o.mono f1 fun i q=>low i (o.lt q).2) (by rw[UX,List.map_singleton,bs'];exact ha) (fun y hy=>(hb y hy).mono f1 (fun j q1 _=>low j q1) (fun _ _ q=>q)) hge
     rw[w1]at r1
     refine⟨e',h2,ov',acc',td ?_ r1,r2.1,r2.2.1,r2.2.2.1,r2.2.2.2.1,r2.2.2.2.2.1,by rw[r2.2.2.2.2.2.1,f1],by have:=r2.2.2.2.2.2.2.1;omega,r2.2.2.2.2.2.2.2⟩
     rw[←hE]at b2
     clear r1 r2 hE hv rd a1 a2 x1 low hx hm hm' m2 may hp eg0 eg1 o hb ha rdb bs' k2 al bl
     generalize ((CC x.1:Nat):Int)=B at *
     simp (disch:=omega)only[go_sem,vq,AP.f178L0,b1,b2,a0,z0,lE,cE,st,z1,E0,E2,k2',k3]
   | true =>
     rw[hc]at k3
     rw[hc,if_pos rfl]at bs'
     have k4:=Dz g1 x.2 x.1.vec (ok.mono x1).vec (by omega) (by omega) (by omega)
     rw[v4]at k4
     obtain⟨g2,eg2⟩:∃g,g=((g1.alloc []).del g1.next).alloc (ints x.1.vec):=⟨_,rfl⟩
     rw[←eg2]at k4
     have low2:∀i,i<g1.next→g2.get i=g1.get i:=fun i hi=>by rw[eg2,vO (by simp;omega),yM (by omega),vO (by omega)]
     have f2:g2.floor=h.floor:=by rw[eg2];simp [f1]
     have n2:g2.next=h.next+3:=by rw[eg2];simp [n1]
     have z2:g2.get h.next=some E:=by rw[low2 _ (by omega)];exact z1
     have zv:g2.get (g1.next+1)=some (ints x.1.vec):=by rw[eg2,vu (by simp)]
     have lo2:∀i,i<h.next→g2.get i=h.get i:=fun i hi=>by rw[low2 i (by omega),low i hi]
     have x2:Ext h0 g2:=fun i c q=>by rw[lo2 i (by have:=h0.lt _ _ q;omega)];exact hx i c q
     have o2:vT 2 g2 ov acc.length (wB acc):=o.mono f2 fun i q=>lo2 i (o.lt q).2
     obtain⟨v',h',p1,p2,p3,p4,p5,p6⟩:=o2.push (by omega) (z:=40) (m:=1) (by omega) (by omega) [.str x.1.name,.aF (g1.next+1) 0 4 1] rfl rfl (by simp [roomy];omega)
     have ea:wB acc++[.str x.1.name,.aF (g1.next+1) 0 4 1]=wB (acc++[((x.1.name,x.1.vec),.aF (g1.next+1) 0 4 1)]):=by rw[BJ];rfl
     rw[ea]at p2
     have ovl:∀j,ov.id?=some j→j<h.next:=fun j q=>(o.lt q).2
     obtain⟨e',h2,ov',acc',r1,r2⟩:=Dw h0 rd hv hm' rdb hbs q (p++[x]) (by rw[hp];simp) h' v' (acc++[((x.1.name,x.1.vec),.aF (g1.next+1) 0 4 1)]) (fun i c q=>by
      have:=h0.lt _ _ q
      rw[p5 i (fun q2=>by have:=hge i q2;omega) (by omega)];exact x2 i c q) (by omega) (by omega) (by rw[vg,List.length_singleton];exact p2) (by rw[UX,UX,List.map_singleton,List.map_singleton,bs',ha]) (fun y hy=>by
      rcases List.mem_append.1 hy with hy|hy
      · refine(hb y hy).mono (by rw[p3,f2]) (fun j q1 q2=>by rw[p5 j q2 (by omega),lo2 j q1]) (fun j q1 _=>by rw[p6];intro q2;have:=uz q2;omega)
      · obtain rfl:y=_:=List.mem_singleton.1 hy
        refine⟨⟨g1.next+1,rfl, ?_,by omega,by rw[p6];intro q2;have:=uz q2;omega,by rw[p3,f2];omega⟩,v4⟩
        rw[p5 _ (fun q2=>by have:=ovl _ q2;omega) (by omega)]
        exact zv) (fun j q=>by rw[p6]at q;have:=uz q;omega)
     rw[w1]at r1
     refine⟨e',h2,ov',acc',td ?_ r1,r2.1,r2.2.1,r2.2.2.1,r2.2.2.2.1,r2.2.2.2.2.1,by rw[r2.2.2.2.2.2.1,p3,f2],by have:=r2.2.2.2.2.2.2.1;omega,r2.2.2.2.2.2.2.2⟩
     rw[←hE]at b2
     clear r1 r2 hE hv rd a1 a2 x1 low hx hm hm' m2 may hp eg0 eg1 o o2 hb ha rdb bs' k2 al bl lo2 low2 x2 p2 ea zv eg2 ovl
     generalize ((CC x.1:Nat):Int)=B at *
     simp (disch:=omega)only[go_sem,vq,AP.f178L0,b1,b2,a0,z0,lE,cE,st,z1,z2,E0,E2,k2',k3,k4,p1]
theorem HX (h : H) (hf : h.floor ≤ h.next) (v w : AV) (l : List vG) (bs : List Int) (hvs : v.sc = true) (hn : l.length < 1125899906842624) (rd : xb 9 h v l.length (vD l)) (hv : ∀ x ∈ l, xe h x ∧ x.2.sc = true) (rdb : Rd h w (ints bs)) (hbs : bs.length < 1125899906842624) :
 ∃ov h' acc,aS AP.A 178 [.agg [v],w] h=some (.bS [ov,.int .i64 (if v9 (l.map (·.1))&&yx bs then 0 else 1600)],h')∧SD 2 h ov h' acc.length (wB acc)∧acc.map (·.1)=(if v9 (l.map (·.1))&&yx bs then vP (l.map (·.1)) bs else [])∧∀x∈acc,HE h h' ov x:=by
 obtain⟨g1,eg1⟩:∃g,g=h.alloc [v]:=⟨_,rfl⟩
 have hx1:Ext h g1:=by rw[eg1];exact(Ext.refl h).alloc _
 have z1:g1.get h.next=some [v]:=by rw[eg1];exact vu rfl
 have f1:g1.floor=h.floor:=by rw[eg1];simp
 have n1:g1.next=h.next+1:=by rw[eg1];simp
 have rd1:=rd.mono fun i c q=>hx1 i c q
 have hv1:∀x∈l,xe g1 x∧x.2.sc=true:=fun x hx=>⟨(hv x hx).1.mono hx1,(hv x hx).2⟩
 have rdb1:Rd g1 w (ints bs):=rdb.mono fun i c q=>hx1 i c q
 have k1:=Ii g1 v l hvs hn rd1 hv1
 have k2:=HT g1 w bs rdb1 hbs
 have ln:=rd1.len
 cases hm:v9 (l.map (·.1))with
 | false =>
   rw[hm]at k1
   refine⟨.aQ,g1,[], ?_,⟨vT.nil,hx1,f1,by omega,fun i q=>by cases q⟩,rfl,fun x hx=>by cases hx⟩
   refine tw (fn:=AP.f178) (h2:=g1) (e:=[(4,.aQ),(5,.int .i64 1600)]) (vs:=[.aQ,.int .i64 1600]) rfl rfl rfl ?_ rfl
   clear rd rd1 hv hv1 hx1 rdb rdb1
   simp (disch:=omega)only[go_sem,vq,AP.f178,hvs,←eg1,z1,wS,k1,k2]
 | true =>
   rw[hm]at k1
   cases hb:yx bs with
   | false =>
     rw[hb]at k2
     refine⟨.aQ,g1,[], ?_,⟨vT.nil,hx1,f1,by omega,fun i q=>by cases q⟩,rfl,fun x hx=>by cases hx⟩
     refine tw (fn:=AP.f178) (h2:=g1) (e:=[(4,.aQ),(5,.int .i64 1600)]) (vs:=[.aQ,.int .i64 1600]) rfl rfl rfl ?_ rfl
     clear rd rd1 hv hv1 hx1 rdb rdb1
     simp (disch:=omega)only[go_sem,vq,AP.f178,hvs,←eg1,z1,wS,k1,k2]
   | true =>
     rw[hb]at k2
     obtain⟨e',g2,ov,acc,r1,r2,r3,r4,r5,r6,r7,r8,r9⟩:=Dw g1 rd1 hv1 hm rdb1 hbs l [] rfl g1 .aQ [] (Ext.refl _) (uK _) (by omega) vT.nil rfl (fun x hx=>by cases hx) (fun j q=>by cases q)
     have r1':Lp AP.A [1,6,18,19,20] AP.f178L0 [(1,w),(6,.aQ),(18,v),(19,.int .i64 l.length),(20,.int .i64 0)] g1=some (.exit 0,e',g2):=r1
     refine⟨ov,g2,acc, ?_,⟨r3,fun i c q=>r6 i c (hx1 i c q),by rw[r7,f1],by omega,fun j q=>by have:=r9 j q;omega⟩,r4,fun x hx=> ?_⟩
     · refine tw (fn:=AP.f178) (h2:=g2) (e:=[(4,ov),(5,.int .i64 0)]) (vs:=[ov,.int .i64 0]) rfl rfl rfl ?_ rfl
       clear rd rd1 hv hv1 hx1 rdb rdb1 r1 r3 r4 r5 r6
       simp (disch:=omega)only[go_sem,vq,AP.f178,hvs,←eg1,z1,wS,k1,k2,ln,rV,r1',r2]
     · have b:=r5 x hx
       obtain⟨j,q1,q2,q3,q4,q5⟩:=b.ex
       exact⟨⟨j,q1,q2,by omega,q4,q5⟩,b.l4⟩
theorem Nh (h:H) (hf:h.floor≤h.next) (v:AV) (l:List vG) (hvs:v.sc=true) (hn:l.length<1125899906842624) (rd:xb 9 h v l.length (vD l)) (hv:∀x∈l,xe h x∧x.2.sc=true) (hm:v9 (l.map (·.1))=true):
 ∃i h',aS AP.A 177 [.agg [v]] h=some (.bS [.aF i 0 8 1,.int .i64 0],h')∧h'.get i=some (ints (wo (l.map (·.1))))∧Ext h h'∧h'.floor=h.floor∧h.next≤h'.next∧h.next≤i:=by
 obtain⟨w,h',k,g⟩:=Fm h hf v l hvs hn rd hv
 simp only[hm,if_true]at k g
 rw[vR]at g
 obtain⟨_,⟨_,q⟩|⟨i,q1,q2,_⟩⟩:=g.own
 · cases q
 · subst q1;exact⟨i,h',k,q2,g.ext,g.fl,g.nx,g.ge i rfl⟩
theorem Ng (h:H) (hf:h.floor≤h.next) (v:AV) (l:List vG) (hvs:v.sc=true) (hn:l.length<1125899906842624) (rd:xb 9 h v l.length (vD l)) (hv:∀x∈l,xe h x∧x.2.sc=true) (hm:v9 (l.map (·.1))=false):
 ∃h',aS AP.A 177 [.agg [v]] h=some (.bS [.aQ,.int .i64 1600],h')∧Ext h h'∧h'.floor=h.floor∧h.next≤h'.next:=by
 obtain⟨w,h',k,g⟩:=Fm h hf v l hvs hn rd hv
 simp only[hm,uH,vh]at k g
 obtain⟨_,⟨q,_⟩|⟨i,_,_,_,q⟩⟩:=g.own
 · subst q;exact⟨h',k,g.ext,g.fl,g.nx⟩
 · simp at q
theorem HY (h:H) (hf:h.floor≤h.next) (v w:AV) (l:List vG) (bs:List Int) (hvs:v.sc=true) (hn:l.length<1125899906842624) (rd:xb 9 h v l.length (vD l)) (hv:∀x∈l,xe h x∧x.2.sc=true) (rdb:Rd h w (ints bs)) (hbs:bs.length<1125899906842624) (hm:(v9 (l.map (·.1))&&yx bs)=true):
 ∃ov h' acc,aS AP.A 178 [.agg [v],w] h=some (.bS [ov,.int .i64 0],h')∧SD 2 h ov h' acc.length (wB acc)∧acc.map (·.1)=vP (l.map (·.1)) bs∧∀x∈acc,HE h h' ov x:=by
 have:=HX h hf v w l bs hvs hn rd hv rdb hbs
 simpa only[hm,if_true]using this
structure zh where
 kind:Int
 src:Int
 dst:Int
 root:Int
 wE:List Int
 wP:List Int
 vB:List FP
 names:List ByteArray
 wx:List vN
def wG:Option ByteArray→List ByteArray→Bool
 |_,[]=>true
 |p,s::r=>(wz s&&(match p with|none=>true|some q=>Op.bytesLess q.toList s.toList))&&wG (some s) r
def yB (m:zh):Bool:=
 (decide (m.kind=0)||decide (m.root=0))&&((decide (m.kind=1)||decide (m.wE.length=0))&&((decide (m.kind=2)||decide (m.wP.length+m.vB.length=0))&&((decide (m.kind=3)||decide (m.names.length=0))&&(decide (m.kind=4)||decide (m.wx.length=0)))))
def yc (m:zh):Bool:=
 if m.kind=0 then z9 m.root
 else if m.kind=1 then decide (m.wE.length=8)&&m.wE.all z9
 else if m.kind=2 then decide (1≤m.wP.length)&&(yx m.wP&&(wG none (m.vB.map (·.1))&&(decide (m.vB.length≤6)&&m.vB.all fun b=>xa b.2)))
 else if m.kind=3 then wG none m.names&&(decide (1≤m.names.length)&&decide (m.names.length≤6))
 else if m.kind=4 then decide (1≤m.wx.length)&&v9 m.wx
 else false
def zU (m:zh):Bool:=(wL m.src&&(wL m.dst&& !decide (m.src=m.dst)))&&(yc m&&yB m)
structure TO (e:vN):Prop where
 nm:e.name.size≤8
 pk:e.packed.size≤300
 v4:e.vec.length=4
 vc:∀n∈e.vec,0≤n∧n≤1048576
 st:1≤e.vQ∧e.vQ≤1048576
 nd:0≤e.node∧e.node<4
 mt:e.method=0∨e.method=8
 sz:0≤e.size∧e.size≤300
 cr:0≤e.zt∧e.zt≤4294967295
theorem Df:∀{l:List ByteArray} {p:Option ByteArray},wG p l=true→∀s∈l,s.size≤8
 |[],_,_,s,h=>by cases h
 | x :: l, p, hr, s, h => by
   unfold wG at hr
   rw[uL,uL]at hr
   rcases u5.1 h with rfl|h
   · have:=xi hr.1.1;omega
   · exact Df hr.2 s h
structure SA (h0 h:H) (ov:AV) (x:vG):Prop where
 ok:xe h x
 sc:x.2.sc=true
 id:∀i,x.2.id?=some i→h0.next≤i∧i<h.next∧ov.id?≠some i∧h.floor≤i
 wr:∃i cs,x.2=.aF i 0 x.1.vec.length 1∧h.get i=some cs∧(0<x.1.vec.length→cs=ints x.1.vec)
theorem SA.mono {h0 h g:H} {ov ov':AV} {x:vG} (b:SA h0 h ov x) (hf:g.floor=h.floor) (hn:h.next≤g.next) (hg:∀j c,ov.id?≠some j→h.get j=some c→g.get j=some c) (ho:∀j,j<h.next→ov.id?≠some j→ov'.id?≠some j):SA h0 g ov' x:=by
 obtain⟨i,cs,e1,e2,e3⟩:=b.wr
 have q:=b.id i (by rw[e1];rfl)
 have e4:=hg i cs q.2.2.1 e2
 exact⟨b.ok.Cb fun k q'=>(by rw[e1]at q';obtain rfl:=uz q';rw[e4,e2]),b.sc,fun i q=>⟨(b.id i q).1,by have:=(b.id i q).2.1;omega,ho i (b.id i q).2.1 (b.id i q).2.2.1,by rw[hf];exact(b.id i q).2.2.2⟩,⟨i,cs,e1,e4,e3⟩⟩
structure GV (h:H) (v:AV) (l:List xR):Prop where
 rd:xb 2 h v l.length (wB l)
 vec:∀x∈l,Rd h x.2 (ints x.1.2)∧x.1.2.length<1125899906842624
theorem GV.mono {h g:H} {v:AV} {l:List xR} (r:GV h v l) (e:Ext h g):GV g v l:=⟨r.rd.mono fun i c q=>e i c q,fun x hx=>⟨(r.vec x hx).1.mono fun i c q=>e i c q,(r.vec x hx).2⟩⟩
theorem GV.at_ {h:H} {v:AV} {l:List xR} (r:GV h v l):∃ad:Int→Nat→AV,(∀i:Int,0≤i∧i<l.length→fZ 2 v (.int .i64 i)=some (ad i 0)∧ft 0 (ad i 0)=some (ad i 0)∧ft 1 (ad i 0)=some (ad i 1))∧
 (∀(i:Nat) (x:xR),l[i]?=some x→bX false 1 (ad i 0) h=some (.str x.1.1)∧bX false 1 (ad i 1) h=some x.2):=by
 obtain⟨ad,a1,a2,a4,a3⟩:=r.rd.at_
 refine⟨ad,fun i hi=>⟨a1 i hi,a2 i 0 0 hi,a2 i 0 1 hi⟩,fun i x hx=> ?_⟩
 have hi:i<l.length:=(uF.1 hx).1
 have g:=fun k (hk:k<2)=>y3 (f:=k) zJ hx hk
 refine⟨(a3 h fun _ _ q=>q).1 i 0 _ ⟨by omega,by omega⟩ ?_,(a3 h fun _ _ q=>q).1 i 1 _ ⟨by omega,by omega⟩ ?_⟩
 · rw[wO];exact g 0 (by omega)
 · rw[wO];exact g 1 (by omega)
theorem Gy {v w : AV} {a b : List xR} (hab : a.length = b.length) (hl : a.length < 1125899906842624) (h : H) (ra : GV h v a) (rb : GV h w b) : ∀ (q r p p' : List xR), a = p ++ q → b = p' ++ r → p.length = p'.length →
 (∃e',Lp AP.A [0,1,5] AP.f182L0 [(0,v),(1,w),(5,.int .i64 p.length)] h=some (.exit 0,e',h)∧q.map (·.1)=r.map (·.1))∨
 (∃e',Lp AP.A [0,1,5] AP.f182L0 [(0,v),(1,w),(5,.int .i64 p.length)] h=some (.ret,e',h)∧look e' 4=.bool false∧q.map (·.1)≠r.map (·.1))
 | [], r, p, p', ha, hb, hp => by
   rw[UI]at ha;subst ha
   have hr:r=[]:=by
    have:b.length=p'.length+r.length:=by rw[hb];simp
    exact UO (by omega)
   have ln:=ra.rd.len
   refine .inl ⟨[(0,v),(1,w),(5,.int .i64 a.length),(14,.bool false)],tc ?_,by rw[hr]⟩
   simp (disch:=omega)only[go_sem,vq,AP.f182L0,ln]
 | x :: q, [], p, p', ha, hb, hp => by
   exfalso
   have h1:a.length=p.length+(q.length+1):=by rw[ha];simp
   have h2:b.length=p'.length:=by rw[hb];simp
   omega
 | x :: q, y :: r, p, p', ha, hb, hp => by
   have h1:a.length=p.length+(q.length+1):=by rw[ha];simp
   have hx:a[p.length]?=some x:=by rw[ha];simp
   have hy:b[p.length]?=some y:=by rw[hb,hp];simp
   have ln:=ra.rd.len
   obtain⟨ad,a1,a2⟩:=ra.at_
   obtain⟨bd,b1,b2⟩:=rb.at_
   obtain⟨a3,a4,a5⟩:=a1 p.length ⟨by omega,by omega⟩
   obtain⟨b3,b4,b5⟩:=b1 p.length ⟨by omega,by omega⟩
   obtain⟨a6,a7⟩:=a2 p.length x hx
   obtain⟨b6,b7⟩:=b2 p.length y hy
   obtain⟨vx,lx⟩:=ra.vec x (by rw[ha];simp)
   obtain⟨vy,ly⟩:=rb.vec y (by rw[hb];simp)
   have k1:=zR h x.2 y.2 x.1.2 y.1.2 vx vy lx
   have en:br .neq (.str x.1.1) (.str y.1.1)=some (.bool (!(x.1.1.data.toList==y.1.1.data.toList))):=AD _ _
   have ih:=Gy hab hl h ra rb q r (p++[x]) (p'++[y]) (by rw[ha];simp) (by rw[hb];simp) (by simp [hp])
   have w1:((p++[x]).length:Int)=(p.length:Int)+1:=by simp
   rw[w1]at ih
   obtain⟨B1,hB1⟩:∃B,B=(x.1.1.data.toList==y.1.1.data.toList):=⟨_,rfl⟩
   rw[←hB1]at en
   have key:x.1=y.1↔B1=true∧x.1.2=y.1.2:=by
    constructor
    · intro e;rw[hB1,e];simp
    · rintro ⟨e1,e2⟩
      have e3:x.1.1=y.1.1:=by
       rw[hB1,beq_iff_eq]at e1
       have e4:x.1.1.data=y.1.1.data:=Array.ext' e1
       cases h1:x.1.1;cases h2:y.1.1;rw[h1,h2]at e4;simp_all
      exact Prod.ext e3 e2
   by_cases hk:x.1=y.1
   · obtain⟨k2,k3⟩:=key.1 hk
     rw[k2]at en
     rw[dt k3]at k1
     have step:aM (aS AP.A) bD AP.f182L0 (ay [(0,v),(1,w),(5,.int .i64 p.length)] [0,1,5]) h=some (.normal,[(0,v),(1,w),(5,.int .i64 ((p.length:Int)+1))],h):=by
      clear ih ra rb a1 a2 b1 b2 vx vy ha hb key
      simp (disch:=omega)only[go_sem,vq,AP.f182L0,ln,a3,a4,a5,a6,a7,b3,b4,b5,b6,b7,en,k1]
     rw[UL,UL]
     rcases ih with ⟨e',r1,r2⟩|⟨e',r1,r2,r3⟩
     · exact .inl ⟨e',td step r1,by rw[hk,r2]⟩
     · exact .inr ⟨e',td step r1,r2,fun q=>r3 (List.cons.inj q).2⟩
   · refine .inr ⟨[(4,.bool false)],tF ?_,rfl,fun q=>hk (List.cons.inj q).1⟩
     cases B1 with
     | false =>
       clear ih ra rb a1 a2 b1 b2 vx vy ha hb key
       simp (disch:=omega)only[go_sem,vq,AP.f182L0,ln,a3,a4,a5,a6,a7,b3,b4,b5,b6,b7,en,k1]
     | true =>
       rw[df (fun q=>hk (key.2 ⟨rfl,q⟩))]at k1
       clear ih ra rb a1 a2 b1 b2 vx vy ha hb key
       simp (disch:=omega)only[go_sem,vq,AP.f182L0,ln,a3,a4,a5,a6,a7,b3,b4,b5,b6,b7,en,k1]
theorem Kv (h:H) (v w:AV) (a b:List xR) (ra:GV h v a) (rb:GV h w b) (hl:a.length<1125899906842624):aS AP.A 182 [v,w] h=some (.bool (decide (a.map (·.1)=b.map (·.1))),h):=by
 have xf:Ext h h.eh:=fun i c q=>q
 have l1:=(ra.mono xf).rd.len
 have l2:=(rb.mono xf).rd.len
 by_cases c:a.length=b.length
 · have c':(a.length:Int)=b.length:=by omega
   rcases Gy c hl h.eh (ra.mono xf) (rb.mono xf) a b [] [] rfl rfl rfl with ⟨e',r1,r2⟩|⟨e',r1,r2,r3⟩
   · have r1':Lp AP.A [0,1,5] AP.f182L0 [(0,v),(1,w),(5,.int .i64 0)] h.eh=some (.exit 0,e',h.eh):=r1
     rw[dt r2]
     refine tQ (fn:=AP.f182) (h2:=h.eh) (e:=[(4,.bool true)]) rfl rfl rfl ?_ rfl rfl
     clear ra rb r1 r2
     simp (disch:=omega)only[go_sem,vq,AP.f182,l1,l2,rV,r1']
   · have r1':Lp AP.A [0,1,5] AP.f182L0 [(0,v),(1,w),(5,.int .i64 0)] h.eh=some (.ret,e',h.eh):=r1
     rw[df r3]
     refine tQ (fn:=AP.f182) (h2:=h.eh) (e:=e') (vs:=[.bool false]) rfl rfl rfl ?_ (by simp only[AP.f182,cO,na,r2];rfl) rfl
     clear ra rb r1 r3
     simp (disch:=omega)only[go_sem,vq,AP.f182,l1,l2,rV,r1']
 · have c':¬(a.length:Int)=b.length:=by omega
   have e:a.map (·.1)≠b.map (·.1):=fun q=>c (by have:=U2 List.length q;simpa using this)
   rw[df e]
   refine tQ (fn:=AP.f182) (h2:=h.eh) (e:=[(4,.bool false)]) rfl rfl rfl ?_ rfl rfl
   clear ra rb
   simp (disch:=omega)only[go_sem,vq,AP.f182,l1,l2]
theorem J3:v9 []=true:=by decide+kernel
theorem PB {g:H} {n:Nat} {E:List AV} (hg:g.get n=some E) (hE:E.length=9):xb 9 g (.aF n 0 1 9) 1 E:=by
 refine⟨?_,by omega,fun _=>by simp⟩
 simp only[aT,if_true,hg,uG,uP,Nat.one_mul]
 rw[if_pos (by omega),UK,uZ (by omega)]
def Ss:ByteArray:=⟨#[116,101,120,116]⟩
def eF:vN:=Af nA 1 3 Ss
theorem Ac:∀{a b c:List UInt8},Op.bytesLess a b=true→Op.bytesLess b c=true→Op.bytesLess a c=true
 |_,[],_,h,_=>by simp [Op.bytesLess]at h
 |_,_::_,[],_,h=>by simp [Op.bytesLess]at h
 |[],y::b,z::c,_,_=>rfl
 | x :: a, y :: b, z :: c, h1, h2 => by
   simp only[Op.bytesLess,uX,UH,uL,beq_iff_eq]at h1 h2 ⊢
   rcases h1 with h1|⟨rfl,h1⟩
   · rcases h2 with h2|⟨rfl,h2⟩
     · exact .inl (UInt8.lt_trans h1 h2)
     · exact .inl h1
   · rcases h2 with h2|⟨rfl,h2⟩
     · exact .inl h2
     · exact .inr ⟨rfl,Ac h1 h2⟩
theorem Hv {p:Option vN} {x y:vN} {b:List vN} (h1:xE p x=true) (h2:wK (some x) (y::b)=true):wK p (y::b)=true:=by
 simp only[wK,uL]at h2 ⊢
 refine⟨?_,h2.2⟩
 unfold xE at h1 h2 ⊢
 simp only[uL]at h1 h2 ⊢
 refine⟨h2.1.1, ?_,h2.1.2.2⟩
 cases p with
 |none=>rfl
 |some q=>exact Ac h1.2.1 h2.1.2.1
theorem Ca:∀{a b:List vN} {x:vN} {p:Option vN},wK p (a++x::b)=true→wK p (a++b)=true
 |[],[],x,p,h=>rfl
 | [], y :: b, x, p, h => by
   simp only[List.nil_append]at h ⊢
   rw[wK,uL]at h
   exact Hv h.1 h.2
 | z :: a, b, x, p, h => by
   simp only[List.cons_append,wK,uL]at h ⊢
   exact⟨h.1,Ca h.2⟩
theorem Aa : ∀ (a b : List UInt8), Op.bytesLess b a = !(Op.bytesLess a b || a == b)
 |[],[]=>rfl
 |[],_::_=>rfl
 |_::_,[]=>rfl
 | x :: a, y :: b => by
   have ih:=Aa a b
   simp only[Op.bytesLess]
   rw[ih]
   by_cases h1:x<y
   · have h2:¬y<x:=fun q=>absurd (UInt8.lt_trans h1 q) (UInt8.lt_irrefl _)
     have h3:¬y=x:=fun q=>by subst q;exact absurd h1 (UInt8.lt_irrefl _)
     simp [h1,h2,h3]
   · by_cases h2:y<x
     · have h3:¬x=y:=fun q=>by subst q;exact absurd h2 (UInt8.lt_irrefl _)
       simp [h1,h2,h3]
     · have h3:x=y:=UInt8.le_antisymm (UInt8.not_lt.1 h2) (UInt8.not_lt.1 h1)
       subst h3
       simp [h1]
def Ch (p:Option vN) (e:vN):Bool:=match p with|none=>true|some q=>Op.bytesLess q.name.toList e.name.toList
theorem Ia (p:Option vN) (e:vN):xE p e=(wR [e]&&Ch p e):=by
 rw[IC]
 unfold xE Ch
 cases wz e.name<;>cases wh e<;>cases xg e<;>cases p<;>simp
theorem GP {v : AV} {l : List vG} (hl : l.length ≤ 6) (h : H) (b : Nat) (hb : h.get b = some [v]) (rd : xb 9 h v l.length (vD l)) (hv : ∀ x ∈ l, xe h x ∧ x.2.sc = true) : ∀ (q p : List vG), l = p ++ q →
 (∃e',Lp AP.A [1,3] AP.f212L0 [(1,.aE b 0),(3,.int .i64 p.length)] h=some (.exit 0,e',h)∧wK (p.getLast?.map (·.1)) (q.map (·.1))=true)∨
 (∃e',Lp AP.A [1,3] AP.f212L0 [(1,.aE b 0),(3,.int .i64 p.length)] h=some (.ret,e',h)∧look e' 2=.bool false∧wK (p.getLast?.map (·.1)) (q.map (·.1))=false)
 | [], p, hp => by
   rw[UI]at hp;subst hp
   have ln:=rd.len
   refine .inl ⟨[(1,.aE b 0),(3,.int .i64 l.length),(12,.bool false)],tc ?_,rfl⟩
   simp (disch:=omega)only[go_sem,vq,AP.f212L0,hb,ln]
 | x :: q, p, hp => by
   have hlen:l.length=p.length+(q.length+1):=by rw[hp];simp
   have hx:l[p.length]?=some x:=by rw[hp];simp
   have ln:=rd.len
   obtain⟨ad,a1,a2⟩:=rd.Ff
   have b1:=a1 p.length ⟨by omega,by omega⟩
   obtain⟨pe,b2⟩:=a2 h (Ext.refl h) p.length x hx
   obtain⟨qq,f1,f2⟩:=pe.tl
   have l0:=f2 h (Ext.refl h) 0 _ rfl
   obtain⟨ok,sc⟩:=hv x (by rw[hp];simp)
   have k1:=Ir h x.1 x.2 sc ok
   have ih:=GP hl h b hb rd hv q (p++[x]) (by rw[hp];simp)
   have w1:((p++[x]).length:Int)=(p.length:Int)+1:=by simp
   rw[w1,List.getLast?_concat]at ih
   have step:aM (aS AP.A) bD AP.f212L0 (ay [(1,.aE b 0),(3,.int .i64 p.length)] [1,3]) h=if xE (p.getLast?.map (·.1)) x.1 then some (.normal,[(1,.aE b 0),(3,.int .i64 ((p.length:Int)+1))],h)else some (.ret,[(2,.bool false)],h):=by
    rw[Ia]
    generalize wR [x.1]=B at *
    cases hq:p.getLast? with
    | none =>
      have hp0:p=[]:=List.getLast?_eq_none_iff.1 hq
      have hp1:p.length=0:=by rw[hp0];rfl
      clear ih rd a1 a2 hp w1 pe f2 hv ok
      rw[UP,show Ch none x.1=true from rfl,Bool.and_true]
      generalize vw x.1 x.2=E at *
      cases B with
      | false =>
        rw[if_neg (by decide)]
        simp (disch:=omega)only[go_sem,vq,AP.f212L0,hb,ln,b1,b2,f1,l0,k1]
      | true =>
        rw[if_pos rfl]
        simp (disch:=omega)only[go_sem,vq,AP.f212L0,hb,ln,b1,b2,f1,l0,k1]
    | some y =>
      obtain⟨p',rfl⟩:∃p',p=p'++[y]:=List.getLast?_eq_some_iff.1 hq
      have hpl:(p'++[y]).length=p'.length+1:=by simp
      have hy:l[p'.length]?=some y:=by rw[hp];simp
      have bj:=a1 p'.length ⟨by omega,by omega⟩
      obtain⟨pj,_⟩:=a2 h (Ext.refl h) p'.length y hy
      obtain⟨qj,fj1,fj2⟩:=pj.tl
      have lj:=fj2 h (Ext.refl h) 0 _ rfl
      have n2:(((p'++[y]).length:Nat):Int)-1=(p'.length:Int):=by rw[hpl];omega
      have n3:0<(((p'++[y]).length:Nat):Int):=by rw[hpl];omega
      have cmp:br .leq (.str x.1.name) (.str y.1.name)=some (.bool (!(Ch (some y.1) x.1))):=by
       show _=some (AV.bool (!(Op.bytesLess y.1.name.toList x.1.name.toList)))
       rw[Aa x.1.name.toList y.1.name.toList,Bool.not_not];rfl
      clear ih rd a1 a2 hp w1 hx hy hq pe f2 pj fj2 hv ok
      rw[UG]
      generalize vw x.1 x.2=E at *
      generalize Ch (some y.1) x.1=B2 at *
      generalize (p'++[y]).length=pl at *
      cases B with
      | false =>
        rw[UJ,if_neg (by decide)]
        simp (disch:=omega)only[go_sem,vq,AP.f212L0,hb,ln,b1,b2,f1,l0,k1]
      | true =>
        cases B2 with
        | false =>
          rw[UM,if_neg (by decide)]
          simp (disch:=omega)only[go_sem,vq,AP.f212L0,hb,ln,b1,b2,f1,l0,k1,bj,fj1,lj,n2,cmp]
        | true =>
          rw[UW,if_pos rfl]
          simp (disch:=omega)only[go_sem,vq,AP.f212L0,hb,ln,b1,b2,f1,l0,k1,bj,fj1,lj,n2,cmp]
   have hmay:wK (p.getLast?.map (·.1)) ((x::q).map (·.1))=(xE (p.getLast?.map (·.1)) x.1&&wK (some x.1) (q.map (·.1))):=rfl
   rw[hmay]
   by_cases hok:xE (p.getLast?.map (·.1)) x.1=true
   · rw[if_pos hok]at step
     rw[hok,UQ]
     rcases ih with ⟨e',r1,r2⟩|⟨e',r1,r2,r3⟩
     · exact .inl ⟨e',td step r1,r2⟩
     · exact .inr ⟨e',td step r1,r2,r3⟩
   · have hok':xE (p.getLast?.map (·.1)) x.1=false:=by simpa using hok
     rw[if_neg hok]at step
     rw[hok',UJ]
     exact .inr ⟨_,tF step,rfl,rfl⟩
theorem Jx (h:H) (v:AV) (l:List vG) (hvs:v.sc=true) (hn:l.length<1125899906842624) (rd:xb 9 h v l.length (vD l)) (hv:∀x∈l,xe h x∧x.2.sc=true):aS AP.A 212 [.agg [v]] h=some (.bool (wR (l.map (·.1))),h):=by
 obtain⟨h1,eh1⟩:∃g,g=h.eh.alloc [v]:=⟨_,rfl⟩
 have hx0:Ext h h1:=by rw[eh1];exact fun i c q=>((Ext.refl h.eh).alloc _) i c q
 have hn0:h.eh.next=h.next:=rfl
 have g1:h1.get h.next=some [v]:=by rw[eh1];exact vu rfl
 have rd1:=rd.mono fun i c q=>hx0 i c q
 have ln:=rd1.len
 unfold wR
 rw[UF]
 by_cases c:l.length≤6
 · have c':¬(6:Int)<l.length:=by omega
   rw[dt c,Bool.and_true]
   rcases GP c h1 h.next g1 rd1 (fun x hx=>⟨(hv x hx).1.mono hx0,(hv x hx).2⟩) l [] rfl with ⟨e',r1,r2⟩|⟨e',r1,r2,r3⟩
   · have r1':Lp AP.A [1,3] AP.f212L0 [(1,.aE h.next 0),(3,.int .i64 0)] h1=some (.exit 0,e',h1):=r1
     have r2':wK none (l.map (·.1))=true:=r2
     rw[r2']
     refine tQ (fn:=AP.f212) (h2:=h1) (e:=[(2,.bool true)]) rfl rfl rfl ?_ rfl rfl
     clear rd rd1 hv hx0 r1 r2 r2'
     simp (disch:=omega)only[go_sem,vq,AP.f212,hvs,hn0,←eh1,g1,ln,rV,r1']
   · have r1':Lp AP.A [1,3] AP.f212L0 [(1,.aE h.next 0),(3,.int .i64 0)] h1=some (.ret,e',h1):=r1
     have r3':wK none (l.map (·.1))=false:=r3
     rw[r3']
     refine tQ (fn:=AP.f212) (h2:=h1) (e:=e') (vs:=[.bool false]) rfl rfl rfl ?_ (by simp only[AP.f212,cO,na,r2];rfl) rfl
     clear rd rd1 hv hx0 r1 r3 r3'
     simp (disch:=omega)only[go_sem,vq,AP.f212,hvs,hn0,←eh1,g1,ln,rV,r1']
 · have c':(6:Int)<l.length:=by omega
   rw[df c,UM]
   refine tQ (fn:=AP.f212) (h2:=h1) (e:=[(2,.bool false)]) rfl rfl rfl ?_ rfl rfl
   clear rd rd1 hv hx0
   simp (disch:=omega)only[go_sem,vq,AP.f212,hvs,hn0,←eh1,g1,ln]
theorem F4 {v:AV} {l:List vG} (h:H) (b:Nat) (hb:h.get b=some [v]) (rd:xb 9 h v l.length (vD l)) (hm:wR (l.map (·.1))=true):∀(q p:List vG),l=p++q→
 ∃e',Lp AP.A [1,3,4] AP.f213L0 [(1,.aE b 0),(3,.int .i64 (22+AE (p.map (·.1)):Nat)),(4,.int .i64 p.length)] h=some (.exit 0,e',h)∧look e' 3=.int .i64 (xF (l.map (·.1)):Nat)
 | [], p, hp => by
   rw[UI]at hp;subst hp
   have ln:=rd.len
   refine⟨[(1,.aE b 0),(3,.int .i64 (22+AE (l.map (·.1)):Nat)),(4,.int .i64 l.length),(12,.bool false)],tc ?_,rfl⟩
   simp (disch:=omega)only[go_sem,vq,AP.f213L0,hb,ln]
 | x :: q, p, hp => by
   obtain⟨m1,m2,m3⟩:=vZ hm
   have hx:l[p.length]?=some x:=by rw[hp];simp
   have hlen:l.length=p.length+(q.length+1):=by rw[hp];simp
   rw[UF]at m1
   obtain⟨_,_,c3⟩:=m2 x.1 (by rw[hp];simp)
   have c1:=xi (m2 x.1 (by rw[hp];simp)).1
   have c2:=yW c3
   have ln:=rd.len
   obtain⟨ad,a1,a2⟩:=rd.Ff
   have b1:=a1 p.length ⟨by omega,by omega⟩
   obtain⟨pe,_⟩:=a2 h (Ext.refl h) p.length x hx
   obtain⟨qq,f1,f2⟩:=pe.tl
   have l0:=f2 h (Ext.refl h) 0 _ rfl
   have l6:=f2 h (Ext.refl h) 6 _ rfl
   obtain⟨e',r1,r2⟩:=F4 h b hb rd hm q (p++[x]) (by rw[hp];simp)
   have sz:xF (l.map (·.1))=22+(AE (p.map (·.1))+(JB x.1+AE (q.map (·.1)))):=by unfold xF;rw[hp,UX,BB,UL,AE]
   have e1:22+AE ((p++[x]).map (·.1))=22+AE (p.map (·.1))+JB x.1:=by rw[UX,BB];simp [AE];omega
   have n1:((p++[x]).length:Int)=(p.length:Int)+1:=by simp
   rw[e1,n1]at r1
   have se:JB x.1=128+2* x.1.name.size+x.1.packed.size:=rfl
   obtain⟨N,hN⟩:∃N,N=22+AE (p.map (·.1)):=⟨_,rfl⟩
   rw[←hN]at r1 ⊢
   have hN2:N≤4096:=by omega
   have w:(N:Int)+76+2* (x.1.name.size:Int)+52+(x.1.packed.size:Int)=((N+JB x.1:Nat):Int):=by omega
   refine⟨e',td ?_ r1,r2⟩
   clear r1 r2 e1 sz hN rd a1 a2 f2 pe m2 m3 hm hp n1
   simp (disch:=omega)only[go_sem,vq,AP.f213L0,hb,ln,b1,f1,l0,l6,w]
theorem JS (h:H) (v:AV) (l:List vG) (hvs:v.sc=true) (hn:l.length<1125899906842624) (rd:xb 9 h v l.length (vD l)) (hv:∀x∈l,xe h x∧x.2.sc=true) (hm:wR (l.map (·.1))=true):aS AP.A 213 [.agg [v]] h=some (.int .i64 (xF (l.map (·.1)):Nat),h):=by
 obtain⟨h1,eh1⟩:∃g,g=h.eh.alloc [v]:=⟨_,rfl⟩
 have hx0:Ext h h1:=by rw[eh1];exact fun i c q=>((Ext.refl h.eh).alloc _) i c q
 have hn0:h.eh.next=h.next:=rfl
 have g1:h1.get h.next=some [v]:=by rw[eh1];exact vu rfl
 have rd1:=rd.mono fun i c q=>hx0 i c q
 have k1:=Jx h1 v l hvs hn rd1 (fun x hx=>⟨(hv x hx).1.mono hx0,(hv x hx).2⟩)
 rw[hm]at k1
 obtain⟨e',r1,r2⟩:=F4 h1 h.next g1 rd1 hm l [] rfl
 have r1':Lp AP.A [1,3,4] AP.f213L0 [(1,.aE h.next 0),(3,.int .i64 22),(4,.int .i64 0)] h1=some (.exit 0,e',h1):=r1
 clear r1 hm
 generalize xF (l.map (·.1))=N at *
 refine tQ (fn:=AP.f213) (h2:=h1) (e:=[(2,.int .i64 N)]) (vs:=[.int .i64 N]) rfl rfl rfl ?_ rfl rfl
 clear rd rd1 hv hx0
 simp (disch:=omega)only[go_sem,vq,AP.f213,hvs,hn0,←eh1,g1,wS,k1,rV,r1',r2]
theorem F9 {v : AV} {l : List vG} (hl : l.length ≤ 6) (h : H) (b : Nat) (hb : h.get b = some [v]) (rd : xb 9 h v l.length (vD l)) (hv : ∀ x ∈ l, xe h x ∧ x.2.sc = true) : ∀ (q p : List vG), l = p ++ q →
 (∃e',Lp AP.A [1,3] AP.f205L0 [(1,.aE b 0),(3,.int .i64 p.length)] h=some (.exit 0,e',h)∧(q.map (·.1)).all wZ=true)∨
 (∃e',Lp AP.A [1,3] AP.f205L0 [(1,.aE b 0),(3,.int .i64 p.length)] h=some (.ret,e',h)∧look e' 2=.bool false∧(q.map (·.1)).all wZ=false)
 | [], p, hp => by
   rw[UI]at hp;subst hp
   have ln:=rd.len
   refine .inl ⟨[(1,.aE b 0),(3,.int .i64 l.length),(16,.bool false)],tc ?_,rfl⟩
   simp (disch:=omega)only[go_sem,vq,AP.f205L0,hb,ln]
 | x :: q, p, hp => by
   have hlen:l.length=p.length+(q.length+1):=by rw[hp];simp
   have hx:l[p.length]?=some x:=by rw[hp];simp
   have ln:=rd.len
   obtain⟨ad,a1,a2⟩:=rd.Ff
   have b1:=a1 p.length ⟨by omega,by omega⟩
   obtain⟨_,b2⟩:=a2 h (Ext.refl h) p.length x hx
   obtain⟨ok,sc⟩:=hv x (by rw[hp];simp)
   have k1:=JU h x.1 x.2 sc ok
   have ih:=F9 hl h b hb rd hv q (p++[x]) (by rw[hp];simp)
   have w1:((p++[x]).length:Int)=(p.length:Int)+1:=by simp
   rw[w1]at ih
   rw[UL,List.all_cons]
   cases hm:wZ x.1 with
   | false =>
     rw[hm]at k1
     refine .inr ⟨[(2,.bool false)],tF ?_,rfl,rfl⟩
     clear ih rd a1 a2 hv hp ok
     generalize vw x.1 x.2=E at *
     simp (disch:=omega)only[go_sem,vq,AP.f205L0,hb,ln,b1,b2,k1]
   | true =>
     rw[hm]at k1
     rw[UQ]
     have step:aM (aS AP.A) bD AP.f205L0 (ay [(1,.aE b 0),(3,.int .i64 p.length)] [1,3]) h=some (.normal,[(1,.aE b 0),(3,.int .i64 ((p.length:Int)+1))],h):=by
      clear ih rd a1 a2 hv hp ok
      generalize vw x.1 x.2=E at *
      simp (disch:=omega)only[go_sem,vq,AP.f205L0,hb,ln,b1,b2,k1]
     rcases ih with ⟨e',r1,r2⟩|⟨e',r1,r2,r3⟩
     · exact .inl ⟨e',td step r1,r2⟩
     · exact .inr ⟨e',td step r1,r2,r3⟩
theorem DD (h:H) (v:AV) (l:List vG) (hvs:v.sc=true) (hn:l.length<1125899906842624) (rd:xb 9 h v l.length (vD l)) (hv:∀x∈l,xe h x∧x.2.sc=true):aS AP.A 205 [.agg [v]] h=some (.bool (v9 (l.map (·.1))),h):=by
 obtain⟨h1,eh1⟩:∃g,g=h.eh.alloc [v]:=⟨_,rfl⟩
 have hx0:Ext h h1:=by rw[eh1];exact fun i c q=>((Ext.refl h.eh).alloc _) i c q
 have hn0:h.eh.next=h.next:=rfl
 have g1:h1.get h.next=some [v]:=by rw[eh1];exact vu rfl
 have rd1:=rd.mono fun i c q=>hx0 i c q
 have hv1:∀x∈l,xe h1 x∧x.2.sc=true:=fun x hx=>⟨(hv x hx).1.mono hx0,(hv x hx).2⟩
 have k1:=Jx h1 v l hvs hn rd1 hv1
 unfold v9
 cases hm:wR (l.map (·.1))with
 | false =>
   rw[hm]at k1
   rw[UJ]
   refine tQ (fn:=AP.f205) (h2:=h1) (e:=[(2,.bool false)]) rfl rfl rfl ?_ rfl rfl
   clear rd rd1 hv hv1 hx0
   simp (disch:=omega)only[go_sem,vq,AP.f205,hvs,hn0,←eh1,g1,wS,k1]
 | true =>
   rw[hm]at k1
   rw[UQ]
   have k2:=JS h1 v l hvs hn rd1 hv1 hm
   obtain⟨m1,_,m3⟩:=vZ hm
   rw[UF]at m1
   generalize xF (l.map (·.1))=N at *
   rcases F9 m1 h1 h.next g1 rd1 hv1 l [] rfl with ⟨e',r1,r2⟩|⟨e',r1,r2,r3⟩
   · have r1':Lp AP.A [1,3] AP.f205L0 [(1,.aE h.next 0),(3,.int .i64 0)] h1=some (.exit 0,e',h1):=r1
     rw[r2]
     refine tQ (fn:=AP.f205) (h2:=h1) (e:=[(2,.bool true)]) rfl rfl rfl ?_ rfl rfl
     clear rd rd1 hv hv1 hx0 r1 r2
     simp (disch:=omega)only[go_sem,vq,AP.f205,hvs,hn0,←eh1,g1,wS,k1,k2,rV,r1']
   · have r1':Lp AP.A [1,3] AP.f205L0 [(1,.aE h.next 0),(3,.int .i64 0)] h1=some (.ret,e',h1):=r1
     rw[r3]
     refine tQ (fn:=AP.f205) (h2:=h1) (e:=e') (vs:=[.bool false]) rfl rfl rfl ?_ (by simp only[AP.f205,cO,na,r2];rfl) rfl
     clear rd rd1 hv hv1 hx0 r1 r3
     simp (disch:=omega)only[go_sem,vq,AP.f205,hvs,hn0,←eh1,g1,wS,k1,k2,rV,r1']
theorem Ha (h:H) (s:ByteArray) (hs:s.size<1125899906842624):aS AP.A 200 [.str s] h=some (.int .i64 ((xG s%8:Nat):Int),h):=by
 have k1:=Fl h.eh s hs
 have rm:br .rem (.int .i64 (xG s:Int)) (.int .i64 8)=some (.int .i64 ((xG s%8:Nat):Int)):=by
  show(if(8:Int)=0 then none else some (AV.int .i64 ((xG s:Int).tmod 8)))=_
  rw[if_neg (by decide),Int.tmod_eq_emod_of_nonneg (by omega)];rfl
 generalize ((xG s%8:Nat):Int)=M at *
 refine tQ (fn:=AP.f200) (h2:=h.eh) (e:=[(2,.int .i64 M)]) rfl rfl rfl ?_ rfl rfl
 simp (disch:=omega)only[go_sem,vq,AP.f200,k1,rm]
theorem Eg {v : AV} {l : List Int} (hl : l.length < 1125899906842624) (h : H) (rd : Rd h v (ints l)) : ∀ (q p : List Int), l = p ++ q →
 (∃e',Lp AP.A [0,3] AP.f206L0 [(0,v),(3,.int .i64 p.length)] h=some (.exit 0,e',h)∧xH p.getLast? q=true)∨
 (∃e',Lp AP.A [0,3] AP.f206L0 [(0,v),(3,.int .i64 p.length)] h=some (.ret,e',h)∧look e' 2=.bool false∧xH p.getLast? q=false)
 | [], p, hp => by
   rw[UI]at hp;subst hp
   have r2:=rd.Ck
   rw[pC]at r2
   have ln:=r2.len
   refine .inl ⟨[(0,v),(3,.int .i64 l.length),(7,.bool false)],tc ?_,rfl⟩
   simp (disch:=omega)only[go_sem,vq,AP.f206L0,ln]
 | x :: q, p, hp => by
   have r2:=rd.Ck
   rw[pC]at r2
   have ln:=r2.len
   have hlen:l.length=p.length+(q.length+1):=by rw[hp];simp
   have hx:l[p.length]?=some x:=by rw[hp];simp
   obtain⟨ad,a1,a2⟩:=rd.wT
   have b1:=a1 p.length ⟨by omega,by omega⟩
   have b2:=a2 h (Ext.refl h) p.length x hx
   have ih:=Eg hl h rd q (p++[x]) (by rw[hp];simp)
   have w1:((p++[x]).length:Int)=(p.length:Int)+1:=by simp
   rw[w1,List.getLast?_concat]at ih
   rw[FW]
   have step : aM (aS AP.A) bD AP.f206L0 (ay [(0, v), (3, .int .i64 p.length)] [0, 3]) h = if JG p.getLast? x then some (.normal, [(0, v), (3, .int .i64 ((p.length : Int) + 1))], h) else some (.ret, [(2, .bool false)], h) := by
    unfold JG
    cases hq:p.getLast? with
    | none =>
      have hp0:p=[]:=List.getLast?_eq_none_iff.1 hq
      have hp1:p.length=0:=by rw[hp0];rfl
      clear ih rd r2 a1 a2 hp w1
      by_cases c1:0≤x
      · by_cases c2:x<8
        · simp only[dt c1,dt c2,UW,if_true]
          simp (disch:=omega)only[go_sem,vq,AP.f206L0,ln,b1,b2]
        · simp only[dt c1,df c2,UJ,UM,uH,vh]
          simp (disch:=omega)only[go_sem,vq,AP.f206L0,ln,b1,b2]
      · simp only[df c1,UJ,uH,vh]
        simp (disch:=omega)only[go_sem,vq,AP.f206L0,ln,b1,b2]
    | some y =>
      obtain⟨p',rfl⟩:∃p',p=p'++[y]:=List.getLast?_eq_some_iff.1 hq
      have hpl:(p'++[y]).length=p'.length+1:=by simp
      have hy:l[p'.length]?=some y:=by rw[hp];simp
      have bj:=a1 p'.length ⟨by omega,by omega⟩
      have lj:=a2 h (Ext.refl h) p'.length y hy
      have n2:(((p'++[y]).length:Nat):Int)-1=(p'.length:Int):=by rw[hpl];omega
      have n3:0<(((p'++[y]).length:Nat):Int):=by rw[hpl];omega
      clear ih rd r2 a1 a2 hp w1 hx hy hq
      generalize (p'++[y]).length=pl at *
      by_cases c1:0≤x
      · by_cases c2:x<8
        · by_cases c3:y<x
          · rw[dt c1,dt c2]
            simp only[dt c3,UW,if_true]
            simp (disch:=omega)only[go_sem,vq,AP.f206L0,ln,b1,b2,bj,lj,n2]
          · rw[dt c1,dt c2]
            simp only[df c3,UM,uH,vh]
            simp (disch:=omega)only[go_sem,vq,AP.f206L0,ln,b1,b2,bj,lj,n2]
        · simp only[dt c1,df c2,UJ,UM,uH,vh]
          simp (disch:=omega)only[go_sem,vq,AP.f206L0,ln,b1,b2]
      · simp only[df c1,UJ,uH,vh]
        simp (disch:=omega)only[go_sem,vq,AP.f206L0,ln,b1,b2]
   by_cases hok:JG p.getLast? x=true
   · rw[if_pos hok]at step
     rw[hok,UQ]
     rcases ih with ⟨e',r1,r2⟩|⟨e',r1,r2,r3⟩
     · exact .inl ⟨e',td step r1,r2⟩
     · exact .inr ⟨e',td step r1,r2,r3⟩
   · have hok':JG p.getLast? x=false:=by simpa using hok
     rw[if_neg hok]at step
     rw[hok',UJ]
     exact .inr ⟨_,tF step,rfl,rfl⟩
theorem JI (h:H) (v:AV) (l:List Int) (rd:Rd h v (ints l)) (hl:l.length<1125899906842624):aS AP.A 206 [v] h=some (.bool (yx l),h):=by
 have xf:Ext h h.eh:=fun i c q=>q
 have rdf:Rd h.eh v (ints l):=rd.mono fun i c q=>xf i c q
 unfold yx
 rcases Eg hl h.eh rdf l [] rfl with ⟨e',r1,r3⟩|⟨e',r1,r3,r4⟩
 · have r1':Lp AP.A [0,3] AP.f206L0 [(0,v),(3,.int .i64 0)] h.eh=some (.exit 0,e',h.eh):=r1
   have r3':xH none l=true:=r3
   rw[r3']
   refine tQ (fn:=AP.f206) (h2:=h.eh) (e:=[(2,.bool true)]) rfl rfl rfl ?_ rfl rfl
   clear rd rdf r1 r3
   simp (disch:=omega)only[go_sem,vq,AP.f206,rV,r1']
 · have r1':Lp AP.A [0,3] AP.f206L0 [(0,v),(3,.int .i64 0)] h.eh=some (.ret,e',h.eh):=r1
   have r4':xH none l=false:=r4
   rw[r4']
   refine tQ (fn:=AP.f206) (h2:=h.eh) (e:=e') (vs:=[.bool false]) rfl rfl rfl ?_ (by simp only[AP.f206,cO,na,r3];rfl) rfl
   clear rd rdf r1 r4
   simp (disch:=omega)only[go_sem,vq,AP.f206,rV,r1']
def HF (e:vN) (bs:List Int):List FP:=List.replicate (bs.count ((CC e:Nat):Int)) (e.name,e.vec)
theorem HW (e:vN) (p:List Int) (y:Int):HF e (p++[y])=if((CC e:Nat):Int)=y then HF e p++[(e.name,e.vec)]else HF e p:=by
 unfold HF
 rw[List.count_append,List.count_singleton]
 by_cases c:((CC e:Nat):Int)=y
 · rw[if_pos c,if_pos (by simp [c]),List.replicate_succ']
 · rw[if_neg c,if_neg (by simpa using fun q=>c q.symm)];rfl
theorem G5 {e:vN} {bs:List Int} (h:bs.Nodup):HF e bs=if bs.contains ((CC e:Nat):Int)then [(e.name,e.vec)]else []:=by
 unfold HF
 by_cases c:((CC e:Nat):Int)∈bs
 · rw[if_pos (by simpa using c),List.Nodup.count h,if_pos c];rfl
 · rw[if_neg (by simpa using c),List.count_eq_zero_of_not_mem c];rfl
theorem BQ {v w:AV} {l:List vG} {bs:List Int} (h0:H) (b:Nat) (hb:h0.get b=some [v]) (rd:xb 9 h0 v l.length (vD l)) (rdb:Rd h0 w (ints bs)) (hbs:bs.length≤8) (i:Nat) (x:vG) (hi:i<l.length) (hl:l[i]?=some x) (ok:xe h0 x) (v4:x.1.vec.length=4) (A0:List FP) (hA:A0.length≤100):∀(q p:List Int),bs=p++q→∀(h:H) (ov:AV) (acc:List xR),Ext h0 h→h.floor≤h.next→h0.next≤h.next→
 vT 2 h ov acc.length (wB acc)→acc.map (·.1)=A0++HF x.1 p→(∀y∈acc,HE h0 h ov y)→(∀j,ov.id?=some j→h0.next≤j)→h0.floor=h.floor→h.floor≤h0.next→
 ∃ e' h' ov' acc', Lp AP.A [1, 2, 6, 7, 8] AP.f199L0 [(1, w), (2, .aE b 0), (6, ov), (7, .int .i64 i), (8, .int .i64 p.length)] h = some (.exit 2, e', h') ∧ look e' 1 = w ∧ look e' 2 = .aE b 0 ∧ look e' 6 = ov' ∧ look e' 7 = .int .i64 i ∧
   vT 2 h' ov' acc'.length (wB acc')∧acc'.map (·.1)=A0++HF x.1 bs∧(∀y∈acc',HE h0 h' ov' y)∧Ext h0 h'∧h'.floor=h.floor∧h.next≤h'.next∧∀j,ov'.id?=some j→h0.next≤j
 | [], p, hp, h, ov, acc, hx, hf, hn, o, ha, hbk, hge, hfl, hf0 => by
   rw[UI]at hp;subst hp
   have r2:=(rdb.mono fun i c q=>hx i c q:Rd h w (ints bs)).Ck
   rw[pC]at r2
   have lnb:=r2.len
   refine⟨[(1,w),(2,.aE b 0),(6,ov),(7,.int .i64 i),(8,.int .i64 bs.length),(27,.bool false)],h,ov,acc,tc ?_,rfl,rfl,rfl,rfl,o,ha,hbk,hx,rfl,uK _,hge⟩
   simp (disch:=omega)only[go_sem,vq,AP.f199L0,lnb]
 | y :: q, p, hp, h, ov, acc, hx, hf, hn, o, ha, hbk, hge, hfl, hf0 => by
   have r2:=(rdb.mono fun i c q=>hx i c q:Rd h w (ints bs)).Ck
   rw[pC]at r2
   have lnb:=r2.len
   have hlen:bs.length=p.length+(q.length+1):=by rw[hp];simp
   have hy:bs[p.length]?=some y:=by rw[hp];simp
   have gb:=hx _ _ hb
   obtain⟨ad,a1,a2⟩:=rd.Ff
   have b1:=a1 i ⟨by omega,by omega⟩
   obtain⟨pe,_⟩:=a2 h hx i x hl
   obtain⟨qq,f1,f2⟩:=pe.tl
   have l0:=f2 h (Ext.refl h) 0 _ rfl
   have l2:=f2 h (Ext.refl h) 2 _ rfl
   obtain⟨bd,c1,c2⟩:=rdb.wT
   have c3:=c1 p.length ⟨by omega,by omega⟩
   have c4:=c2 h hx p.length y hy
   have k1:=Ha h x.1.name ok.nl
   have k1':aS AP.A 200 [.str x.1.name] h=some (.int .i64 ((CC x.1:Nat):Int),h):=k1
   have w1:((p++[y]).length:Int)=(p.length:Int)+1:=by simp
   have bs':=HW x.1 p y
   have al:=U2 List.length ha
   rw[UF,vg]at al
   have cl:(HF x.1 p).length≤p.length:=by unfold HF;rw[UU];exact List.count_le_length
   by_cases c:((CC x.1:Nat):Int)=y
   · rw [if_pos c] at bs'
     rw[c]at k1'
     obtain⟨g2,eg2⟩:∃g,g=((h.alloc []).del h.next).alloc (ints x.1.vec):=⟨_,rfl⟩
     have rv:=(ok.vec.mono fun i c q=>hx i c q:Rd h x.2 (ints x.1.vec)).Ck
     rw[pC]at rv
     have ap:=CI rv hf (by omega) (by omega) (z:=8) (by simp [roomy];omega) (z8 x.1.vec)
     rw[v4,←eg2]at ap
     have low2:∀i,i<h.next→g2.get i=h.get i:=fun i hi=>by rw[eg2,vO (by simp;omega),yM (by omega),vO (by omega)]
     have fl2:g2.floor=h.floor:=by rw[eg2];simp
     have n2:g2.next=h.next+2:=by rw[eg2];simp
     have zv:g2.get (h.next+1)=some (ints x.1.vec):=by rw[eg2,vu (by simp)]
     have x2:Ext h0 g2:=fun i c q=>by rw[low2 i (by have:=h0.lt _ _ q;omega)];exact hx i c q
     have gb2:=x2 _ _ hb
     have xA:Ext h (h.alloc []):=(Ext.refl h).alloc _
     have gbA:=xA _ _ gb
     have l2A:=f2 (h.alloc []) xA 2 _ rfl
     have xB:Ext h (g2.alloc [.str x.1.name,.aF (h.next+1) 0 4 1]):=fun i c q=>(Ext.refl g2).alloc _ _ _ (by rw[low2 i (h.lt _ _ q)];exact q)
     have gbB:=xB _ _ gb
     have l0B:=f2 _ xB 0 _ rfl
     obtain⟨pe2,_⟩:=a2 g2 x2 i x hl
     have l0':=f2 g2 (fun i c q=>by rw[low2 i (h.lt _ _ q)];exact q) 0 _ rfl
     have o2:vT 2 g2 ov acc.length (wB acc):=o.mono fl2 fun i q=>low2 i (o.lt q).2
     obtain⟨v',h',p1,p2,p3,p4,p5,p6⟩:=o2.push (by omega) (z:=40) (m:=1) (by omega) (by omega) [.str x.1.name,.aF (h.next+1) 0 4 1] rfl rfl (by simp [roomy];omega)
     have ea:wB acc++[.str x.1.name,.aF (h.next+1) 0 4 1]=wB (acc++[((x.1.name,x.1.vec),.aF (h.next+1) 0 4 1)]):=by rw[BJ];rfl
     rw[ea]at p2
     have ovl:∀j,ov.id?=some j→j<h.next:=fun j q=>(o.lt q).2
     obtain⟨e',h2,ov',acc',r1,r2⟩:=BQ h0 b hb rd rdb hbs i x hi hl ok v4 A0 hA q (p++[y]) (by rw[hp];simp) h' v' (acc++[((x.1.name,x.1.vec),.aF (h.next+1) 0 4 1)]) (fun i c q=>by
      have:=h0.lt _ _ q
      rw[p5 i (fun q2=>by have:=hge i q2;omega) (by omega)];exact x2 i c q) (by omega) (by omega) (by rw[vg,List.length_singleton];exact p2) (by rw[UX,List.map_singleton,bs',ha,List.append_assoc]) (fun z hz=>by
      rcases List.mem_append.1 hz with hz|hz
      · refine(hbk z hz).mono (by rw[p3,fl2]) (fun j q1 q2=>by rw[p5 j q2 (by omega),low2 j q1]) (fun j q1 _=>by rw[p6];intro q2;have:=uz q2;omega)
      · obtain rfl:z=_:=List.mem_singleton.1 hz
        refine⟨⟨h.next+1,rfl, ?_,by omega,by rw[p6];intro q2;have:=uz q2;omega,by rw[p3,fl2];omega⟩,v4⟩
        rw[p5 _ (fun q2=>by have:=ovl _ q2;omega) (by omega)]
        exact zv) (fun j q=>by rw[p6]at q;have:=uz q;omega) (by rw[p3,fl2,hfl]) (by rw[p3,fl2];exact hf0)
     rw[w1]at r1
     refine⟨e',h2,ov',acc',td ?_ r1,r2.1,r2.2.1,r2.2.2.1,r2.2.2.2.1,r2.2.2.2.2.1,r2.2.2.2.2.2.1,r2.2.2.2.2.2.2.1,r2.2.2.2.2.2.2.2.1,by rw[r2.2.2.2.2.2.2.2.2.1,p3,fl2],by have:=r2.2.2.2.2.2.2.2.2.2.1;omega,r2.2.2.2.2.2.2.2.2.2.2⟩
     clear r1 r2 rd a1 a2 pe pe2 f2 hx x2 xA xB o o2 hbk ha ea p2 rdb c1 c2 ok rv bs' k1 low2 zv eg2 ovl
     subst c
     generalize ((CC x.1:Nat):Int)=B at *
     simp (disch:=omega)only[go_sem,vq,AP.f199L0,lnb,gb,b1,f1,l0,l2,k1',c3,c4,gbA,l2A,ap,gbB,l0B,p1]
   · rw[if_neg c]at bs'
     obtain⟨e',h2,ov',acc',r1,r2⟩:=BQ h0 b hb rd rdb hbs i x hi hl ok v4 A0 hA q (p++[y]) (by rw[hp];simp) h ov acc hx hf hn o (by rw[bs'];exact ha) hbk hge hfl hf0
     rw[w1]at r1
     refine⟨e',h2,ov',acc',td ?_ r1,r2⟩
     clear r1 r2 rd a1 a2 pe f2 hx o hbk ha rdb c1 c2 ok bs' k1
     generalize ((CC x.1:Nat):Int)=B at *
     simp (disch:=omega)only[go_sem,vq,AP.f199L0,lnb,gb,b1,f1,l0,l2,k1',c3,c4]
theorem Dx (l:List vN) (e:vN) {bs:List Int} (h:bs.Nodup):vP (l++[e]) bs=vP l bs++HF e bs:=by
 rw[Bc,G5 h]
 split<;>simp
theorem Eo {v w:AV} {l:List vG} {bs:List Int} (hm:v9 (l.map (·.1))=true) (h0:H) (b:Nat) (hb:h0.get b=some [v]) (rd:xb 9 h0 v l.length (vD l)) (hv:∀x∈l,xe h0 x∧x.2.sc=true) (rdb:Rd h0 w (ints bs)) (hbs:bs.length≤8) (nd:bs.Nodup):∀(q p:List vG),l=p++q→∀(h:H) (ov:AV) (acc:List xR),Ext h0 h→h.floor≤h.next→h0.next≤h.next→
 vT 2 h ov acc.length (wB acc)→acc.map (·.1)=vP (p.map (·.1)) bs→(∀y∈acc,HE h0 h ov y)→(∀j,ov.id?=some j→h0.next≤j)→h.floor≤h0.next→h0.floor=h.floor→
 ∃e' h' ov' acc',Lp AP.A [1,2,6,7] AP.f199L1 [(1,w),(2,.aE b 0),(6,ov),(7,.int .i64 p.length)] h=some (.exit 0,e',h')∧look e' 6=ov'∧vT 2 h' ov' acc'.length (wB acc')∧acc'.map (·.1)=vP (l.map (·.1)) bs∧(∀y∈acc',HE h0 h' ov' y)∧h'.floor=h.floor
 | [], p, hp, h, ov, acc, hx, hf, hn, o, ha, hbk, hge, hf0, hfl => by
   rw[UI]at hp;subst hp
   have gb:=hx _ _ hb
   have ln:=(rd.mono fun i c q=>hx i c q).len
   refine⟨[(1,w),(2,.aE b 0),(6,ov),(7,.int .i64 l.length),(21,.bool false)],h,ov,acc,tc ?_,rfl,o,ha,hbk,rfl⟩
   simp (disch:=omega)only[go_sem,vq,AP.f199L1,gb,ln]
 | x :: q, p, hp, h, ov, acc, hx, hf, hn, o, ha, hbk, hge, hf0, hfl => by
   have hm':=hm
   unfold v9 at hm'
   rw[uL]at hm'
   obtain⟨m1,m2,m3⟩:=vZ hm'.1
   rw[UF]at m1
   have gb:=hx _ _ hb
   have hlx:l[p.length]?=some x:=by rw[hp];simp
   have hlen:l.length=p.length+(q.length+1):=by rw[hp];simp
   have ln:=(rd.mono fun i c q=>hx i c q).len
   have v4:x.1.vec.length=4:=(yb (m2 x.1 (by rw[hp];simp)).2.1).1
   obtain⟨ok,sc⟩:=hv x (by rw[hp];simp)
   have bl:=yU (p.map (·.1)) bs
   rw[UF]at bl
   have al:=U2 List.length ha
   rw[UF]at al
   obtain⟨e1,h1,ov1,acc1,r1,r2,r3,r4,r5,r6,r7,r8,r9,r10,r11,r12⟩:=BQ h0 b hb rd rdb hbs p.length x (by omega) hlx ok v4 (vP (p.map (·.1)) bs) (by omega) bs [] rfl h ov acc hx hf hn o (by rw[ha];unfold HF;simp) hbk hge hfl hf0
   rw[←Dx _ _ nd]at r7
   have r1':Lp AP.A [1,2,6,7,8] AP.f199L0 [(1,w),(2,.aE b 0),(6,ov),(7,.int .i64 p.length),(8,.int .i64 0)] h=some (.exit 2,e1,h1):=r1
   obtain⟨e',h',ov',acc',s1,s2⟩:=Eo hm h0 b hb rd hv rdb hbs nd q (p++[x]) (by rw[hp];simp) h1 ov1 acc1 r9 (by omega) (by omega) r6 (by rw[UX,List.map_singleton];exact r7) r8 r12 (by omega) (by rw[r10];exact hfl)
   have w1:((p++[x]).length:Int)=(p.length:Int)+1:=by simp
   rw[w1]at s1
   refine⟨e',h',ov',acc',td ?_ s1,s2.1,s2.2.1,s2.2.2.1,s2.2.2.2.1,by rw[s2.2.2.2.2,r10]⟩
   clear r1 s1 s2 rd hv rdb r6 r7 r8 r9 o ha hbk hm hm' m2 hx ok
   simp (disch:=omega)only[go_sem,vq,AP.f199L1,gb,ln,rV,r1',r2,r3,r4,r5]
def Hl (b:FP):xR:=(b,wJ b.2)
def BK (l:List FP):AV:=DV 2 l.length (wB (l.map Hl))
theorem AJ (l:List xR):(wB l).length=l.length* 2:=Fy zJ l
theorem Di {h:H} {fl:Nat} {h0:H} {ov:AV} (hfl:fl≤h0.next) (m:Nat):∀{acc:List xR},(∀y∈acc,HE h0 h ov y)→fP (snap h.get fl (m+3) false) (wB acc)=some (wB ((acc.map (·.1)).map Hl))
 |[],_=>rfl
 | y :: acc, hb => by
   obtain⟨j,e1,e2,e3,e4,e5⟩:=(hb y (by simp)).ex
   have l4:=(hb y (by simp)).l4
   have ih:=Di (ov:=ov) hfl m (acc:=acc) fun z hz=>hb z (by simp [hz])
   have s1:snap h.get fl (m+3) false y.2=some (wJ y.1.2):=by
    have o:vT 1 ⟨h.next,fl,h.cI,h.len⟩ (.aF j 0 4 1) 4 (ints y.1.2):=⟨by rw[pC];omega,.inr ⟨j,rfl,e2,by show fl≤j;omega,by omega⟩⟩
    have:=o.yt (fl:=fl) (m:=m+1) (t:=false) (uK _)
    rw[e1]
    have e:DV 1 4 (ints y.1.2)=wJ y.1.2:=by unfold DV wJ;rw[l4];rfl
    rw[e]at this;exact this
   show fP (snap h.get fl (m+3) false) (.str y.1.1::y.2::wB acc)=_
   have s0:snap h.get fl (m+3) false (.str y.1.1)=some (.str y.1.1):=rfl
   simp only[fP,s0,s1,ih,uG]
   rfl
def Ll (l:List vN) (bs:List Int):AV:=if v9 l&&yx bs then .bS [BK (vP l bs),.int .i64 0]else .bS [.aQ,.int .i64 1600]
theorem HZ (g:H) {l:List FP} (hl:∀b∈l,b.2.length<1125899906842624):GV g (BK l) (l.map Hl):=by
 refine⟨?_,fun x hx=> ?_⟩
 · unfold BK
   have:=DQ (n:=2) (k:=l.length) (h:=g) (cs:=wB (l.map Hl)) (by rw[AJ,UF])
   rw[UF];exact this
 · obtain⟨b,hb,rfl⟩:=UR.1 hx
   exact⟨xM g b.2,hl b hb⟩
theorem G6 (h : H) (v w : AV) (l : List vG) (bs : List Int) (hvs : v.sc = true) (hn : l.length < 1125899906842624) (rd : xb 9 h v l.length (vD l)) (hv : ∀ x ∈ l, xe h x ∧ x.2.sc = true) (rdb : Rd h w (ints bs)) (hbs : bs.length < 1125899906842624) : aS AP.A 199 [.agg [v], w] h = some (Ll (l.map (·.1)) bs, h) := by
 obtain⟨h1,eh1⟩:∃g,g=h.eh.alloc [v]:=⟨_,rfl⟩
 have hx0:Ext h h1:=by rw[eh1];exact fun i c q=>((Ext.refl h.eh).alloc _) i c q
 have hn0:h.eh.next=h.next:=rfl
 have f1:h1.floor=h.next:=by rw[eh1];simp
 have n1:h1.next=h.next+1:=by rw[eh1];simp
 have g1:h1.get h.next=some [v]:=by rw[eh1];exact vu rfl
 have rd1:=rd.mono fun i c q=>hx0 i c q
 have hv1:∀x∈l,xe h1 x∧x.2.sc=true:=fun x hx=>⟨(hv x hx).1.mono hx0,(hv x hx).2⟩
 have rdb1:Rd h1 w (ints bs):=rdb.mono fun i c q=>hx0 i c q
 have k1:=DD h1 v l hvs hn rd1 hv1
 have k2:=JI h1 w bs rdb1 hbs
 unfold Ll
 cases hm:v9 (l.map (·.1))with
 | false =>
   rw[hm]at k1
   refine tQ (fn:=AP.f199) (h2:=h1) (e:=[(4,.aQ),(5,.int .i64 1600)]) (vs:=[.aQ,.int .i64 1600]) rfl rfl rfl ?_ rfl rfl
   clear rd rd1 hv hv1 hx0 rdb rdb1
   simp (disch:=omega)only[go_sem,vq,AP.f199,hvs,hn0,←eh1,g1,wS,k1,k2]
 | true =>
   rw[hm]at k1
   cases hb:yx bs with
   | false =>
     rw[hb]at k2
     refine tQ (fn:=AP.f199) (h2:=h1) (e:=[(4,.aQ),(5,.int .i64 1600)]) (vs:=[.aQ,.int .i64 1600]) rfl rfl rfl ?_ rfl rfl
     clear rd rd1 hv hv1 hx0 rdb rdb1
     simp (disch:=omega)only[go_sem,vq,AP.f199,hvs,hn0,←eh1,g1,wS,k1,k2]
   | true =>
     rw[hb]at k2
     obtain⟨bf,nd⟩:=Bb hb
     have b8:bs.length≤8:=by
      have sub:bs.Subset [0,1,2,3,4,5,6,7]:=fun y hy=>by
       have:=bf y hy
       simp only[u5,List.not_mem_nil,or_false]
       omega
      have:=List.Nodup.length_le_of_subset nd sub
      simpa using this
     obtain⟨e',h2,ov,acc,r1,r2,r3,r4,r5,r6⟩:=Eo hm h1 h.next g1 rd1 hv1 rdb1 b8 nd l [] rfl h1 .aQ [] (Ext.refl _) (by omega) (uK _) vT.nil rfl (fun y hy=>by cases hy) (fun j q=>by cases q) (by omega) rfl
     have r1':Lp AP.A [1,2,6,7] AP.f199L1 [(1,w),(2,.aE h.next 0),(6,.aQ),(7,.int .i64 0)] h1=some (.exit 0,e',h2):=r1
     refine tQ (fn:=AP.f199) (h2:=h2) (e:=[(4,ov),(5,.int .i64 0)]) (vs:=[ov,.int .i64 0]) rfl rfl rfl ?_ rfl ?_
     · clear rd rd1 hv hv1 hx0 rdb rdb1 r1 r3 r4 r5
       simp (disch:=omega)only[go_sem,vq,AP.f199,hvs,hn0,←eh1,g1,wS,k1,k2,rV,r1',r2]
     · have al:=U2 List.length r4
       rw[UF]at al
       have s:snap h2.get h.next 15 true ov=some (BK (vP (l.map (·.1)) bs)):=by
        unfold BK DV
        obtain⟨q0,⟨q1,q2⟩|⟨j,q1,q2,q3,q4⟩⟩:=r3
        · rw[q1,←al,q2];rfl
        · rw[q1,if_neg (by omega)]
          show(if j<h.next then _ else _)=_
          rw[if_neg (by rw[r6,f1]at q3;omega),q2,uG,if_pos (by rw[AJ];omega),UK,uZ (by rw[AJ];exact uK _)]
          have:=Di (h:=h2) (fl:=h.next) (h0:=h1) (ov:=ov) (by omega) 11 r5
          rw[this,r4,al];rfl
       show(fP (snap h2.get h.next 15 true) [ov,.int .i64 0]).bind _=_
       simp only[fP,s,uG]
       rfl
instance:DecidableEq vN:=fun a b=>decidable_of_iff _ (zg a b)
theorem Gz {v w : AV} {a b : List vG} (hab : a.length = b.length) (hl : a.length < 1125899906842624) (h : H) (ra : xb 9 h v a.length (vD a)) (rb : xb 9 h w b.length (vD b)) (ha : ∀ x ∈ a, xe h x ∧ x.2.sc = true) (hb : ∀ x ∈ b, xe h x ∧ x.2.sc = true) : ∀ (q r p p' : List vG), a = p ++ q → b = p' ++ r → p.length = p'.length →
 (∃e',Lp AP.A [0,1,5] AP.f207L0 [(0,v),(1,w),(5,.int .i64 p.length)] h=some (.exit 0,e',h)∧q.map (·.1)=r.map (·.1))∨
 (∃e',Lp AP.A [0,1,5] AP.f207L0 [(0,v),(1,w),(5,.int .i64 p.length)] h=some (.ret,e',h)∧look e' 4=.bool false∧q.map (·.1)≠r.map (·.1))
 | [], r, p, p', hp, hr, hpp => by
   rw[UI]at hp;subst hp
   have h1:b.length=p'.length+r.length:=by rw[hr];simp
   have hr0:r=[]:=UO (by omega)
   have ln:=ra.len
   refine .inl ⟨[(0,v),(1,w),(5,.int .i64 a.length),(14,.bool false)],tc ?_,by rw[hr0]⟩
   simp (disch:=omega)only[go_sem,vq,AP.f207L0,ln]
 | x :: q, [], p, p', hp, hr, hpp => by
   exfalso
   have h1:a.length=p.length+(q.length+1):=by rw[hp];simp
   have h2:b.length=p'.length:=by rw[hr];simp
   omega
 | x :: q, y :: r, p, p', hp, hr, hpp => by
   have h1:a.length=p.length+(q.length+1):=by rw[hp];simp
   have hx:a[p.length]?=some x:=by rw[hp];simp
   have hy:b[p.length]?=some y:=by rw[hr,hpp];simp
   have ln:=ra.len
   obtain⟨ad,a1,a2⟩:=ra.Ff
   obtain⟨bd,b1,b2⟩:=rb.Ff
   have a3:=a1 p.length ⟨by omega,by omega⟩
   have b3:=b1 p.length ⟨by omega,by omega⟩
   obtain⟨_,a4⟩:=a2 h (Ext.refl h) p.length x hx
   obtain⟨_,b4⟩:=b2 h (Ext.refl h) p.length y hy
   obtain⟨ox,sx⟩:=ha x (by rw[hp];simp)
   obtain⟨oy,sy⟩:=hb y (by rw[hr];simp)
   have k1:=Gx h x.1 y.1 x.2 y.2 sx sy ox oy
   have ih:=Gz hab hl h ra rb ha hb q r (p++[x]) (p'++[y]) (by rw[hp];simp) (by rw[hr];simp) (by simp [hpp])
   have w1:((p++[x]).length:Int)=(p.length:Int)+1:=by simp
   rw[w1]at ih
   rw[UL,UL]
   cases hk:AZ x.1 y.1 with
   | true =>
     rw[hk]at k1
     have e:=(zg _ _).1 hk
     have step:aM (aS AP.A) bD AP.f207L0 (ay [(0,v),(1,w),(5,.int .i64 p.length)] [0,1,5]) h=some (.normal,[(0,v),(1,w),(5,.int .i64 ((p.length:Int)+1))],h):=by
      clear ih ra rb a1 a2 b1 b2 ha hb ox oy hp hr e
      generalize vw x.1 x.2=E at *
      generalize vw y.1 y.2=F at *
      simp (disch:=omega)only[go_sem,vq,AP.f207L0,ln,a3,a4,b3,b4,k1]
     rcases ih with ⟨e',r1,r2⟩|⟨e',r1,r2,r3⟩
     · exact .inl ⟨e',td step r1,by rw[e,r2]⟩
     · exact .inr ⟨e',td step r1,r2,fun q=>r3 (List.cons.inj q).2⟩
   | false =>
     rw[hk]at k1
     refine .inr ⟨[(4,.bool false)],tF ?_,rfl,fun q=>by
      have:=(zg x.1 y.1).2 (List.cons.inj q).1
      rw[hk]at this;cases this⟩
     clear ih ra rb a1 a2 b1 b2 ha hb ox oy hp hr
     generalize vw x.1 x.2=E at *
     generalize vw y.1 y.2=F at *
     simp (disch:=omega)only[go_sem,vq,AP.f207L0,ln,a3,a4,b3,b4,k1]
theorem EV (h:H) (v w:AV) (a b:List vG) (hl:a.length<1125899906842624) (ra:xb 9 h v a.length (vD a)) (rb:xb 9 h w b.length (vD b)) (ha:∀x∈a,xe h x∧x.2.sc=true) (hb:∀x∈b,xe h x∧x.2.sc=true):aS AP.A 207 [v,w] h=some (.bool (decide (a.map (·.1)=b.map (·.1))),h):=by
 have xf:Ext h h.eh:=fun i c q=>q
 have ra':=ra.mono fun i c q=>xf i c q
 have rb':=rb.mono fun i c q=>xf i c q
 have l1:=ra'.len
 have l2:=rb'.len
 by_cases c:a.length=b.length
 · have c':(a.length:Int)=b.length:=by omega
   rcases Gz c hl h.eh ra' rb' (fun x hx=>⟨(ha x hx).1.mono xf,(ha x hx).2⟩) (fun x hx=>⟨(hb x hx).1.mono xf,(hb x hx).2⟩) a b [] [] rfl rfl rfl with ⟨e',r1,r2⟩|⟨e',r1,r2,r3⟩
   · have r1':Lp AP.A [0,1,5] AP.f207L0 [(0,v),(1,w),(5,.int .i64 0)] h.eh=some (.exit 0,e',h.eh):=r1
     rw[dt r2]
     refine tQ (fn:=AP.f207) (h2:=h.eh) (e:=[(4,.bool true)]) rfl rfl rfl ?_ rfl rfl
     clear ra rb ra' rb' ha hb r1 r2
     simp (disch:=omega)only[go_sem,vq,AP.f207,l1,l2,rV,r1']
   · have r1':Lp AP.A [0,1,5] AP.f207L0 [(0,v),(1,w),(5,.int .i64 0)] h.eh=some (.ret,e',h.eh):=r1
     rw[df r3]
     refine tQ (fn:=AP.f207) (h2:=h.eh) (e:=e') (vs:=[.bool false]) rfl rfl rfl ?_ (by simp only[AP.f207,cO,na,r2];rfl) rfl
     clear ra rb ra' rb' ha hb r1 r3
     simp (disch:=omega)only[go_sem,vq,AP.f207,l1,l2,rV,r1']
 · have c':¬(a.length:Int)=b.length:=by omega
   have e:a.map (·.1)≠b.map (·.1):=fun q=>c (by have:=U2 List.length q;simpa using this)
   rw[df e]
   refine tQ (fn:=AP.f207) (h2:=h.eh) (e:=[(4,.bool false)]) rfl rfl rfl ?_ rfl rfl
   clear ra rb ra' rb' ha hb
   simp (disch:=omega)only[go_sem,vq,AP.f207,l1,l2]
def AA (n:Nat):aH:=(.seq (.oP [⟨(some 11),.bin .lss (.t 10) (.t 9),none⟩] [0,1,2,9,10,11]) (.seq (.cond (.t 11) (.skip) (.exit 0) [0,1,2,9,10]) (.seq (.block 1 (.seq (.oP [⟨(some 12),.mv (.t 10),none⟩,⟨(some 7),.mv (.t 12),none⟩] [0,1,2,7,9,10]) (.seq (.iY [0,1,2,3,4,5,6,7,8,9,10,11,12,13,14,15,16,17,18,19,20,21,22,23,24] [⟨(some 13),.mv (.t 2),none⟩,⟨(some 14),.mv (.t 0),none⟩,⟨(some 15),.mv (.t 7),none⟩,⟨(some 16),.nS n (.t 14) (.t 15),none⟩,⟨(some 17),.call (.t 13) [(.t 16)],none⟩,⟨(some 18),.call (.c (.fn 121 [] [])) [(.t 17)],none⟩,⟨(some 19),.not (.t 18),none⟩,⟨(some 20),.mv (.t 19),none⟩,⟨(some 21),.mv (.t 7),(some (20,false))⟩,⟨(some 22),.bin .gtr (.t 21) (.c (.int .i64 0)),(some (20,false))⟩,⟨(some 23),.mv (.t 22),(some (20,false))⟩,⟨(some 24),.mv (.t 2),(some (23,true))⟩,⟨(some 25),.mv (.t 0),(some (23,true))⟩,⟨(some 26),.mv (.t 7),(some (23,true))⟩,⟨(some 27),.bin .sub (.t 26) (.c (.int .i64 1)),(some (23,true))⟩,⟨(some 28),.nS n (.t 25) (.t 27),(some (23,true))⟩,⟨(some 29),.call (.t 24) [(.t 28)],(some (23,true))⟩,⟨(some 30),.mv (.t 2),(some (23,true))⟩,⟨(some 31),.mv (.t 0),(some (23,true))⟩,⟨(some 32),.mv (.t 7),(some (23,true))⟩,⟨(some 33),.nS n (.t 31) (.t 32),(some (23,true))⟩,⟨(some 34),.call (.t 30) [(.t 33)],(some (23,true))⟩,⟨(some 35),.bin .geq (.t 29) (.t 34),(some (23,true))⟩,⟨(some 36),.pick (.t 23) (.t 35) (.c (.bool false)),(some (20,false))⟩,⟨(some 37),.pick (.t 20) (.c (.bool true)) (.t 36),none⟩] [] [0,1,2,9,10,37]) (.cond (.t 37) (.seq (.oP [⟨(some 6),.mv (.c (.bool false)),none⟩] [6]) (.ret)) (.skip) [0,1,2,9,10]))) [0,1,2,9,10]) (.oP [⟨(some 38),.bin .add (.t 10) (.c (.int .i64 1)),none⟩,⟨(some 10),.mv (.t 38),none⟩] [0,1,2,9,10]))))
def DF (n:Nat):aH:=(.seq (.oP [⟨(some 9),.bin .lss (.t 8) (.t 7),none⟩] [0,1,7,8,9]) (.seq (.cond (.t 9) (.skip) (.exit 0) [0,1,7,8]) (.seq (.block 1 (.seq (.oP [⟨(some 10),.mv (.t 8),none⟩,⟨(some 5),.mv (.t 10),none⟩] [0,1,5,7,8]) (.seq (.oP [⟨(some 11),.mv (.t 1),none⟩,⟨(some 12),.mv (.t 0),none⟩,⟨(some 13),.mv (.t 5),none⟩,⟨(some 14),.nS n (.t 12) (.t 13),none⟩,⟨(some 15),.load true n (.t 14),none⟩,⟨(some 16),.call (.t 11) [(.t 15)],none⟩] [0,1,5,7,8,16]) (.cond (.t 16) (.seq (.oP [⟨(some 17),.mv (.t 5),none⟩,⟨(some 4),.mv (.t 17),none⟩] [4]) (.ret)) (.skip) [0,1,7,8]))) [0,1,7,8]) (.oP [⟨(some 18),.bin .add (.t 8) (.c (.int .i64 1)),none⟩,⟨(some 8),.mv (.t 18),none⟩] [0,1,7,8]))))
def B7 (p:Option ByteArray) (s:ByteArray):Bool:=match p with|none=>true|some q=>Op.bytesLess q.toList s.toList
theorem Gt (p:Option ByteArray) (s:ByteArray) (r:List ByteArray):wG p (s::r)=((wz s&&B7 p s)&&wG (some s) r):=by cases p<;>rfl
theorem De {v : AV} {k sz : Nat} {least : AV} {ns : List ByteArray} (hn : ns.length < 1125899906842624) (hs : ∀ s ∈ ns, s.size < 1125899906842624) (h : H) (ad : Int → AV) (ha : ∀ i : Int, 0 ≤ i ∧ i < ns.length → fZ sz v (.int .i64 i) = some (ad i))
 (hk:∀(i:Nat) (s:ByteArray),ns[i]?=some s→aS AP.A k [ad i] h=some (.str s,h)):∀(q p:List ByteArray),ns=p++q→
 (∃e',Lp AP.A [0,1,2,9,10] (AA sz) [(0,v),(1,least),(2,.fn k [] []),(9,.int .i64 ns.length),(10,.int .i64 p.length)] h=some (.exit 0,e',h)∧look e' 0=v∧look e' 1=least∧wG p.getLast? q=true)∨
 (∃e',Lp AP.A [0,1,2,9,10] (AA sz) [(0,v),(1,least),(2,.fn k [] []),(9,.int .i64 ns.length),(10,.int .i64 p.length)] h=some (.ret,e',h)∧look e' 6=.bool false∧wG p.getLast? q=false)
 | [], p, hp => by
   rw[UI]at hp;subst hp
   refine .inl ⟨[(0,v),(1,least),(2,.fn k [] []),(9,.int .i64 ns.length),(10,.int .i64 ns.length),(11,.bool false)],tc ?_,rfl,rfl,rfl⟩
   simp (disch:=omega)only[go_sem,vq,AA]
 | s :: q, p, hp => by
   have hlen:ns.length=p.length+(q.length+1):=by rw[hp];simp
   have hx:ns[p.length]?=some s:=by rw[hp];simp
   have b1:=ha p.length ⟨by omega,by omega⟩
   have b2:=hk p.length s hx
   have k1:=II h s (hs s (by rw[hp];simp))
   have ih:=De (least:=least) hn hs h ad ha hk q (p++[s]) (by rw[hp];simp)
   have w1:(((p++[s]).length:Nat):Int)=(p.length:Int)+1:=by simp
   rw[w1,List.getLast?_concat]at ih
   rw[Gt]
   have step:aM (aS AP.A) bD (AA sz) (ay [(0,v),(1,least),(2,.fn k [] []),(9,.int .i64 ns.length),(10,.int .i64 p.length)] [0,1,2,9,10]) h=if(wz s&&B7 p.getLast? s)=true then some (.normal,[(0,v),(1,least),(2,.fn k [] []),(9,.int .i64 ns.length),(10,.int .i64 ((p.length:Int)+1))],h)else some (.ret,[(6,.bool false)],h):=by
    cases hl:p.getLast? with
    | none =>
      have hp1:p.length=0:=by rw[List.getLast?_eq_none_iff.1 hl];rfl
      clear ih w1 hp hx
      rw[show B7 none s=true from rfl]
      generalize wz s=B1 at *
      cases B1<;>simp only[UJ,UW,UQ,if_true,uH,vh]<;>simp (disch:=omega)only[go_sem,vq,AA,b1,b2,k1,nJ]
    | some y =>
      obtain⟨p',rfl⟩:∃p',p=p'++[y]:=List.getLast?_eq_some_iff.1 hl
      have hpl:(p'++[y]).length=p'.length+1:=by simp
      have hy:ns[p'.length]?=some y:=by rw[hp];simp
      have bj:=ha p'.length ⟨by omega,by omega⟩
      have kj:=hk p'.length y hy
      have cmp:br .geq (.str y) (.str s)=some (.bool (!(Op.bytesLess y.toList s.toList))):=rfl
      have n2:(((p'++[y]).length:Nat):Int)-1=(p'.length:Int):=by rw[hpl];omega
      clear ih w1 hp hx hy
      rw[show B7 (some y) s=Op.bytesLess y.toList s.toList from rfl]
      generalize Op.bytesLess y.toList s.toList=B2 at *
      generalize wz s=B1 at *
      generalize (p'++[y]).length=pl at *
      cases B1<;>cases B2<;>simp only[UJ,UW,UM,UQ,if_true,uH,vh]<;>simp (disch:=omega)only[go_sem,vq,AA,b1,b2,k1,bj,kj,cmp,n2,nJ]
   generalize (wz s&&B7 p.getLast? s)=ok at *
   cases ok with
   | true =>
     rw[if_pos rfl]at step
     rw[UQ]
     rcases ih with ⟨e',r1,r2,r3,r4⟩|⟨e',r1,r2,r3⟩
     · exact .inl ⟨e',td step r1,r2,r3,r4⟩
     · exact .inr ⟨e',td step r1,r2,r3⟩
   | false =>
     rw[if_neg (by decide)]at step
     rw[UJ]
     exact .inr ⟨_,tF step,rfl,rfl⟩
def Cp (n:Nat):fq:={np:=3,res:=[.tmp 6],pure:=true,body:=(.seq (.oP [⟨(some 6),.mv (.c (.bool false)),none⟩] [0,1,2]) (.seq (.seq (.oP [⟨(some 8),.mv (.t 0),none⟩,⟨(some 9),.len false (.t 8),none⟩,⟨(some 10),.mv (.c (.int .i64 0)),none⟩] [0,1,2,9,10]) (.block 0 (.loop [0,1,2,9,10] (AA n)) [0,1])) (.seq (.oP [⟨(some 39),.mv (.t 0),none⟩,⟨(some 40),.len false (.t 39),none⟩,⟨(some 41),.mv (.t 1),none⟩,⟨(some 42),.bin .geq (.t 40) (.t 41),none⟩,⟨(some 43),.mv (.t 42),none⟩,⟨(some 44),.mv (.t 0),(some (43,true))⟩,⟨(some 45),.len false (.t 44),(some (43,true))⟩,⟨(some 46),.bin .leq (.t 45) (.c (.int .i64 6)),(some (43,true))⟩,⟨(some 47),.pick (.t 43) (.t 46) (.c (.bool false)),none⟩,⟨(some 6),.mv (.t 47),none⟩] [6]) (.ret))))}
theorem DT {f sz k:Nat} (hf:AP.A f=some (Cp sz)) {v:AV} {least:Int} {ns:List ByteArray} (hn:ns.length<1125899906842624) (hs:∀s∈ns,s.size<1125899906842624) (h:H) (ln:ji false v=some (.int .i64 ns.length)) (ad:Int→AV) (ha:∀i:Int,0≤i∧i<ns.length→fZ sz v (.int .i64 i)=some (ad i))
 (hk:∀(i:Nat) (s:ByteArray),ns[i]?=some s→aS AP.A k [ad i] h.eh=some (.str s,h.eh)):aS AP.A f [v,.int .i64 least,.fn k [] []] h=some (.bool (wG none ns&&(decide (least≤ns.length)&&decide (ns.length≤6))),h):=by
 rcases De (least:=.int .i64 least) hn hs h.eh ad ha hk ns [] rfl with ⟨e',r1,r2,r3,r4⟩|⟨e',r1,r2,r3⟩
 · have r1':Lp AP.A [0,1,2,9,10] (AA sz) [(0,v),(1,.int .i64 least),(2,.fn k [] []),(9,.int .i64 ns.length),(10,.int .i64 0)] h.eh=some (.exit 0,e',h.eh):=r1
   have r4':wG none ns=true:=r4
   rw[r4',UQ]
   refine tQ (fn:=Cp sz) (h2:=h.eh) (e:=[(6,.bool (decide (least≤ns.length)&&decide (ns.length≤6)))]) hf rfl rfl ?_ rfl rfl
   clear ha hk r1 r4 r4'
   by_cases c1:least≤(ns.length:Int)
   · by_cases c2:ns.length≤6<;>simp (disch:=omega)only[go_sem,vq,Cp,ln,rV,r1',r2,r3]
   · simp (disch:=omega)only[go_sem,vq,Cp,ln,rV,r1',r2,r3]
 · have r1':Lp AP.A [0,1,2,9,10] (AA sz) [(0,v),(1,.int .i64 least),(2,.fn k [] []),(9,.int .i64 ns.length),(10,.int .i64 0)] h.eh=some (.ret,e',h.eh):=r1
   have r4':wG none ns=false:=r3
   rw[r4',UJ]
   refine tQ (fn:=Cp sz) (h2:=h.eh) (e:=e') (vs:=[.bool false]) hf rfl rfl ?_ (by simp only[Cp,cO,na,r2];rfl) rfl
   clear ha hk r1 r3 r4'
   simp (disch:=omega)only[go_sem,vq,Cp,ln,rV,r1']
theorem EA {v : AV} {k sz n : Nat} {B : Nat → Bool} (hn : n < 1125899906842624) (h : H) (ad : Int → AV) (el : Nat → AV) (ha : ∀ i : Int, 0 ≤ i ∧ i < n → fZ sz v (.int .i64 i) = some (ad i)) (hl : ∀ i : Nat, i < n → bX true sz (ad i) h = some (el i))
 (hk:∀i,i<n→aS AP.A k [el i] h=some (.bool (B i),h)):∀(m i:Nat),i+m=n→
 (∃e',Lp AP.A [0,1,7,8] (DF sz) [(0,v),(1,.fn k [] []),(7,.int .i64 n),(8,.int .i64 i)] h=some (.exit 0,e',h)∧∀j,i≤j→j<n→B j=false)∨
 (∃e',Lp AP.A [0,1,7,8] (DF sz) [(0,v),(1,.fn k [] []),(7,.int .i64 n),(8,.int .i64 i)] h=some (.ret,e',h)∧(∃j:Nat,look e' 4=.int .i64 j∧j<n∧B j=true))
 | 0, i, hi => by
   obtain rfl:i=n:=by omega
   refine .inl ⟨[(0,v),(1,.fn k [] []),(7,.int .i64 i),(8,.int .i64 i),(9,.bool false)],tc ?_,fun j h1 h2=>by omega⟩
   clear ha hl hk
   simp (disch:=omega)only[go_sem,vq,DF]
 | m + 1, i, hi => by
   have b1:=ha i ⟨by omega,by omega⟩
   have b2:=hl i (by omega)
   have k1:=hk i (by omega)
   have ih:=EA hn h ad el ha hl hk m (i+1) (by omega)
   have w1:((i+1:Nat):Int)=(i:Int)+1:=by omega
   rw[w1]at ih
   cases c:B i with
   | true =>
     rw[c]at k1
     refine .inr ⟨[(4,.int .i64 i)],tF ?_,i,rfl,by omega,c⟩
     clear ha hl hk ih
     simp (disch:=omega)only[go_sem,vq,DF,b1,b2,k1,nJ]
   | false =>
     rw[c]at k1
     have step:aM (aS AP.A) bD (DF sz) (ay [(0,v),(1,.fn k [] []),(7,.int .i64 n),(8,.int .i64 i)] [0,1,7,8]) h=some (.normal,[(0,v),(1,.fn k [] []),(7,.int .i64 n),(8,.int .i64 ((i:Int)+1))],h):=by
      clear ha hl hk ih
      simp (disch:=omega)only[go_sem,vq,DF,b1,b2,k1,nJ]
     rcases ih with ⟨e',r1,r2⟩|⟨e',r1,r2⟩
     · exact .inl ⟨e',td step r1,fun j h1 h2=>by
        by_cases q:j=i
        · rw[q];exact c
        · exact r2 j (by omega) h2⟩
     · exact .inr ⟨e',td step r1,r2⟩
def Hp (n:Nat):fq:={np:=2,res:=[.tmp 4],pure:=true,body:=(.seq (.oP [⟨(some 4),.mv (.c (.int .i64 0)),none⟩] [0,1]) (.seq (.seq (.oP [⟨(some 6),.mv (.t 0),none⟩,⟨(some 7),.len false (.t 6),none⟩,⟨(some 8),.mv (.c (.int .i64 0)),none⟩] [0,1,7,8]) (.block 0 (.loop [0,1,7,8] (DF n)) [])) (.seq (.oP [⟨(some 4),.mv (.c (.int .i64 (-1))),none⟩] [4]) (.ret))))}
def SJ (g:Nat):fq:={np:=2,res:=[.tmp 4],pure:=true,body:=(.seq (.oP [⟨(some 4),.mv (.c (.bool false)),none⟩] [0,1]) (.seq (.oP [⟨(some 5),.mv (.t 0),none⟩,⟨(some 6),.mv (.t 1),none⟩,⟨(some 7),.call (.c (.fn g [] [])) [(.t 5),(.t 6)],none⟩,⟨(some 8),.bin .geq (.t 7) (.c (.int .i64 0)),none⟩,⟨(some 4),.mv (.t 8),none⟩] [4]) (.ret)))}
theorem F0 {f g sz k n:Nat} (hf:AP.A f=some (SJ g)) (hg:AP.A g=some (Hp sz)) {v:AV} {B:Nat→Bool} (hn:n<1125899906842624) (h:H) (ln:ji false v=some (.int .i64 n)) (ad:Int→AV) (el:Nat→AV) (ha:∀i:Int,0≤i∧i<n→fZ sz v (.int .i64 i)=some (ad i)) (hl:∀i:Nat,i<n→bX true sz (ad i) h=some (el i))
 (hk:∀(g:H),Ext h g→g.next=h.next→g.floor=g.next→∀i,i<n→aS AP.A k [el i] g=some (.bool (B i),g)):∃b,aS AP.A f [v,.fn k [] []] h=some (.bool b,h)∧(b=false↔∀j,j<n→B j=false):=by
 have k1:∃j:Int,aS AP.A g [v,.fn k [] []] h.eh=some (.int .i64 j,h.eh)∧(j<0↔∀j,j<n→B j=false):=by
  have hl':∀i:Nat,i<n→bX true sz (ad i) h.eh.eh=some (el i):=fun i hi=>by
   have:=hl i hi
   unfold bX at this ⊢
   cases hq:ad i<;>rw[hq]at this<;>first|exact this|cases this
  rcases EA hn h.eh.eh ad el ha hl' (hk h.eh.eh (fun i c q=>q) rfl rfl) n 0 (by omega)with ⟨e',r1,r2⟩|⟨e',r1,j,r2,r3,r4⟩
  · have r1':Lp AP.A [0,1,7,8] (DF sz) [(0,v),(1,.fn k [] []),(7,.int .i64 n),(8,.int .i64 0)] h.eh.eh=some (.exit 0,e',h.eh.eh):=r1
    refine⟨-1,tQ (fn:=Hp sz) (h2:=h.eh.eh) (e:=[(4,.int .i64 (-1))]) hg rfl rfl ?_ rfl rfl,by simp only[Int.reduceNeg,Int.reduceLT,true_iff];exact fun j hj=>r2 j (by omega) hj⟩
    clear ha hl hl' hk r1 r2
    simp (disch:=omega)only[go_sem,vq,Hp,ln,rV,r1']
  · have r1':Lp AP.A [0,1,7,8] (DF sz) [(0,v),(1,.fn k [] []),(7,.int .i64 n),(8,.int .i64 0)] h.eh.eh=some (.ret,e',h.eh.eh):=r1
    refine⟨j,tQ (fn:=Hp sz) (h2:=h.eh.eh) (e:=e') (vs:=[.int .i64 j]) hg rfl rfl ?_ (by simp only[Hp,cO,na,r2];rfl) rfl,⟨fun q=>by omega,fun q=>by rw[q j r3]at r4;cases r4⟩⟩
    clear ha hl hl' hk r1 r2
    simp (disch:=omega)only[go_sem,vq,Hp,ln,rV,r1']
 obtain⟨j,k1,k2⟩:=k1
 refine⟨decide (0≤j),tQ (fn:=SJ g) (h2:=h.eh) (e:=[(4,.bool (decide (0≤j)))]) hf rfl rfl ?_ rfl rfl,by rw[←k2,decide_eq_false_iff_not];omega⟩
 clear ha hl hk k2 ln
 by_cases c:0≤j<;>simp (disch:=omega)only[go_sem,vq,SJ,k1]
def pk:List Nat→Nat
 |[]=>0
 |b::l=>b^^^(pk l* 2^8)
theorem Kh (e : vN) : wZ e = (wz e.name && (wh e && xg e) && (e.gone || (match xP e.method e.packed e.size with | some t => decide ((xG t : Int) = e.zt) | none => false))) := by
 unfold wZ yY
 have hm:wR [e]=(wz e.name&&(wh e&&xg e)):=by simp [wR,wK,Aq]
 rw[hm]
 cases (wz e.name&&(wh e&&xg e))with
 |false=>rfl
 | true =>
   rw[if_neg (by decide)]
   cases e.gone with
   |true=>rfl
   | false =>
     rw[if_neg (by decide)]
     cases xP e.method e.packed e.size with
     |none=>rfl
     | some t =>
       dsimp only
       by_cases c:(xG t:Int)=e.zt
       · rw[if_pos c];simp [c]
       · rw[if_neg c];simp [c]
def xc (l:List ByteArray):List AV:=l.map .str
theorem wH (l:List ByteArray):(xc l).length=l.length:=by simp [xc]
theorem Rd.BA {h:H} {v:AV} {l:List ByteArray} (r:Rd h v (xc l)):∃ad:Int→AV,(∀i:Int,0≤i∧i<l.length→fZ 1 v (.int .i64 i)=some (ad i))∧(∀(i:Int) (g:H),0≤i∧i<l.length→jG g (ad i)=some (ad i,g))∧
 ∀g:H,Ext h g→∀(i:Nat) (s:ByteArray),l[i]?=some s→bX false 1 (ad i) g=some (.str s):=by
 have r2:=r.Ck
 rw[wH]at r2
 obtain⟨ad,a1,_,a4,a3⟩:=r2.at_
 refine⟨fun i=>ad i 0,a1,fun i g hi=>a4 i 0 g hi,fun g hg i n hn=> ?_⟩
 have hi:i<l.length:=(uF.1 hn).1
 refine(a3 g hg).1 i 0 _ ⟨by omega,by omega⟩ ?_
 rw[wO,U4,UZ]
 simp [xc,hn]
structure wN where
 m:zh
 vd:AV
 vb:AV
 vf:AV
 vn:AV
 ve:AV
 fs:List xR
 es:List vG
def vo (x:wN):List AV:=[.int .i64 x.m.kind,.int .i64 x.m.src,.int .i64 x.m.dst,.int .i64 x.m.root,x.vd,x.vb,x.vf,x.vn,x.ve]
structure AG (h:H) (x:wN):Prop where
 rd:Rd h x.vd (ints x.m.wE)
 rb:Rd h x.vb (ints x.m.wP)
 rf:GV h x.vf x.fs
 hf:x.fs.map (·.1)=x.m.vB
 rn:Rd h x.vn (xc x.m.names)
 re:xb 9 h x.ve x.es.length (vD x.es)
 he:x.es.map (·.1)=x.m.wx
 ve:∀y∈x.es,xe h y∧y.2.sc=true
 vf:∀y∈x.fs,y.2.sc=true
 sc:x.vd.sc=true∧x.vb.sc=true∧x.vf.sc=true∧x.vn.sc=true∧x.ve.sc=true
 zd:x.m.wE.length<140737488355328
 zb:x.m.wP.length<140737488355328
 zf:x.m.vB.length<140737488355328
 zn:x.m.names.length<140737488355328
 ze:x.m.wx.length<140737488355328
 zs:(∀s∈x.m.names,s.size<1125899906842624)∧∀b∈x.m.vB,b.1.size<1125899906842624
theorem AG.mono {h g:H} {x:wN} (o:AG h x) (e:Ext h g):AG g x:=
 ⟨o.rd.mono fun i c q=>e i c q,o.rb.mono fun i c q=>e i c q,o.rf.mono e,o.hf,o.rn.mono fun i c q=>e i c q,o.re.mono fun i c q=>e i c q,o.he,fun y hy=>⟨(o.ve y hy).1.mono e,(o.ve y hy).2⟩,o.vf,o.sc,o.zd,o.zb,o.zf,o.zn,o.ze,o.zs⟩
def vL:wN:=⟨⟨0,0,0,0,[],[],[],[],[]⟩,.aQ,.aQ,.aQ,.aQ,.aQ,[],[]⟩
theorem IH (x:wN):(vo x).length=9:=rfl
theorem y5 {h:H} {x:wN} (o:AG h x):AV.aD (vo x)=true:=by
 obtain⟨a,b,c,d,e⟩:=o.sc
 simp [vo,a,b,c,d,e]
theorem Pj {m:zh} (h:m.kind=0):yB m=decide (((((m.wE.length:Int)+m.wP.length)+m.vB.length)+m.names.length)+m.wx.length=0):=by
 rw[yB,h];generalize m.wE.length=a;generalize m.wP.length=b;generalize m.vB.length=c;generalize m.names.length=d;generalize m.wx.length=e;rw[Bool.eq_iff_iff];simp;omega
theorem Pk {m:zh} (h:m.kind=1):yB m=(decide (m.root=0)&&decide ((((0+(m.wP.length:Int))+m.vB.length)+m.names.length)+m.wx.length=0)):=by
 rw[yB,h];generalize m.wE.length=a;generalize m.wP.length=b;generalize m.vB.length=c;generalize m.names.length=d;generalize m.wx.length=e;rw[Bool.eq_iff_iff];simp;omega
theorem Pm {m:zh} (h:m.kind=2):yB m=(decide (m.root=0)&&decide (((((m.wE.length:Int)+0)+0)+m.names.length)+m.wx.length=0)):=by
 rw[yB,h];generalize m.wE.length=a;generalize m.wP.length=b;generalize m.vB.length=c;generalize m.names.length=d;generalize m.wx.length=e;rw[Bool.eq_iff_iff];simp;omega
theorem lean_3 {m:zh} (h:m.kind=3):yB m=(decide (m.root=0)&&decide (((((m.wE.length:Int)+m.wP.length)+m.vB.length)+0)+m.wx.length=0)):=by
 rw[yB,h];generalize m.wE.length=a;generalize m.wP.length=b;generalize m.vB.length=c;generalize m.names.length=d;generalize m.wx.length=e;rw[Bool.eq_iff_iff];simp;omega
theorem Pn {m:zh} (h:m.kind=4):yB m=(decide (m.root=0)&&decide (((((m.wE.length:Int)+m.wP.length)+m.vB.length)+m.names.length)+0=0)):=by
 rw[yB,h];generalize m.wE.length=a;generalize m.wP.length=b;generalize m.vB.length=c;generalize m.names.length=d;generalize m.wx.length=e;rw[Bool.eq_iff_iff];simp;omega
theorem EU : ∀ (l : List vN) (p : Option vN), (wK p l && l.all wZ) = (wG (p.map (·.name)) (l.map (·.name)) && l.all wZ)
 |[],_=>rfl
 | e :: l, p => by
   have ih:=EU l (some e)
   rw[UL,Gt,wK,List.all_cons]
   cases hm:wZ e with
   |false=>simp
   | true =>
     have hk:wh e=true∧xg e=true:=by
      rw[Kh]at hm
      simp only[IC,uL]at hm
      exact hm.1.2
     have ek:xE p e=(wz e.name&&B7 (p.map (·.name)) e.name):=by
      unfold xE
      rw[hk.1,hk.2]
      cases p<;>simp [B7]
     rw[ek,UQ,Bool.and_assoc,ih];simp only[Bool.and_assoc];rfl
theorem KV {h:H} {v:AV} {l:List xR} (r:GV h v l):∃ad:Int→AV,(∀i:Int,0≤i∧i<l.length→fZ 2 v (.int .i64 i)=some (ad i))∧(∀(i:Nat) (x:xR),l[i]?=some x→bX true 2 (ad i) h=some (.agg (JJ x))∧aS AP.A 264 [ad i] h=some (.str x.1.1,h)):=by
 obtain⟨ad,a1,a2,a4,a3⟩:=r.rd.at_
 refine⟨fun i=>ad i 0,a1,fun i x hx=> ?_⟩
 have hi:i<l.length:=(uF.1 hx).1
 have hI:(0:Int)≤(i:Int)∧(i:Int)<l.length:=⟨by omega,by omega⟩
 have f:=a2 i 0 0 hI
 rw[UZ]at f
 have n:=a4 i 0 h hI
 have l0:=(a3 h fun _ _ q=>q).1 i 0 (.str x.1.1) hI (by
  rw[wO,show wB l=l.flatMap JJ from rfl,y3 zJ hx (by omega)];rfl)
 refine⟨?_,tw (fn:=AP.f264) (h2:=h) (e:=[(2,.str x.1.1)]) (vs:=[.str x.1.1]) rfl rfl rfl ?_ rfl⟩
 · rw[(a3 h fun _ _ q=>q).2 _ hI,wO,show wB l=l.flatMap JJ from rfl,DC zJ hx]
 · clear a1 a2 a3 a4
   simp (disch:=omega)only[go_sem,vq,AP.f264,n,f,l0]
theorem Sk {h:H} {v:AV} {l:List ByteArray} (r:Rd h v (xc l)):∃ad:Int→AV,(∀i:Int,0≤i∧i<l.length→fZ 1 v (.int .i64 i)=some (ad i))∧∀(i:Nat) (s:ByteArray),l[i]?=some s→aS AP.A 267 [ad i] h=some (.str s,h):=by
 obtain⟨ad,a1,a4,a3⟩:=r.BA
 refine⟨ad,a1,fun i s hs=> ?_⟩
 have hi:i<l.length:=(uF.1 hs).1
 have n:=a4 i h ⟨by omega,by omega⟩
 have l0:=a3 h (Ext.refl h) i s hs
 refine tw (fn:=AP.f267) (h2:=h) (e:=[(2,.str s)]) (vs:=[.str s]) rfl rfl rfl ?_ rfl
 clear a1 a3 a4
 simp (disch:=omega)only[go_sem,vq,AP.f267,n,l0]
theorem KW {h:H} {v:AV} {l:List vG} (r:xb 9 h v l.length (vD l)):∃ad:Int→AV,(∀i:Int,0≤i∧i<l.length→fZ 9 v (.int .i64 i)=some (ad i))∧(∀(i:Nat) (x:vG),l[i]?=some x→bX true 9 (ad i) h=some (.agg (vw x.1 x.2))∧aS AP.A 270 [ad i] h=some (.str x.1.name,h)):=by
 obtain⟨ad,a1,a2⟩:=r.Ff
 refine⟨fun i=>ad i 0,a1,fun i x hx=> ?_⟩
 obtain⟨pe,ld⟩:=a2 h (Ext.refl h) i x hx
 obtain⟨q,f1,f2⟩:=pe.tl
 have n:=pe.nil
 have l0:=f2 h (Ext.refl h) 0 _ rfl
 refine⟨ld,tw (fn:=AP.f270) (h2:=h) (e:=[(2,.str x.1.name)]) (vs:=[.str x.1.name]) rfl rfl rfl ?_ rfl⟩
 clear a1 a2 pe f2
 simp (disch:=omega)only[go_sem,vq,AP.f270,n,f1,l0]
theorem Ks (h:H) {x:wN} (o:AG h x):aS AP.A 263 [x.vf,.int .i64 0,.fn 264 [] []] h=some (.bool (wG none (x.m.vB.map (·.1))&&decide (x.m.vB.length≤6)),h):=by
 obtain⟨ad,a1,a2⟩:=KV (o.mono (g:=h.eh) fun i c q=>q).rf
 have e:(x.m.vB.map (·.1)).length=x.fs.length:=by rw[←o.hf];simp
 have z:=o.zf
 have e2:x.m.vB.length=x.fs.length:=by rw[←o.hf];simp
 have:=DT (f:=263) (sz:=2) (k:=264) rfl (v:=x.vf) (least:=0) (ns:=x.m.vB.map (·.1)) (by omega) (fun s hs=>by obtain⟨b,hb,rfl⟩:=UR.1 hs;exact o.zs.2 b hb) h (by rw[e];exact o.rf.rd.len) ad (fun i hi=>a1 i (by rw[e]at hi;exact hi)) (fun i s hs=>by
  rw[←o.hf,U6,uT]at hs
  cases hx:x.fs[i]? with
  |none=>rw[hx]at hs;cases hs
  |some y=>rw[hx]at hs;obtain rfl:=uz hs;exact(a2 i y hx).2)
 rw[this,e,e2,dt (by omega),UQ]
theorem Ku (h:H) {x:wN} (o:AG h x):aS AP.A 266 [x.vn,.int .i64 1,.fn 267 [] []] h=some (.bool (wG none x.m.names&&(decide (1≤x.m.names.length)&&decide (x.m.names.length≤6))),h):=by
 obtain⟨ad,a1,a2⟩:=Sk (o.mono (g:=h.eh) fun i c q=>q).rn
 have z:=o.zn
 have ln:=o.rn.Ck.len
 rw[wH]at ln
 have:=DT (f:=266) (sz:=1) (k:=267) rfl (v:=x.vn) (least:=1) (ns:=x.m.names) (by omega) o.zs.1 h ln ad a1 a2
 rw[this]
 congr 5
 rw[decide_eq_decide];omega
theorem Kt (h:H) {x:wN} (o:AG h x):aS AP.A 269 [x.ve,.int .i64 1,.fn 270 [] []] h=some (.bool (wG none (x.m.wx.map (·.name))&&(decide (1≤x.m.wx.length)&&decide (x.m.wx.length≤6))),h):=by
 obtain⟨ad,a1,a2⟩:=KW (o.mono (g:=h.eh) fun i c q=>q).re
 have e2:x.m.wx.length=x.es.length:=by rw[←o.he];simp
 have e:(x.m.wx.map (·.name)).length=x.es.length:=by simp [e2]
 have z:=o.ze
 have:=DT (f:=269) (sz:=9) (k:=270) rfl (v:=x.ve) (least:=1) (ns:=x.m.wx.map (·.name)) (by omega) (fun s hs=>by
  obtain⟨b,hb,rfl⟩:=UR.1 hs
  rw[←o.he]at hb
  obtain⟨y,hy,rfl⟩:=UR.1 hb
  exact(o.ve y hy).1.nl) h (by rw[e];exact o.re.len) ad (fun i hi=>a1 i (by rw[e]at hi;exact hi)) (fun i s hs=>by
  rw[←o.he,U6,uT]at hs
  cases hx:x.es[i]? with
  |none=>rw[hx]at hs;cases hs
  |some y=>rw[hx]at hs;obtain rfl:=uz hs;exact(a2 i y hx).2)
 rw[this,e,e2]
 congr 5
 rw[decide_eq_decide];omega
theorem HU (h:H) (s:ByteArray) (v:AV) (l:List Int) (hv:v.sc=true) (rd:Rd h v (ints l)) (hl:l.length<1125899906842624):aS AP.A 262 [.agg [.str s,v]] h=some (.bool (!xa l),h):=by
 obtain⟨h1,eh1⟩:∃g,g=h.eh.alloc [.str s,v]:=⟨_,rfl⟩
 have x1:Ext h h1:=fun i c q=>by rw[eh1];exact((Ext.refl h.eh).alloc _) i c q
 have g1:h1.get h.next=some [.str s,v]:=by rw[eh1];exact vu rfl
 have n0:h.eh.next=h.next:=rfl
 have k1:=GL h1 v l (rd.mono fun i c q=>x1 i c q) hl
 refine tQ (fn:=AP.f262) (h2:=h1) (e:=[(2,.bool (!xa l))]) rfl rfl rfl ?_ rfl rfl
 clear rd x1
 simp (disch:=omega)only[go_sem,vq,AP.f262,hv,n0,←eh1,g1,k1]
theorem JO (h : H) {x : wN} (o : AG h x) : aS AP.A 265 [x.vf, .fn 262 [] []] h = some (.bool (!x.m.vB.all fun b => xa b.2), h) := by
 obtain⟨ad,a1,a2⟩:=KV o.rf
 have z:=o.zf
 have e2:x.m.vB.length=x.fs.length:=by rw[←o.hf];simp
 obtain⟨b,k1,k2⟩:=F0 (f:=265) (g:=299) (sz:=2) (k:=262) (n:=x.fs.length) (B:=fun i=>match x.fs[i]? with|some y=> !xa y.1.2|none=>false) rfl rfl (v:=x.vf) (by omega) h o.rf.rd.len ad (fun i=>match x.fs[i]? with|some y=>.agg (JJ y)|none=>.bot) a1 (fun i hi=>by
  obtain⟨y,hy⟩:∃y,x.fs[i]?=some y:=⟨x.fs[i],by simp⟩
  rw[hy];exact(a2 i y hy).1) (fun g hg _ _ i hi=>by
  obtain⟨y,hy⟩:∃y,x.fs[i]?=some y:=⟨x.fs[i],by simp⟩
  have hm:=uO hy
  rw[hy]
  obtain⟨r1,r2⟩:=o.rf.vec y hm
  exact HU g y.1.1 y.2 y.1.2 (o.vf y hm) (r1.mono fun i c q=>hg i c q) r2)
 rw[k1]
 congr 3
 cases hb:b with
 | false =>
   have:=k2.1 hb
   have q:(x.m.vB.all fun b=>xa b.2)=true:=by
    rw[UY]
    intro c hc
    rw[←o.hf]at hc
    obtain⟨y,hy,rfl⟩:=UR.1 hc
    obtain⟨i,hi,e⟩:=List.mem_iff_getElem.1 hy
    have:=this i hi
    rw[UT hi,e]at this
    simpa using this
   rw[q];rfl
 | true =>
   cases q:(x.m.vB.all fun b=>xa b.2)with
   |false=>rfl
   | true =>
     have:b=false:=k2.2 fun j hj=>by
      rw[UT hj]
      rw[UY]at q
      have:=q (x.fs[j]).1 (by rw[←o.hf];exact UR.2 ⟨_,List.getElem_mem hj,rfl⟩)
      simpa using this
     rw[this]at hb;cases hb
theorem HV (h:H) (hf:h.floor≤h.next) (e:vN) (v:AV) (hv:v.sc=true) (ok:xe h (e,v)):aS AP.A 268 [.agg (vw e v)] h=some (.bool (!wZ e),h):=by
 obtain⟨E,hE⟩:∃E,E=vw e v:=⟨_,rfl⟩
 have lE:E.length=9:=by rw[hE];rfl
 have cE:AV.aD E=true:=by rw[hE];exact yH hv
 have rE:ij true 9 E 0=some (.agg E):=by rw[hE];rfl
 obtain⟨h1,eh1⟩:∃g,g=h.eh.alloc E:=⟨_,rfl⟩
 have x1:Ext h h1:=fun i c q=>by rw[eh1];exact((Ext.refl h.eh).alloc _) i c q
 have g1:h1.get h.next=some E:=by rw[eh1];exact vu rfl
 have n0:h.eh.next=h.next:=rfl
 have k1:=Fp h1 (by rw[eh1];simp) e v hv (ok.mono x1)
 rw[←hE]at k1 ⊢
 refine tQ (fn:=AP.f268) (h2:=h1) (e:=[(2,.bool (!wZ e))]) rfl rfl rfl ?_ rfl rfl
 clear ok x1 hE
 simp (disch:=omega)only[go_sem,vq,AP.f268,lE,cE,n0,←eh1,g1,rE,k1]
theorem JP (h : H) {x : wN} (o : AG h x) : aS AP.A 187 [x.ve, .fn 268 [] []] h = some (.bool (!x.m.wx.all wZ), h) := by
 obtain⟨ad,a1,a2⟩:=KW o.re
 have z:=o.ze
 have e2:x.m.wx.length=x.es.length:=by rw[←o.he];simp
 obtain⟨b,k1,k2⟩:=F0 (f:=187) (g:=191) (sz:=9) (k:=268) (n:=x.es.length) (B:=fun i=>match x.es[i]? with|some y=> !wZ y.1|none=>false) rfl rfl (v:=x.ve) (by omega) h o.re.len ad (fun i=>match x.es[i]? with|some y=>.agg (vw y.1 y.2)|none=>.bot) a1 (fun i hi=>by
  obtain⟨y,hy⟩:∃y,x.es[i]?=some y:=⟨x.es[i],by simp⟩
  rw[hy];exact(a2 i y hy).1) (fun g hg _ hf i hi=>by
  obtain⟨y,hy⟩:∃y,x.es[i]?=some y:=⟨x.es[i],by simp⟩
  have hm:=uO hy
  rw[hy]
  exact HV g (by omega) y.1 y.2 (o.ve y hm).2 ((o.ve y hm).1.mono hg))
 rw[k1]
 congr 3
 cases hb:b with
 | false =>
   have:=k2.1 hb
   have q:(x.m.wx.all wZ)=true:=by
    rw[UY]
    intro c hc
    rw[←o.he]at hc
    obtain⟨y,hy,rfl⟩:=UR.1 hc
    obtain⟨i,hi,e⟩:=List.mem_iff_getElem.1 hy
    have:=this i hi
    rw[UT hi,e]at this
    simpa using this
   rw[q];rfl
 | true =>
   cases q:(x.m.wx.all wZ)with
   |false=>rfl
   | true =>
     have:b=false:=k2.2 fun j hj=>by
      rw[UT hj]
      rw[UY]at q
      have:=q (x.es[j]).1 (by rw[←o.he];exact UR.2 ⟨_,List.getElem_mem hj,rfl⟩)
      simpa using this
     rw[this]at hb;cases hb
def vJ (s:ByteArray):List vN→Nat×Bool
 |[]=>(0,false)
 |e::r=>if Op.bytesLess e.name.toList s.toList then((vJ s r).1+1,(vJ s r).2)else(0,e.name.toList==s.toList)
theorem Gn {v : AV} {l : List vG} (s : ByteArray) (hl : l.length < 1125899906842624) (h : H) (b : Nat) (hb : h.get b = some [v]) (rd : xb 9 h v l.length (vD l)) : ∀ (q p : List vG), l = p ++ q →
 (∃e',Lp AP.A [1,2,6] AP.f208L0 [(1,.str s),(2,.aE b 0),(6,.int .i64 p.length)] h=some (.exit 0,e',h)∧look e' 2=.aE b 0∧vJ s (q.map (·.1))=(q.length,false))∨
 (∃e',Lp AP.A [1,2,6] AP.f208L0 [(1,.str s),(2,.aE b 0),(6,.int .i64 p.length)] h=some (.ret,e',h)∧look e' 4=.int .i64 (p.length+(vJ s (q.map (·.1))).1:Nat)∧look e' 5=.bool (vJ s (q.map (·.1))).2)
 | [], p, hp => by
   rw[UI]at hp;subst hp
   have ln:=rd.len
   refine .inl ⟨[(1,.str s),(2,.aE b 0),(6,.int .i64 l.length),(11,.bool false)],tc ?_,rfl,rfl⟩
   simp (disch:=omega)only[go_sem,vq,AP.f208L0,hb,ln]
 | x :: q, p, hp => by
   have hlen:l.length=p.length+(q.length+1):=by rw[hp];simp
   have hx:l[p.length]?=some x:=by rw[hp];simp
   have ln:=rd.len
   obtain⟨ad,a1,a2⟩:=rd.Ff
   have b1:=a1 p.length ⟨by omega,by omega⟩
   obtain⟨pe,b2⟩:=a2 h (Ext.refl h) p.length x hx
   obtain⟨qq,f1,f2⟩:=pe.tl
   have l0:=f2 h (Ext.refl h) 0 _ rfl
   have w1:((p++[x]).length:Int)=(p.length:Int)+1:=by simp
   have w2:(p++[x]).length=p.length+1:=by simp
   rw[UL,vJ]
   cases hc:Op.bytesLess x.1.name.toList s.toList with
   | true =>
     have cmp:br .geq (.str x.1.name) (.str s)=some (.bool false):=by
      show some (AV.bool (!(Op.bytesLess x.1.name.toList s.toList)))=_
      rw[hc];rfl
     have step:aM (aS AP.A) bD AP.f208L0 (ay [(1,.str s),(2,.aE b 0),(6,.int .i64 p.length)] [1,2,6]) h=some (.normal,[(1,.str s),(2,.aE b 0),(6,.int .i64 ((p.length:Int)+1))],h):=by
      clear rd a1 a2 pe f2 hp b2
      simp (disch:=omega)only[go_sem,vq,AP.f208L0,hb,ln,b1,f1,l0,cmp]
     rw[if_pos rfl]
     rcases Gn s hl h b hb rd q (p++[x]) (by rw[hp];simp)with ⟨e',r1,r2,r3⟩|⟨e',r1,r2,r3⟩
     · rw[w1]at r1
       exact .inl ⟨e',td step r1,r2,by rw[r3];simp⟩
     · rw[w1]at r1
       refine .inr ⟨e',td step r1,by rw[r2,w2];congr 2;omega,r3⟩
   | false =>
     have cmp:br .geq (.str x.1.name) (.str s)=some (.bool true):=by
      show some (AV.bool (!(Op.bytesLess x.1.name.toList s.toList)))=_
      rw[hc];rfl
     have cm2:br .eql (.str x.1.name) (.str s)=some (.bool (x.1.name.toList==s.toList)):=rfl
     rw[if_neg (by decide)]
     refine .inr ⟨[(4,.int .i64 p.length),(5,.bool (x.1.name.toList==s.toList))],tF ?_,rfl,rfl⟩
     clear rd a1 a2 pe f2 hp b2
     simp (disch:=omega)only[go_sem,vq,AP.f208L0,hb,ln,b1,f1,l0,cmp,cm2]
theorem Gp (h:H) (v:AV) (l:List vG) (s:ByteArray) (hvs:v.sc=true) (hn:l.length<1125899906842624) (rd:xb 9 h v l.length (vD l)):aS AP.A 208 [.agg [v],.str s] h=some (.bS [.int .i64 (vJ s (l.map (·.1))).1,.bool (vJ s (l.map (·.1))).2],h):=by
 obtain⟨h1,eh1⟩:∃g,g=h.eh.alloc [v]:=⟨_,rfl⟩
 have hx0:Ext h h1:=by rw[eh1];exact fun i c q=>((Ext.refl h.eh).alloc _) i c q
 have hn0:h.eh.next=h.next:=rfl
 have g1:h1.get h.next=some [v]:=by rw[eh1];exact vu rfl
 have rd1:=rd.mono fun i c q=>hx0 i c q
 have ln:=rd1.len
 rcases Gn s hn h1 h.next g1 rd1 l [] rfl with ⟨e',r1,r2,r3⟩|⟨e',r1,r2,r3⟩
 · have r1':Lp AP.A [1,2,6] AP.f208L0 [(1,.str s),(2,.aE h.next 0),(6,.int .i64 0)] h1=some (.exit 0,e',h1):=r1
   rw[r3]
   refine tQ (fn:=AP.f208) (h2:=h1) (e:=[(4,.int .i64 l.length),(5,.bool false)]) (vs:=[.int .i64 l.length,.bool false]) rfl rfl rfl ?_ rfl rfl
   clear rd rd1 hx0 r1 r3
   simp (disch:=omega)only[go_sem,vq,AP.f208,hvs,hn0,←eh1,g1,ln,rV,r1',r2]
 · have r1':Lp AP.A [1,2,6] AP.f208L0 [(1,.str s),(2,.aE h.next 0),(6,.int .i64 0)] h1=some (.ret,e',h1):=r1
   rw[show([]:List vG).length+(vJ s (l.map (·.1))).1=(vJ s (l.map (·.1))).1 by simp]at r2
   generalize vJ s (l.map (·.1))=P at *
   refine tQ (fn:=AP.f208) (h2:=h1) (e:=e') (vs:=[.int .i64 P.1,.bool P.2]) rfl rfl rfl ?_ (by simp only[AP.f208,cO,na,r2,r3];rfl) rfl
   clear rd rd1 hx0 r1 r2 r3
   simp (disch:=omega)only[go_sem,vq,AP.f208,hvs,hn0,←eh1,g1,ln,rV,r1']
def IW (bs:List Nat):List Nat:=IQ bs 0 []
structure Wr (h:H) (w:Nat) (bs:List Nat) (ov:AV):Prop where
 get:h.get w=some [ov,.int .i64 (bs.length:Nat)]
 own:vT 1 h ov (IW bs).length (zj (IW bs))
 fl:h.floor≤w
 Uw:h.floor≤h.next
 ne:ov.id?≠some w
 Uv:TN (IW bs)
structure PY (h:H) (w:Nat) (ov:AV) (h':H) (ov':AV):Prop where
 floor:h'.floor=h.floor
 next:h.next≤h'.next
 wW:∀i,i<h.next→i≠w→ov.id?≠some i→h'.get i=h.get i
 ids:∀j,ov'.id?=some j→ov.id?=some j∨h.next≤j
theorem PY.refl (h:H) (w:Nat) (ov:AV):PY h w ov h ov:=⟨rfl,uK _,fun _ _ _ _=>rfl,fun _ h=>.inl h⟩
theorem PY.trans {h1 h2 h3:H} {w:Nat} {o1 o2 o3:AV} (a:PY h1 w o1 h2 o2) (b:PY h2 w o2 h3 o3):PY h1 w o1 h3 o3:=
 ⟨by rw [b.floor, a.floor], u6 a.next b.next, fun i h hw ho => by
   rw[b.wW i (by have:=a.next;omega) hw (fun q=>by rcases a.ids i q with q|q;exact ho q;omega),a.wW i h hw ho],
  fun j h=>by
   rcases b.ids j h with q|q
   · exact a.ids j q
   · exact .inr (u6 a.next q)⟩
theorem vT.hi {h:H} {w:AV} {k n:Nat} {cs:List AV} (o:vT n h w k cs) (hn:0<n) {m:Nat} (hm:m≤k):∃u,rP h n w none (some (.int .i64 m)) none=some u∧aT h n u=some (m,cs.take (m* n))∧u.sc=true:=by
 obtain⟨l,⟨rfl,rfl⟩|⟨id,rfl,hg,hf,hk⟩⟩:=o
 · obtain rfl:m=0:=by omega
   obtain rfl:cs=[]:=UO (by omega)
   exact⟨.aQ,rfl,by simp [aT],rfl⟩
 · have d:(cs.length-0)/n=k:=by rw[l,Nat.sub_zero,Nat.mul_div_cancel _ hn]
   refine⟨.aF id 0 m n, ?_, ?_,rfl⟩
   · have:=Sp (h:=h) (n:=n) (p:=id) (o:=0) (k:=k) (m:=m) hg hn (by omega) ⟨by omega,by rw[d];simpa using hm⟩
     rw[this];rfl
   · simp only[aT,if_true,hg,uG,uP,UK]
     rw[if_pos (by rw[l];exact uN _ hm)]
theorem vT.lo {h : H} {w : AV} {k n : Nat} {cs : List AV} (o : vT n h w k cs) (hn : 0 < n) {m : Nat} (hm : m ≤ k) : ∃ u, rP h n w (some (.int .i64 m)) none none = some u ∧ aT h n u = some (k - m, cs.drop (m * n)) ∧ u.sc = true := by
 obtain⟨l,⟨rfl,rfl⟩|⟨id,rfl,hg,hf,hk⟩⟩:=o
 · obtain rfl:m=0:=by omega
   obtain rfl:cs=[]:=UO (by omega)
   exact⟨.aQ,rfl,by simp [aT],rfl⟩
 · have d:cs.length/n=k:=by rw[l,Nat.mul_div_cancel _ hn]
   have mk:=uN n hm
   refine⟨.aF id (0+m* n) (k-m) n, ?_, ?_,rfl⟩
   · simp only[rP,hn,and_self,if_true,hg,uG,aC,Nat.sub_zero,d]
     rw[if_pos ⟨by omega,uK _⟩]
     have h3:ko (.int .i64 m) k=some m:=by
      simp only[ko,nE,uG]
      rw[if_pos]
      · rfl
      · omega
     simp [h3]
   · simp only[aT,if_true,hg,uG,uP]
     have e:m* n+(k-m)* n=k* n:=by rw[←u0];congr 1;omega
     rw[if_pos (by omega)]
     rw[uZ]
     rw[List.length_drop];omega
def P1 (e:vN):vG:=(e,wJ e.vec)
def J0 (L:List vN):AV:=DV 9 L.length (vD (L.map P1))
theorem J2 (L:List vN):(J0 L).sc=true:=by unfold J0 DV;split<;>rfl
theorem J1 (g:H) (L:List vN):xb 9 g (J0 L) (L.map P1).length (vD (L.map P1)):=by
 have:=DQ (n:=9) (k:=L.length) (h:=g) (cs:=vD (L.map P1)) (by rw[xm,UF])
 rw[UF];exact this
theorem zP:∀{a b c:List UInt8},Op.bytesLess a b=true→Op.bytesLess b c=true→Op.bytesLess a c=true
 |_,[],_,h,_=>by simp [Op.bytesLess]at h
 |_,_::_,[],_,h=>by simp [Op.bytesLess]at h
 |[],y::b,z::c,_,_=>rfl
 | x :: a, y :: b, z :: c, h1, h2 => by
   simp only[Op.bytesLess,uX,UH,uL,beq_iff_eq]at h1 h2 ⊢
   rcases h1 with h1|⟨rfl,h1⟩
   · rcases h2 with h2|⟨rfl,h2⟩
     · exact .inl (UInt8.lt_trans h1 h2)
     · exact .inl h1
   · rcases h2 with h2|⟨rfl,h2⟩
     · exact .inl h2
     · exact .inr ⟨rfl,zP h1 h2⟩
def P5 (l:List vN):Prop:=∀(i j:Nat) (x y:vN),i<j→l[i]?=some x→l[j]?=some y→Op.bytesLess x.name.toList y.name.toList=true
theorem ET : ∀ {l : List vN} {p : vN}, wK (some p) l = true → (∀ x ∈ l, Op.bytesLess p.name.toList x.name.toList = true) ∧ P5 l
 |[],p,_=>⟨fun x h=>(by cases h),fun i j x y _ h _=>(by simp at h)⟩
 | e :: l, p, h => by
   rw[wK,uL]at h
   obtain⟨i1,i2⟩:=ET h.2
   have h1:Op.bytesLess p.name.toList e.name.toList=true:=by
    have:=h.1
    unfold xE at this
    simp only[uL]at this
    exact this.2.1
   refine⟨fun x hx=> ?_,fun i j x y hij hx hy=> ?_⟩
   · rcases u5.1 hx with rfl|hx
     · exact h1
     · exact zP h1 (i1 x hx)
   · match i,j,hij with
     | 0, j + 1, _ =>
       simp only[List.getElem?_cons_zero,uC]at hx
       subst hx
       exact i1 y (uO (by simpa using hy))
     |i+1,j+1,hij=>exact i2 i j x y (by omega) (by simpa using hx) (by simpa using hy)
theorem I7 {l:List vN} (h:wR l=true):P5 l:=by
 unfold wR at h
 rw[uL]at h
 match l,h.1 with
 |[],_=>exact fun i j x y _ h _=>by simp at h
 | e :: l, h1 =>
   rw[wK,uL]at h1
   obtain⟨i1,i2⟩:=ET h1.2
   intro i j x y hij hx hy
   match i,j,hij with
   | 0, j + 1, _ =>
     simp only[List.getElem?_cons_zero,uC]at hx
     subst hx
     exact i1 y (uO (by simpa using hy))
   |i+1,j+1,hij=>exact i2 i j x y (by omega) (by simpa using hx) (by simpa using hy)
theorem EM (s:ByteArray):∀(l:List vN) (i:Nat),i≤l.length→(∀(k:Nat) (x:vN),k<i→l[k]?=some x→Op.bytesLess x.name.toList s.toList=true)→(∀x:vN,l[i]?=some x→Op.bytesLess x.name.toList s.toList=false)→
 vJ s l=(i,match l[i]? with|some x=>x.name.toList==s.toList|none=>false)
 | [], i, hi, _, _ => by
   have:i=0:=by simpa using hi
   subst this;rfl
 | e :: l, 0, _, _, h2 => by
   have:=h2 e rfl
   rw[vJ,this,if_neg (by decide)];rfl
 | e :: l, i + 1, hi, h1, h2 => by
   have he:=h1 0 e (by omega) rfl
   rw[vJ,he,if_pos rfl,EM s l i (by simpa using hi) (fun k x hk hx=>h1 (k+1) x (by omega) (by simpa using hx)) (fun x hx=>h2 x (by simpa using hx))]
   simp
theorem PG (h:H) (a b:ByteArray):aS AP.A 314 [.str a,.str b] h=some (.int .i64 (if Op.bytesLess a.toList b.toList then-1 else if a.toList==b.toList then 0 else 1),h):=by
 have n1:∀(g:H) (x:ByteArray),aS AP.A 315 [.str x] g=some (.bool false,g):=fun g x=>by
  have:br .neq (.str x) (.str x)=some (.bool false):=by rw[AD];simp
  refine tQ (fn:=AP.f315) (h2:=g.eh) (e:=[(2,.bool false)]) rfl rfl rfl ?_ rfl rfl
  simp (disch:=omega)only[go_sem,vq,AP.f315,this]
 have c1:br .lss (.str a) (.str b)=some (.bool (Op.bytesLess a.toList b.toList)):=rfl
 have c2:br .gtr (.str a) (.str b)=some (.bool (!(Op.bytesLess a.toList b.toList||a.toList==b.toList))):=rfl
 refine tQ (fn:=AP.f314) (h2:=h.eh) (e:=[(4,.int .i64 (if Op.bytesLess a.toList b.toList then-1 else if a.toList==b.toList then 0 else 1))]) rfl rfl rfl ?_ rfl rfl
 generalize Op.bytesLess a.toList b.toList=B1 at *
 generalize (a.toList==b.toList)=B2 at *
 cases B1<;>cases B2<;>simp only[uH,if_true,vh]<;>simp (disch:=omega)only[go_sem,vq,AP.f314,n1,c1,c2]
theorem IJ (h:H) (e:vN) (v:AV) (hv:v.sc=true) (s:ByteArray):aS AP.A 313 [.agg (vw e v),.str s] h=some (.int .i64 (if Op.bytesLess e.name.toList s.toList then-1 else if e.name.toList==s.toList then 0 else 1),h):=by
 obtain⟨E,hE⟩:∃E,E=vw e v:=⟨_,rfl⟩
 have lE:E.length=9:=by rw[hE];rfl
 have cE:AV.aD E=true:=by rw[hE];exact yH hv
 have e0:E[0]?=some (.str e.name):=by rw[hE];rfl
 obtain⟨h1,eh1⟩:∃g,g=h.eh.alloc E:=⟨_,rfl⟩
 have g1:h1.get h.next=some E:=by rw[eh1];exact vu rfl
 have n0:h.eh.next=h.next:=rfl
 have k1:=PG h1 e.name s
 rw[←hE]
 generalize (if Op.bytesLess e.name.toList s.toList then(-1:Int)else if e.name.toList==s.toList then 0 else 1)=V at *
 refine tQ (fn:=AP.f313) (h2:=h1) (e:=[(4,.int .i64 V)]) rfl rfl rfl ?_ rfl rfl
 clear hE
 simp (disch:=omega)only[go_sem,vq,AP.f313,lE,cE,n0,←eh1,g1,e0,k1]
theorem JK {v : AV} {l : List vG} (hl : l.length ≤ 6) (h : H) (rd : xb 9 h v l.length (vD l)) (hv : ∀ x ∈ l, x.2.sc = true) (s : ByteArray) (ris : P5 (l.map (·.1))) : ∀ (m i j : Nat), j - i ≤ m → i ≤ j → j ≤ l.length →
 (∀(k:Nat) (x:vN),k<i→(l.map (·.1))[k]?=some x→Op.bytesLess x.name.toList s.toList=true)→(∀(k:Nat) (x:vN),j≤k→(l.map (·.1))[k]?=some x→Op.bytesLess x.name.toList s.toList=false)→
 ∃ e' k, Lp AP.A [0, 1, 2, 8, 9, 10] AP.f312L0 [(0, v), (1, .str s), (2, .fn 313 [] []), (8, .int .i64 l.length), (9, .int .i64 i), (10, .int .i64 j)] h = some (.exit 0, e', h) ∧ look e' 0 = v ∧ look e' 1 = .str s ∧ look e' 2 = .fn 313 [] [] ∧ look e' 8 = .int .i64 l.length ∧ look e' 9 = .int .i64 (k : Nat) ∧ k ≤ l.length ∧
   (∀(q:Nat) (x:vN),q<k→(l.map (·.1))[q]?=some x→Op.bytesLess x.name.toList s.toList=true)∧(∀x:vN,(l.map (·.1))[k]?=some x→Op.bytesLess x.name.toList s.toList=false):=by
 intro m
 induction m with
 | zero =>
   intro i j hm hij hj h1 h2
   obtain rfl:i=j:=by omega
   refine⟨[(0,v),(1,.str s),(2,.fn 313 [] []),(8,.int .i64 l.length),(9,.int .i64 i),(10,.int .i64 i),(17,.bool false)],i,tc ?_,rfl,rfl,rfl,rfl,rfl,hj,h1,fun x hx=>h2 i x (uK _) hx⟩
   clear h1 h2 ris hv rd
   simp (disch:=omega)only[go_sem,vq,AP.f312L0]
 | succ m ih =>
   intro i j hm hij hj h1 h2
   by_cases c:i=j
   · subst c
     exact ih i i (by omega) (uK _) hj h1 h2
   have lt:i<j:=by omega
   obtain⟨q,hq⟩:∃q,q=(i+j)/2:=⟨_,rfl⟩
   obtain⟨x,hx⟩:∃x,l[q]?=some x:=⟨l[q]'(by omega),by simp⟩
   have hx':(l.map (·.1))[q]?=some x.1:=by rw[uT,hx];rfl
   obtain⟨ad,a1,a2⟩:=rd.Ff
   have b1:=a1 q ⟨by omega,by omega⟩
   have b2:=(a2 h (Ext.refl h) q x hx).2
   have k1:=IJ h x.1 x.2 (hv x (uO hx)) s
   have w1:IntKind.wrap .u64 ((i:Int)+j)=((i+j:Nat):Int):=by simp [IntKind.wrap,IntKind.bits,IntKind.signed];omega
   have w2:o4 .shr .u64 ((i+j:Nat):Int) 1=some (.int .u64 (q:Nat)):=by
    unfold o4
    rw[if_neg (by decide),hq]
    simp [IntKind.bits,Int.fdiv_eq_ediv_of_nonneg]
   have w3:IntKind.wrap .i64 (q:Int)=q:=wi (by omega)
   have w4:((q+1:Nat):Int)=(q:Int)+1:=by omega
   by_cases cl:Op.bytesLess x.1.name.toList s.toList=true
   · rw[if_pos cl]at k1
     obtain⟨e',k,r1,r2⟩:=ih (q+1) j (by omega) (by omega) hj (fun t y ht hy=>by
      by_cases ct:t=q
      · subst ct;rw[hx']at hy;obtain rfl:=uz hy;exact cl
      · exact zP (ris t q y x.1 (by omega) hy hx') cl) h2
     rw[w4]at r1
     refine⟨e',k,td ?_ r1,r2⟩
     clear h1 h2 ris hv rd r1 r2 a1 a2 hx hx' ih
     simp (disch:=omega)only[go_sem,vq,AP.f312L0,w1,w2,w3,b1,b2,k1,nJ]
   · have cl':Op.bytesLess x.1.name.toList s.toList=false:=by simpa using cl
     rw[if_neg cl]at k1
     obtain⟨e',k,r1,r2⟩:=ih i q (by omega) (by omega) (by omega) h1 (fun t y ht hy=>by
      by_cases ct:t=q
      · subst ct;rw[hx']at hy;obtain rfl:=uz hy;exact cl'
      · cases cy:Op.bytesLess y.name.toList s.toList with
        |false=>rfl
        |true=>exact absurd (zP (ris q t x.1 y (by omega) hx' hy) cy) cl)
     refine⟨e',k,td ?_ r1,r2⟩
     have k0:(if(x.1.name.toList==s.toList)=true then(0:Int)else 1)=0∨(if(x.1.name.toList==s.toList)=true then(0:Int)else 1)=1:=by split<;>simp
     generalize (if(x.1.name.toList==s.toList)=true then(0:Int)else 1)=V at *
     have k2:¬V<0:=by omega
     clear h1 h2 ris hv rd r1 r2 a1 a2 hx hx' ih k0
     simp (disch:=omega)only[go_sem,vq,AP.f312L0,w1,w2,w3,b1,b2,k1,nJ,df k2]
theorem Qf (h:H) (v:AV) (l:List vG) (hl:l.length≤6) (rd:xb 9 h v l.length (vD l)) (hv:∀x∈l,x.2.sc=true) (s:ByteArray) (ris:P5 (l.map (·.1))):aS AP.A 312 [v,.str s,.fn 313 [] []] h=some (.bS [.int .i64 (vJ s (l.map (·.1))).1,.bool (vJ s (l.map (·.1))).2],h):=by
 have rdf:xb 9 h.eh v l.length (vD l):=rd.mono fun i c q=>q
 have ln:=rdf.len
 obtain⟨e',k,r1,r2,r3,r4,r5,r6,r7,r8,r9⟩:=JK hl h.eh rdf hv s ris l.length 0 l.length (by omega) (by omega) (uK _) (fun k x hk=>by omega) (fun k x hk hx=>by
  rw[List.getElem?_eq_none (by simpa using hk)]at hx;cases hx)
 have r1':Lp AP.A [0,1,2,8,9,10] AP.f312L0 [(0,v),(1,.str s),(2,.fn 313 [] []),(8,.int .i64 l.length),(9,.int .i64 0),(10,.int .i64 l.length)] h.eh=some (.exit 0,e',h.eh):=r1
 rw[EM s _ k (by simpa using r7) r8 r9]
 by_cases c:k<l.length
 · obtain⟨x,hx⟩:∃x,l[k]?=some x:=⟨l[k],by simp⟩
   have hx':(l.map (·.1))[k]?=some x.1:=by rw[uT,hx];rfl
   have nl:=r9 _ hx'
   rw[hx']
   obtain⟨ad,a1,a2⟩:=rdf.Ff
   have b1:=a1 k ⟨by omega,by omega⟩
   have b2:=(a2 h.eh (Ext.refl _) k x hx).2
   have k1:=IJ h.eh x.1 x.2 (hv x (uO hx)) s
   rw[nl,if_neg (by decide)]at k1
   refine tQ (fn:=AP.f312) (h2:=h.eh) (e:=[(6,.int .i64 k),(7,.bool (x.1.name.toList==s.toList))]) (vs:=[.int .i64 k,.bool (x.1.name.toList==s.toList)]) rfl rfl rfl ?_ rfl rfl
   generalize (x.1.name.toList==s.toList)=B at *
   clear rd rdf ris hv r1 r8 r9 a1 a2 hx hx' nl
   cases B
   · rw[if_neg (by decide)]at k1
     simp (disch:=omega)only[go_sem,vq,AP.f312,ln,rV,r1',r2,r3,r4,r5,r6,b1,b2,k1,nJ]
   · rw[if_pos rfl]at k1
     simp (disch:=omega)only[go_sem,vq,AP.f312,ln,rV,r1',r2,r3,r4,r5,r6,b1,b2,k1,nJ]
 · have e:(l.map (·.1))[k]?=none:=List.getElem?_eq_none (by simpa using c)
   rw[e]
   refine tQ (fn:=AP.f312) (h2:=h.eh) (e:=[(6,.int .i64 k),(7,.bool false)]) (vs:=[.int .i64 k,.bool false]) rfl rfl rfl ?_ rfl rfl
   clear rd rdf ris hv r1 r8 r9 e
   simp (disch:=omega)only[go_sem,vq,AP.f312,ln,rV,r1',r2,r3,r4,r5,r6]
theorem KN (h:H) (b o:Nat) {C:List AV} (v:AV) (g:h.get b=some C) (ho:C[o]?=some v) (l:List vG) (hl:l.length≤6) (rd:xb 9 h v l.length (vD l)) (hv:∀x∈l,x.2.sc=true) (s:ByteArray) (ris:P5 (l.map (·.1))):
 aS AP.A 307 [.aE b o,.str s] h=some (.bS [.int .i64 (vJ s (l.map (·.1))).1,.bool (vJ s (l.map (·.1))).2],h):=by
 have k1:=Qf h v l hl rd hv s ris
 generalize vJ s (l.map (·.1))=P at *
 refine tw (fn:=AP.f307) (h2:=h) (e:=[(4,.int .i64 P.1),(5,.bool P.2)]) (vs:=[.int .i64 P.1,.bool P.2]) rfl rfl rfl ?_ rfl
 clear rd hv ris
 simp (disch:=omega)only[go_sem,vq,AP.f307,UZ,g,ho,k1]
theorem F5 {v w : AV} {a b : List Int} (hab : a.length = b.length) (hl : a.length < 1125899906842624) (h : H) (ra : Rd h v (ints a)) (rb : Rd h w (ints b)) : ∀ (q r p p' : List Int), a = p ++ q → b = p' ++ r → p.length = p'.length →
 (∃e',Lp AP.A [0,1,12,13] AP.f311L0 [(0,v),(1,w),(12,.int .i64 a.length),(13,.int .i64 p.length)] h=some (.exit 0,e',h)∧q=r)∨
 (∃e',Lp AP.A [0,1,12,13] AP.f311L0 [(0,v),(1,w),(12,.int .i64 a.length),(13,.int .i64 p.length)] h=some (.ret,e',h)∧look e' 4=.bool false∧q≠r)
 | [], r, p, p', hp, hp', hpp => by
   rw[UI]at hp;subst hp
   have hr:r=[]:=UO (by rw[hp',vg]at hab;omega)
   refine .inl ⟨[(0,v),(1,w),(12,.int .i64 a.length),(13,.int .i64 a.length),(14,.bool false)],tc ?_,hr.symm⟩
   simp (disch:=omega)only[go_sem,vq,AP.f311L0]
 | x :: q, [], p, p', hp, hp', hpp => by
   rw[hp,hp']at hab;simp at hab;omega
 | x :: q, y :: r, p, p', hp, hp', hpp => by
   have hlen:a.length=p.length+(q.length+1):=by rw[hp];simp
   obtain⟨ad,a1,a3⟩:=ra.wT
   obtain⟨bd,b1,b3⟩:=rb.wT
   have i1:=a1 p.length ⟨by omega,by omega⟩
   have i2:=a3 h (Ext.refl h) p.length x (by rw[hp];simp)
   have j1:=b1 p.length ⟨by omega,by omega⟩
   have j2:=b3 h (Ext.refl h) p.length y (by rw[hp',hpp];simp)
   have ih:=F5 hab hl h ra rb q r (p++[x]) (p'++[y]) (by rw[hp];simp) (by rw[hp'];simp) (by simp [hpp])
   have w1:(((p++[x]).length:Nat):Int)=(p.length:Int)+1:=by simp
   rw[w1]at ih
   by_cases c:x=y
   · have step:aM (aS AP.A) bD AP.f311L0 (ay [(0,v),(1,w),(12,.int .i64 a.length),(13,.int .i64 p.length)] [0,1,12,13]) h=some (.normal,[(0,v),(1,w),(12,.int .i64 a.length),(13,.int .i64 ((p.length:Int)+1))],h):=by
      clear ih ra rb a1 a3 b1 b3 hp hp'
      simp (disch:=omega)only[go_sem,vq,AP.f311L0,i1,i2,j1,j2,KU c]
     rcases ih with ⟨e',r1,r2⟩|⟨e',r1,r2,r3⟩
     · exact .inl ⟨e',td step r1,by rw[c,r2]⟩
     · exact .inr ⟨e',td step r1,r2,fun q=>r3 (List.cons.inj q).2⟩
   · refine .inr ⟨[(4,.bool false)],tF ?_,rfl,fun q=>c (List.cons.inj q).1⟩
     clear ih ra rb a1 a3 b1 b3 hp hp'
     simp (disch:=omega)only[go_sem,vq,AP.f311L0,i1,i2,j1,j2,Py c]
theorem Re (h:H) (v w:AV) (a b:List Int) (ra:Rd h v (ints a)) (rb:Rd h w (ints b)) (hl:a.length<1125899906842624) (hb:b.length<1125899906842624):aS AP.A 311 [v,w] h=some (.bool (decide (a=b)),h):=by
 have la:=ra.len
 have lb:=rb.len
 rw[pC]at la lb
 simp only[I]at la lb
 have ra':Rd h.eh v (ints a):=ra.mono fun i c q=>q
 have rb':Rd h.eh w (ints b):=rb.mono fun i c q=>q
 by_cases c:a.length=b.length
 · rcases F5 c hl h.eh ra' rb' a b [] [] rfl rfl rfl with ⟨e',r1,r2⟩|⟨e',r1,r2,r3⟩
   · have r1':Lp AP.A [0,1,12,13] AP.f311L0 [(0,v),(1,w),(12,.int .i64 a.length),(13,.int .i64 0)] h.eh=some (.exit 0,e',h.eh):=r1
     rw[dt r2]
     refine tQ (fn:=AP.f311) (h2:=h.eh) (e:=[(4,.bool true)]) rfl rfl rfl ?_ rfl rfl
     clear ra rb ra' rb' r1 r2
     have c':((a.length:Nat):Int)=b.length:=by omega
     simp (disch:=omega)only[go_sem,vq,AP.f311,la,lb,rV,r1',KU c']
   · have r1':Lp AP.A [0,1,12,13] AP.f311L0 [(0,v),(1,w),(12,.int .i64 a.length),(13,.int .i64 0)] h.eh=some (.ret,e',h.eh):=r1
     rw[df r3]
     refine tQ (fn:=AP.f311) (h2:=h.eh) (e:=e') (vs:=[.bool false]) rfl rfl rfl ?_ (by simp only[AP.f311,cO,na,r2];rfl) rfl
     clear ra rb ra' rb' r1 r3
     have c':((a.length:Nat):Int)=b.length:=by omega
     simp (disch:=omega)only[go_sem,vq,AP.f311,la,lb,rV,r1',KU c']
 · rw[df (fun q=>c (by rw[q]))]
   refine tQ (fn:=AP.f311) (h2:=h.eh) (e:=[(4,.bool false)]) rfl rfl rfl ?_ rfl rfl
   clear ra rb ra' rb'
   have c':¬((a.length:Nat):Int)=b.length:=by omega
   simp (disch:=omega)only[go_sem,vq,AP.f311,la,lb,Py c']
structure SB (B:Nat) (h:H) (o n i:Nat) (cs:List AV):Prop where
 get:h.get o=some cs
 len:cs.length=n* 2
 fl:h.floor≤o
 bo:B≤o
 el:∀k,k<n→∃(s:ByteArray) (j:Nat) (l:List Int),cs[k* 2]?=some (.str s)∧s.size≤8+(if k<i then 1 else 0)∧cs[k* 2+1]?=some (.aF j 0 4 1)∧h.get j=some (ints l)∧l.length=4∧B≤j∧j≠o∧h.floor≤j
structure SE (z f B N:Nat) (h:H) (o n i:Nat) (cs:List AV):Prop where
 get:h.get o=some cs
 len:cs.length=n* z
 fl:h.floor≤o
 bo:B≤o∧o<N
 el:∀k,k<n→∃(s:ByteArray) (j:Nat) (l:List Int),cs[k* z]?=some (.str s)∧s.size≤8+(if k<i then 1 else 0)∧cs[k* z+f]?=some (.aF j 0 4 1)∧h.get j=some (ints l)∧l.length=4∧B≤j∧j≠o∧h.floor≤j∧j<N
structure WE (B:Nat) (h:H) (v:AV) (l:List vG):Prop where
 own:vT 9 h v l.length (vD l)
 ge:∀i,v.id?=some i→B≤i
 el:∀x∈l,x.1.name.size≤8∧x.1.vec.length=4∧∃j,x.2=.aF j 0 4 1∧h.get j=some (ints x.1.vec)∧B≤j∧v.id?≠some j∧h.floor≤j
theorem WE.mono {B:Nat} {h g:H} {v:AV} {l:List vG} (w:WE B h v l) (hf:g.floor=h.floor) (hg:∀i,B≤i→i<h.next→(v.id?=some i∨∃x∈l,x.2.id?=some i)→g.get i=h.get i):WE B g v l:=
 ⟨w.own.mono hf fun i q=>hg i (w.ge i q) (w.own.lt q).2 (.inl q),w.ge,fun x hx=>by
  obtain⟨c1,c2,j,a1,a2,a3,a4,a5⟩:=w.el x hx
  exact⟨c1,c2,j,a1,by rw[hg j a3 (h.lt _ _ a2) (.inr ⟨x,hx,by rw[a1];rfl⟩)];exact a2,a3,a4,by rw[hf];exact a5⟩⟩
def WI (B:Nat) (h:H) (v:AV) (l:List Int):Prop:=v=.aQ∨∃i,v=.aF i 0 l.length 1∧h.get i=some (ints l)∧h.floor≤i∧B≤i∧l.length<1000000
theorem WI.ge {B:Nat} {h:H} {v:AV} {l:List Int} (w:WI B h v l) {k:Nat} (hk:k<B):v.id?≠some k:=fun q=>by
 rcases w with rfl|⟨i,rfl,_,_,w3,_⟩
 · cases q
 · have:=uz q;omega
def WS (B:Nat) (h:H) (v:AV) (l:List ByteArray):Prop:=v=.aQ∨∃i,v=.aF i 0 l.length 1∧h.get i=some (xc l)∧h.floor≤i∧B≤i∧l.length<1000000∧∀s∈l,s.size≤1000
structure WB (B:Nat) (h:H) (v:AV) (l:List xR):Prop where
 own:vT 2 h v l.length (wB l)
 ge:∀i,v.id?=some i→B≤i
 el:∀x∈l,x.1.1.size≤8∧x.1.2.length=4∧∃j,x.2=.aF j 0 4 1∧h.get j=some (ints x.1.2)∧B≤j∧v.id?≠some j∧h.floor≤j
theorem WB.mono {B:Nat} {h g:H} {v:AV} {l:List xR} (w:WB B h v l) (hf:g.floor=h.floor) (hg:∀i,B≤i→i<h.next→(v.id?=some i∨∃x∈l,x.2.id?=some i)→g.get i=h.get i):WB B g v l:=
 ⟨w.own.mono hf fun i q=>hg i (w.ge i q) (w.own.lt q).2 (.inl q),w.ge,fun x hx=>by
  obtain⟨c1,c2,j,a1,a2,a3,a4,a5⟩:=w.el x hx
  exact⟨c1,c2,j,a1,by rw[hg j a3 (h.lt _ _ a2) (.inr ⟨x,hx,by rw[a1];rfl⟩)];exact a2,a3,a4,by rw[hf];exact a5⟩⟩
inductive WM (B:Nat) (h:H) (y:wN):Prop where
 |d (hd:WI B h y.vd y.m.wE) (e1:y.vb=.aQ) (e2:y.vf=.aQ) (e3:y.vn=.aQ) (e4:y.ve=.aQ)
 |b (hb:WI B h y.vb y.m.wP) (hf:WB B h y.vf y.fs) (hn:y.fs.length≤1000) (ap:∀i,y.vb.id?=some i→y.vf.id?≠some i∧∀x∈y.fs,x.2.id?≠some i) (e1:y.vd=.aQ) (e3:y.vn=.aQ) (e4:y.ve=.aQ)
 |n (hn:WS B h y.vn y.m.names) (e1:y.vd=.aQ) (e2:y.vb=.aQ) (e3:y.vf=.aQ) (e4:y.ve=.aQ)
 |e (he:WE B h y.ve y.es) (hn:y.es.length≤1000) (e1:y.vd=.aQ) (e2:y.vb=.aQ) (e3:y.vf=.aQ) (e4:y.vn=.aQ)
theorem Kd {m:zh} (h:¬(m.kind=0∨m.kind=1∨m.kind=2∨m.kind=3∨m.kind=4)):yc m=false:=by
 unfold yc
 rw[if_neg (by omega),if_neg (by omega),if_neg (by omega),if_neg (by omega),if_neg (by omega)]
theorem Sv (h:H) (n:Int):aS AP.A 261 [.int .i64 n] h=some (.bool (!z9 n),h):=by
 have k1:=Kb h.eh n
 refine tQ (fn:=AP.f261) (h2:=h.eh) (e:=[(2,.bool (!z9 n))]) rfl rfl rfl ?_ rfl rfl
 simp (disch:=omega)only[go_sem,vq,AP.f261,k1]
def Sw (v:AV):Bool:=match v with| .int .i64 n=> !z9 n|_=>false
theorem D8:∀l:List Int,(ints l).any Sw= !l.all z9
 |[]=>rfl
 |n::l=>by
  have:=D8 l
  simp only[ints,UL,List.any_cons,List.all_cons,Bool.not_and]at *
  rw[this];rfl
theorem IF {G:H} {P:Nat} {D:List AV} {r:Int} {v4 v5 v6 v7 v8:AV} {a b c d e:Nat} (g:G.get P=some D) (d3:D[3]?=some (.int .i64 r)) (d4:D[4]?=some v4) (d5:D[5]?=some v5) (d6:D[6]?=some v6) (d7:D[7]?=some v7) (d8:D[8]?=some v8)
 (l4:ji false v4=some (.int .i64 a)) (l5:ji false v5=some (.int .i64 b)) (l6:ji false v6=some (.int .i64 c)) (l7:ji false v7=some (.int .i64 d)) (l8:ji false v8=some (.int .i64 e)) (za:a<140737488355328) (zb:b<140737488355328) (zc:c<140737488355328) (zd:d<140737488355328) (ze:e<140737488355328) (F:Bool):
 aM (aS AP.A) bD (FN 4 AP.f233.body) [(1,.aE P 0),(3,.bool F)] G=some (.ret,[(2,.bool (F&&(decide (r=0)&&decide ((((a:Int)+b)+c+d)+e=0))))],G):=by
 cases F with
 |false=>simp (disch:=omega)only[go_sem,vq,AP.f233,Cy,Cz]
 | true =>
   by_cases cr:r=0
   · by_cases ct:(((a:Int)+b)+c+d)+e=0<;>simp (disch:=omega)only[go_sem,vq,AP.f233,Cy,Cz,g,d3,d4,d5,d6,d7,d8,l4,l5,l6,l7,l8]
   · simp (disch:=omega)only[go_sem,vq,AP.f233,Cy,Cz,g,d3,d4,d5,d6,d7,d8,l4,l5,l6,l7,l8]
theorem IE {G : H} {P : Nat} {C : List AV} {s d : Int} (g : G.get P = some C) (e1 : C[1]? = some (.int .i64 s)) (e2 : C[2]? = some (.int .i64 d)) : aM (aS AP.A) bD (at_ 1 AP.f233.body) [(1, .aE P 0)] G = if (wL s && (wL d && !decide (s = d))) = true then some (.normal, [(1, .aE P 0)], G) else some (.ret, [(2, .bool false)], G) := by
 have q1:=Cc G s
 have q2:=Cc G d
 cases b1:wL s with
 | false =>
   rw[b1]at q1
   rw[UJ,if_neg (by decide)]
   simp (disch:=omega)only[go_sem,vq,AP.f233,wI,wy,g,e1,e2,q1,q2]
 | true =>
   rw[b1]at q1
   cases b2:wL d with
   | false =>
     rw[b2]at q2
     rw[UJ,UM,if_neg (by decide)]
     simp (disch:=omega)only[go_sem,vq,AP.f233,wI,wy,g,e1,e2,q1,q2]
   | true =>
     rw[b2]at q2
     by_cases c:s=d
     · rw[dt c,Bool.not_true,UM,UM,if_neg (by decide)]
       simp (disch:=omega)only[go_sem,vq,AP.f233,wI,wy,g,e1,e2,q1,q2]
     · rw[df c,Bool.not_false,UW,UW,if_pos rfl]
       simp (disch:=omega)only[go_sem,vq,AP.f233,wI,wy,g,e1,e2,q1,q2]
theorem ID:AP.f233.body=.seq (at_ 0 AP.f233.body) (.seq (at_ 1 AP.f233.body) (.seq (at_ 2 AP.f233.body) (.seq (at_ 3 AP.f233.body) (FN 4 AP.f233.body)))):=rfl
theorem Pq (G:H) (x:wN) (o:AG G x) (P:Nat) (hP:G.floor≤P) (g:G.get P=some (vo x)) (hk:x.m.kind=0):∃H2,aM (aS AP.A) bD (at_ 3 AP.f233.body) [(1,.aE P 0),(3,.bool false)] G=some (.normal,[(1,.aE P 0),(3,.bool (z9 x.m.root))],H2)∧H2.get P=some (vo {x with m:={x.m with root:=0}}):=by
 have lC:(vo x).length=9:=rfl
 have e0:(vo x)[0]?=some (.int .i64 0):=by rw[←hk];rfl
 have e3:(vo x)[3]?=some (.int .i64 x.m.root):=rfl
 have st:tS G P 3 1 [.int .i64 0] (some (vo x))=some (G.set P (vo {x with m:={x.m with root:=0}})):=by rw[uk hP (by rw[lC];omega) rfl];rfl
 refine⟨G.set P (vo {x with m:={x.m with root:=0}}), ?_,by rw[vH rfl,g];rfl⟩
 have k1:=Kb G x.m.root
 clear o
 generalize vo {x with m:={x.m with root:=0}}=D at *
 generalize vo x=C at *
 simp (disch:=omega)only[go_sem,vq,AP.f233,wI,wy,g,e0,e3,st,k1]
theorem Pr (G:H) (x:wN) (o:AG G x) (P:Nat) (hP:G.floor≤P) (g:G.get P=some (vo x)) (hk:x.m.kind=1):∃H2,aM (aS AP.A) bD (at_ 3 AP.f233.body) [(1,.aE P 0),(3,.bool false)] G=some (.normal,[(1,.aE P 0),(3,.bool (decide (x.m.wE.length=8)&&x.m.wE.all z9))],H2)∧H2.get P=some (vo {x with vd:=.aQ}):=by
 have lC:(vo x).length=9:=rfl
 have e0:(vo x)[0]?=some (.int .i64 1):=by rw[←hk];rfl
 have e4:(vo x)[4]?=some (x.vd):=rfl
 have st:tS G P 4 1 [.aQ] (some (vo x))=some (G.set P (vo {x with vd:=.aQ})):=by rw[uk hP (by rw[lC];omega) rfl];rfl
 refine⟨G.set P (vo {x with vd:=.aQ}), ?_,by rw[vH rfl,g];rfl⟩
 have ld:=o.rd.len
 rw[pC]at ld
 simp only[I]at ld
 have zd:=o.zd
 have k1:x.m.wE.length=8→aS AP.A 83 [x.vd,.fn 261 [] []] G=some (.bool (!x.m.wE.all z9),G):=fun q=>by
  have:=z4 (fv:=.fn 261 [] []) Sw (fun v hv g=>by
   obtain⟨n,hn,rfl⟩:=UR.1 hv
   rw[nJ];exact Sv g n) (by rw[pC];omega) G o.rd
  rw[D8]at this;exact this
 clear o
 generalize vo {x with vd:=.aQ}=D at *
 generalize vo x=C at *
 by_cases c0:x.m.wE.length=8
 · generalize x.m.wE.all z9=B1 at *
   cases B1<;>simp (disch:=omega)only[go_sem,vq,AP.f233,wI,wy,g,e0,e4,st,ld,k1 c0,Bool.not_not]
 · simp (disch:=omega)only[go_sem,vq,AP.f233,wI,wy,g,e0,e4,st,ld]
theorem Ps (G:H) (x:wN) (o:AG G x) (P:Nat) (hP:G.floor≤P) (g:G.get P=some (vo x)) (hk:x.m.kind=2):∃H2,aM (aS AP.A) bD (at_ 3 AP.f233.body) [(1,.aE P 0),(3,.bool false)] G=some (.normal,[(1,.aE P 0),(3,.bool (decide (1≤x.m.wP.length)&&(yx x.m.wP&&(wG none (x.m.vB.map (·.1))&&(decide (x.m.vB.length≤6)&&x.m.vB.all fun b=>xa b.2)))))],H2)∧H2.get P=some (vo {x with vb:=.aQ,vf:=.aQ}):=by
 have lC:(vo x).length=9:=rfl
 have e0:(vo x)[0]?=some (.int .i64 2):=by rw[←hk];rfl
 have e5:(vo x)[5]?=some (x.vb):=rfl
 have e6:(vo x)[6]?=some (x.vf):=rfl
 obtain⟨D1,hD1⟩:∃D,D=vo {x with vb:=.aQ}:=⟨_,rfl⟩
 have lD1:D1.length=9:=by rw[hD1];rfl
 have g11:(G.set P D1).get P=some D1:=by rw[vH rfl,g];rfl
 have Cs:tS G P 5 1 [.aQ] (some (vo x))=some (G.set P D1):=by rw[uk hP (by rw[lC];omega) rfl,hD1];rfl
 have st:tS (G.set P D1) P 6 1 [.aQ] (some D1)=some (G.set P (vo {x with vb:=.aQ,vf:=.aQ})):=by rw[uk (by simpa using hP) (by rw[lD1];omega) rfl,H.set_set,hD1];rfl
 refine⟨G.set P (vo {x with vb:=.aQ,vf:=.aQ}), ?_,by rw[vH rfl,g];rfl⟩
 have lb:=o.rb.len
 rw[pC]at lb
 simp only[I]at lb
 have zb:=o.zb
 have k1:=HT G x.vb x.m.wP o.rb (by omega)
 have k2:=Ks G o
 have k3:=JO G o
 clear o hD1
 generalize vo {x with vb:=.aQ,vf:=.aQ}=D at *
 generalize vo x=C at *
 generalize yx x.m.wP=B1 at *
 generalize wG none (x.m.vB.map (·.1))=B2 at *
 generalize decide (x.m.vB.length≤6)=B4 at *
 generalize (x.m.vB.all fun b=>xa b.2)=B3 at *
 by_cases c0:1≤x.m.wP.length
 · cases B1<;>cases B2<;>cases B4<;>cases B3<;>simp (disch:=omega)only[go_sem,vq,AP.f233,wI,wy,g,e0,e5,e6,Cs,g11,st,lb,k1,k2,k3]
 · simp (disch:=omega)only[go_sem,vq,AP.f233,wI,wy,g,e0,e5,e6,Cs,g11,st,lb,k1,k2,k3]
theorem Pt (G:H) (x:wN) (o:AG G x) (P:Nat) (hP:G.floor≤P) (g:G.get P=some (vo x)) (hk:x.m.kind=3):∃H2,aM (aS AP.A) bD (at_ 3 AP.f233.body) [(1,.aE P 0),(3,.bool false)] G=some (.normal,[(1,.aE P 0),(3,.bool (wG none x.m.names&&(decide (1≤x.m.names.length)&&decide (x.m.names.length≤6))))],H2)∧H2.get P=some (vo {x with vn:=.aQ}):=by
 have lC:(vo x).length=9:=rfl
 have e0:(vo x)[0]?=some (.int .i64 3):=by rw[←hk];rfl
 have e7:(vo x)[7]?=some (x.vn):=rfl
 have st:tS G P 7 1 [.aQ] (some (vo x))=some (G.set P (vo {x with vn:=.aQ})):=by rw[uk hP (by rw[lC];omega) rfl];rfl
 refine⟨G.set P (vo {x with vn:=.aQ}), ?_,by rw[vH rfl,g];rfl⟩
 have k1:=Ku G o
 clear o
 generalize vo {x with vn:=.aQ}=D at *
 generalize vo x=C at *
 generalize (wG none x.m.names&&(decide (1≤x.m.names.length)&&decide (x.m.names.length≤6)))=B1 at *
 simp (disch:=omega)only[go_sem,vq,AP.f233,wI,wy,g,e0,e7,st,k1]
theorem Pu (G:H) (x:wN) (o:AG G x) (P:Nat) (hP:G.floor≤P) (g:G.get P=some (vo x)) (hk:x.m.kind=4):∃H2,aM (aS AP.A) bD (at_ 3 AP.f233.body) [(1,.aE P 0),(3,.bool false)] G=some (.normal,[(1,.aE P 0),(3,.bool ((wG none (x.m.wx.map (·.name))&&(decide (1≤x.m.wx.length)&&decide (x.m.wx.length≤6)))&&x.m.wx.all wZ))],H2)∧H2.get P=some (vo {x with ve:=.aQ}):=by
 have lC:(vo x).length=9:=rfl
 have e0:(vo x)[0]?=some (.int .i64 4):=by rw[←hk];rfl
 have e8:(vo x)[8]?=some (x.ve):=rfl
 have st:tS G P 8 1 [.aQ] (some (vo x))=some (G.set P (vo {x with ve:=.aQ})):=by rw[uk hP (by rw[lC];omega) rfl];rfl
 refine⟨G.set P (vo {x with ve:=.aQ}), ?_,by rw[vH rfl,g];rfl⟩
 have k1:=Kt G o
 have k2:=JP G o
 clear o
 generalize vo {x with ve:=.aQ}=D at *
 generalize vo x=C at *
 generalize (wG none (x.m.wx.map (·.name))&&(decide (1≤x.m.wx.length)&&decide (x.m.wx.length≤6)))=B1 at *
 generalize x.m.wx.all wZ=B2 at *
 cases B1<;>cases B2<;>simp (disch:=omega)only[go_sem,vq,AP.f233,wI,wy,g,e0,e8,st,k1,k2,Bool.not_not]
theorem Pv (G:H) (P:Nat) {C:List AV} {n:Int} (g:G.get P=some C) (e0:C[0]?=some (.int .i64 n)) (h:¬(n=0∨n=1∨n=2∨n=3∨n=4)):aM (aS AP.A) bD (at_ 3 AP.f233.body) [(1,.aE P 0),(3,.bool false)] G=some (.normal,[(1,.aE P 0),(3,.bool false)],G):=by
 simp (disch:=omega)only[go_sem,vq,AP.f233,wI,wy,g,e0]
theorem Pw (h : H) (x : wN) (o : AG h x) : aS AP.A 233 [.agg (vo x)] h = some (.bool (zU x.m), h) := by
 obtain⟨h1,eh1⟩:∃g,g=h.eh.alloc (vo x):=⟨_,rfl⟩
 have x1:Ext h h1:=fun i c q=>by rw[eh1];exact((Ext.refl h.eh).alloc _) i c q
 have g1:h1.get h.next=some (vo x):=by rw[eh1];exact vu rfl
 have n0:h.eh.next=h.next:=rfl
 have f1:h1.floor=h.next:=by rw[eh1];simp
 have o1:=o.mono x1
 have ld:=o1.rd.len
 have lb:=o1.rb.len
 have lf:=o1.rf.rd.len
 have ln:=o1.rn.len
 have le:=o1.re.len
 rw[pC]at ld lb
 rw[wH]at ln
 rw[show x.fs.length=x.m.vB.length by rw[←o.hf];simp]at lf
 rw[show x.es.length=x.m.wx.length by rw[←o.he];simp]at le
 have b0:aM (aS AP.A) bD (at_ 0 AP.f233.body) (params 0 [.agg (vo x)]) h.eh=some (.normal,[(1,.aE h.next 0)],h1):=by
  have cC:=y5 o
  have lC:(vo x).length=9:=rfl
  generalize vo x=C at *
  clear o o1 x1
  simp (disch:=omega)only[go_sem,vq,AP.f233,wy,lC,cC,n0,←eh1]
 have b1:=IE g1 (s:=x.m.src) (d:=x.m.dst) rfl rfl
 have b2:aM (aS AP.A) bD (at_ 2 AP.f233.body) [(1,.aE h.next 0)] h1=some (.normal,[(1,.aE h.next 0),(3,.bool false)],h1):=by
  simp (disch:=omega)only[go_sem,vq,AP.f233,wI,wy]
 have eA:zU x.m=((wL x.m.src&&(wL x.m.dst&& !decide (x.m.src=x.m.dst)))&&(yc x.m&&yB x.m)):=rfl
 obtain ⟨hZ, hh⟩ : ∃ hZ, aM (aS AP.A) bD AP.f233.body (params 0 [.agg (vo x)]) h.eh = some (.ret, [(2, .bool (zU x.m))], hZ) := by
  rw[ID,eA]
  generalize (wL x.m.src&&(wL x.m.dst&& !decide (x.m.src=x.m.dst)))=N at *
  cases N with
  | false =>
    rw[if_neg (by decide)]at b1
    refine⟨h1, ?_⟩
    rw[UJ,rI,b0,sD,rI,b1,sE]
  | true =>
    rw[if_pos rfl]at b1
    rw[UQ]
    have go:∀{F:Bool} {H2:H} {y:wN} {a b c d e:Nat},aM (aS AP.A) bD (at_ 3 AP.f233.body) [(1,.aE h.next 0),(3,.bool false)] h1=some (.normal,[(1,.aE h.next 0),(3,.bool F)],H2)→H2.get h.next=some (vo y)→
     ji false y.vd=some (.int .i64 a)→ji false y.vb=some (.int .i64 b)→ji false y.vf=some (.int .i64 c)→ji false y.vn=some (.int .i64 d)→ji false y.ve=some (.int .i64 e)→a<140737488355328→b<140737488355328→c<140737488355328→d<140737488355328→e<140737488355328→
     yc x.m=F→(F=true→yB x.m=(decide (y.m.root=0)&&decide ((((a:Int)+b)+c+d)+e=0)))→
     ∃hZ,aM (aS AP.A) bD (.seq (at_ 0 AP.f233.body) (.seq (at_ 1 AP.f233.body) (.seq (at_ 2 AP.f233.body) (.seq (at_ 3 AP.f233.body) (FN 4 AP.f233.body))))) (params 0 [.agg (vo x)]) h.eh=some (.ret,[(2,.bool (yc x.m&&yB x.m))],hZ):=fun {F H2 y a b c d e} k1 k2 l4 l5 l6 l7 l8 za zb zc zd ze ek el=>by
     have b4:=IF k2 (r:=y.m.root) rfl rfl rfl rfl rfl rfl l4 l5 l6 l7 l8 za zb zc zd ze F
     refine⟨H2, ?_⟩
     rw[rI,b0,sD,rI,b1,sD,rI,b2,sD,rI,k1,sD,b4,ek]
     cases F with
     |false=>rfl
     |true=>rw[el rfl]
    by_cases hk:x.m.kind=0
    · obtain⟨H2,k1,k2⟩:=Pq h1 x o1 h.next (by omega) g1 hk
      exact go k1 k2 ld lb lf ln le o.zd o.zb o.zf o.zn o.ze (by unfold yc;rw[if_pos hk]) fun _=>by rw[Pj hk];rfl
    by_cases hk:x.m.kind=1
    · obtain⟨H2,k1,k2⟩:=Pr h1 x o1 h.next (by omega) g1 hk
      exact go k1 k2 (a:=0) rfl lb lf ln le (by omega) o.zb o.zf o.zn o.ze (by unfold yc;rw[if_neg (by omega),if_pos hk]) fun _=>Pk hk
    by_cases hk:x.m.kind=2
    · obtain⟨H2,k1,k2⟩:=Ps h1 x o1 h.next (by omega) g1 hk
      exact go k1 k2 (b:=0) (c:=0) ld rfl rfl ln le o.zd (by omega) (by omega) o.zn o.ze (by unfold yc;rw[if_neg (by omega),if_neg (by omega),if_pos hk]) fun _=>Pm hk
    by_cases hk:x.m.kind=3
    · obtain⟨H2,k1,k2⟩:=Pt h1 x o1 h.next (by omega) g1 hk
      exact go k1 k2 (d:=0) ld lb lf rfl le o.zd o.zb o.zf (by omega) o.ze (by unfold yc;rw[if_neg (by omega),if_neg (by omega),if_neg (by omega),if_pos hk]) fun _=>lean_3 hk
    by_cases hk:x.m.kind=4
    · obtain⟨H2,k1,k2⟩:=Pu h1 x o1 h.next (by omega) g1 hk
      refine go k1 k2 (e:=0) ld lb lf ln rfl o.zd o.zb o.zf o.zn (by omega) ?_ fun _=>Pn hk
      unfold yc
      rw[if_neg (by omega),if_neg (by omega),if_neg (by omega),if_neg (by omega),if_pos hk]
      unfold v9 wR
      have:=EU x.m.wx none
      rw[UP]at this
      generalize decide (x.m.wx.length≤6)=W at *
      generalize decide (1≤x.m.wx.length)=W2 at *
      cases W<;>cases W2<;>simp only[Bool.and_true,UM,UJ,UQ]<;>exact this
    have k1:=Pv h1 h.next g1 (n:=x.m.kind) rfl (by omega)
    exact go k1 g1 ld lb lf ln le o.zd o.zb o.zf o.zn o.ze (Kd (by omega)) fun q=>by cases q
 exact tQ (fn:=AP.f233) (h2:=hZ) (e:=[(2,.bool (zU x.m))]) rfl rfl rfl hh rfl rfl
theorem Kc (h:H) (v w:AV) (a b:List Int) (ra:Rd h v (ints a)) (rb:Rd h w (ints b)) (ha:xa a=true) (hb:xa b=true) (hfn:h.floor≤h.next):∃h',aS AP.A 110 [v,w] h=some (.bS [.aF (h.next+1) 0 4 1,.int .i64 0],h')∧h'.get (h.next+1)=some (ints (wj a b))∧h'.floor=h.floor∧h'.next=h.next+2∧∀i,i<h.next→h'.get i=h.get i:=by
 have la:a.length=4:=by unfold xa at ha;simp only[uL,UH]at ha;exact ha.1
 have lb:b.length=4:=by unfold xa at hb;simp only[uL,UH]at hb;exact hb.1
 have k1:=GL h v a ra (by omega)
 have k2:=GL h w b rb (by omega)
 rw[ha]at k1;rw[hb]at k2
 have k3:=Dz h v a ra (by omega) (by omega) hfn
 rw[la]at k3
 obtain⟨h1,eh1⟩:∃g,g=((h.alloc []).del h.next).alloc (ints a):=⟨_,rfl⟩
 rw[←eh1]at k3
 have n1:h1.next=h.next+2:=by rw[eh1];simp
 have f1:h1.floor=h.floor:=by rw[eh1];simp
 have g1:h1.get (h.next+1)=some (ints a):=by rw[eh1];exact vu (by simp)
 have e1:Ext h h1:=fun i c q=>by
  have:=h.lt _ _ q
  rw[eh1,H.aX,if_neg (by simp;omega),H.ep,if_neg (by omega),H.aX,if_neg (by omega)];exact q
 have ln:=(rb.mono fun i c q=>e1 i c q).len
 rw[pC,lb]at ln
 obtain⟨adv,a1,a2⟩:=rb.wT
 obtain⟨a0,b0,c0,d0,rfl⟩:=KR la
 obtain⟨p0,p1,p2,p3,rfl⟩:=KR lb
 obtain⟨h2,eh2⟩:∃g,g=h1.set (h.next+1) (ints [w9 a0 p0,b0,c0,d0]):=⟨_,rfl⟩
 obtain⟨h3,eh3⟩:∃g,g=h2.set (h.next+1) (ints [w9 a0 p0,w9 b0 p1,c0,d0]):=⟨_,rfl⟩
 obtain⟨h4,eh4⟩:∃g,g=h3.set (h.next+1) (ints [w9 a0 p0,w9 b0 p1,w9 c0 p2,d0]):=⟨_,rfl⟩
 obtain⟨h5,eh5⟩:∃g,g=h4.set (h.next+1) (ints [w9 a0 p0,w9 b0 p1,w9 c0 p2,w9 d0 p3]):=⟨_,rfl⟩
 have g2:h2.get (h.next+1)=some (ints [w9 a0 p0,b0,c0,d0]):=by rw[eh2,vH rfl,g1];rfl
 have g3:h3.get (h.next+1)=some (ints [w9 a0 p0,w9 b0 p1,c0,d0]):=by rw[eh3,vH rfl,g2];rfl
 have g4:h4.get (h.next+1)=some (ints [w9 a0 p0,w9 b0 p1,w9 c0 p2,d0]):=by rw[eh4,vH rfl,g3];rfl
 have g5:h5.get (h.next+1)=some (ints [w9 a0 p0,w9 b0 p1,w9 c0 p2,w9 d0 p3]):=by rw[eh5,vH rfl,g4];rfl
 have e2:Ext h h2:=by rw[eh2];exact e1.set (by omega) _
 have e3:Ext h h3:=by rw[eh3];exact e2.set (by omega) _
 have e4:Ext h h4:=by rw[eh4];exact e3.set (by omega) _
 have s0:=zO h1 (h.next+1) w adv 0 a0 p0 _ (by omega) g1 rfl rfl (by omega) (a1 0 (by simp)) (a2 h1 e1 0 _ rfl)
 have s1:=zO h2 (h.next+1) w adv 1 b0 p1 _ (by omega) g2 rfl rfl (by rw[eh2];simp;omega) (a1 1 (by simp)) (a2 h2 e2 1 _ rfl)
 have s2:=zO h3 (h.next+1) w adv 2 c0 p2 _ (by omega) g3 rfl rfl (by rw[eh3,eh2];simp;omega) (a1 2 (by simp)) (a2 h3 e3 2 _ rfl)
 have s3:=zO h4 (h.next+1) w adv 3 d0 p3 _ (by omega) g4 rfl rfl (by rw[eh4,eh3,eh2];simp;omega) (a1 3 (by simp)) (a2 h4 e4 3 _ rfl)
 have st0:h1.set (h.next+1) ((ints [a0,b0,c0,d0]).set 0 (.int .i64 (w9 a0 p0)))=h2:=eh2.symm
 have Cs:h2.set (h.next+1) ((ints [w9 a0 p0,b0,c0,d0]).set 1 (.int .i64 (w9 b0 p1)))=h3:=eh3.symm
 have st2:h3.set (h.next+1) ((ints [w9 a0 p0,w9 b0 p1,c0,d0]).set 2 (.int .i64 (w9 c0 p2)))=h4:=eh4.symm
 have st3:h4.set (h.next+1) ((ints [w9 a0 p0,w9 b0 p1,w9 c0 p2,d0]).set 3 (.int .i64 (w9 d0 p3)))=h5:=eh5.symm
 rw[st0]at s0;rw[Cs]at s1;rw[st2]at s2;rw[st3]at s3
 have fin:Lp AP.A [6,19,20,21] AP.f110L0 [(6,.aF (h.next+1) 0 4 1),(19,w),(20,.int .i64 4),(21,.int .i64 4)] h5=some (.exit 0,[(6,.aF (h.next+1) 0 4 1),(19,w),(20,.int .i64 4),(21,.int .i64 4),(22,.bool false)],h5):=by
  refine tc ?_
  simp (disch:=omega)only[go_sem,vq,AP.f110L0]
 have lp:Lp AP.A [6,19,20,21] AP.f110L0 [(6,.aF (h.next+1) 0 4 1),(19,w),(20,.int .i64 4),(21,.int .i64 0)] h1=some (.exit 0,[(6,.aF (h.next+1) 0 4 1),(19,w),(20,.int .i64 4),(21,.int .i64 4),(22,.bool false)],h5):=
  td s0 (td s1 (td s2 (td s3 fin)))
 simp only[I]at ln
 have ln':ji false w=some (.int .i64 4):=ln
 refine⟨h5,tw (fn:=AP.f110) (h2:=h5) (e:=[(4,.aF (h.next+1) 0 4 1),(5,.int .i64 0)]) (vs:=[.aF (h.next+1) 0 4 1,.int .i64 0]) rfl rfl rfl ?_ rfl,g5,by rw[eh5,eh4,eh3,eh2];simp [f1],by rw[eh5,eh4,eh3,eh2];simp [n1],fun i hi=>by rw[eh5,vA (by omega),eh4,vA (by omega),eh3,vA (by omega),eh2,vA (by omega),eh1,H.aX,if_neg (by simp;omega),H.ep,if_neg (by omega),H.aX,if_neg (by omega)]⟩
 clear a1 a2 e1 e2 e3 e4 s0 s1 s2 s3 ra rb fin ha hb
 simp (disch:=omega)only[go_sem,vq,AP.f110,k1,k2,k3,ln',rV,lp]
theorem JT (h:H) (hf:h.floor≤h.next) (e:vN) (v:AV) (hv:v.sc=true) (ok:xe h (e,v)) (h4:e.vec.length=4):
 ∃h' i,aS AP.A 308 [.agg (vw e v)] h=some (.agg (vw e (.aF i 0 4 1)),h')∧h'.get i=some (ints e.vec)∧h.next≤i∧Ext h h'∧h'.floor=h.floor∧h.next≤h'.next:=by
 obtain⟨h1,eh1⟩:∃g,g=h.alloc (vw e v):=⟨_,rfl⟩
 obtain⟨h2,eh2⟩:∃g,g=h1.alloc (vw Et .aQ):=⟨_,rfl⟩
 obtain⟨h3,eh3⟩:∃g,g=((h2.alloc []).del h2.next).alloc (ints e.vec):=⟨_,rfl⟩
 have n1:h1.next=h.next+1:=by rw[eh1];simp
 have n2:h2.next=h.next+2:=by rw[eh2];simp [n1]
 have n3:h3.next=h.next+4:=by rw[eh3];simp [n2]
 have f2:h2.floor=h.floor:=by rw[eh2,eh1];simp
 have f3:h3.floor=h.floor:=by rw[eh3];simp [f2]
 have low:∀i,i<h.next+2→h3.get i=h2.get i:=fun i hi=>by rw[eh3,vO (by simp [n2];omega),H.ep,if_neg (by omega),vO (by omega)]
 have x2:Ext h h2:=by rw[eh2,eh1];exact((Ext.refl h).alloc _).alloc _
 have ga:h2.get h.next=some (vw e v):=by rw[eh2,vO (by omega),eh1,vu rfl]
 have gz:h2.get (h.next+1)=some (vw Et .aQ):=by rw[eh2,vu (by omega)]
 have k1:=Dz h2 v e.vec (ok.vec.mono fun i c q=>x2 i c q) (by omega) (by omega) (by rw[f2,n2];omega)
 rw[n2,h4]at k1
 rw[←n2,←eh3,n2]at k1
 have g3:h3.get (h.next+3)=some (ints e.vec):=by rw[eh3,vu (by simp [n2])]
 have ga3:h3.get h.next=some (vw e v):=by rw[low _ (by omega)];exact ga
 have gz3:h3.get (h.next+1)=some (vw Et .aQ):=by rw[low _ (by omega)];exact gz
 obtain⟨w,hw⟩:∃w,w=AV.aF (h.next+3) 0 4 1:=⟨_,rfl⟩
 have k1':aS AP.A 118 [v] h2=some (w,h3):=by rw[hw];exact k1
 have sw:w.sc=true:=by rw[hw];rfl
 have cw:=xp sw
 obtain⟨h4',eh4⟩:∃g,g=h3.set h.next (vw e w):=⟨_,rfl⟩
 obtain⟨h5,eh5⟩:∃g,g=h4'.set (h.next+1) (vw e w):=⟨_,rfl⟩
 have ga4:h4'.get h.next=some (vw e w):=by rw[eh4,vH rfl,ga3];rfl
 have gz4:h4'.get (h.next+1)=some (vw Et .aQ):=by rw[eh4,vA (by omega)];exact gz3
 have gz5:h5.get (h.next+1)=some (vw e w):=by rw[eh5,vH rfl,gz4];rfl
 have st4:tS h3 h.next 2 1 [w] (some (vw e v))=some h4':=by rw[uk (by omega) (by show 2<9;omega) sw,eh4];rfl
 have st5:tS h4' (h.next+1) 0 9 (vw e w) (some (vw Et .aQ))=some h5:=by
  rw[eh5];exact w8 (by rw[eh4];simp;omega) rfl rfl (yH sw)
 have K:aS AP.A 308 [.agg (vw e v)] h=some (.agg (vw e w),h5):=by
  refine tw (fn:=AP.f308) (h2:=h5) (e:=[(2,.aE (h.next+1) 0)]) (vs:=[.agg (vw e w)]) rfl rfl rfl ?_ (by simp only[AP.f308,cO,na,mO,qC,gz5,sV];rfl)
  have z:h1.alloc [.str ⟨#[]⟩,.bool false,.aQ,.int .i64 0,.int .i64 0,.int .i64 0,.str ⟨#[]⟩,.int .i64 0,.int .i64 0]=h2:=eh2.symm
  have lE:(vw e v).length=9:=rfl
  have cE:=yH (e:=e) hv
  have e2:(vw e v)[2]?=some v:=rfl
  have rr:ij true 9 (vw e w) 0=some (.agg (vw e w)):=rfl
  clear ok low x2 hw
  generalize vw e v=A at *
  generalize vw e w=B at *
  simp (disch:=omega)only[go_sem,vq,AP.f308,lE,cE,←eh1,n1,z,ga,e2,k1',ga3,cw,st4,ga4,rr,gz4,st5]
 rw[hw]at K
 refine⟨h5,h.next+3,K, ?_,by omega,fun i c q=> ?_,by rw[eh5,eh4];simp [f3],by rw[eh5,eh4];simp;omega⟩
 · rw[eh5,vA (by omega),eh4,vA (by omega)];exact g3
 · have:=h.lt _ _ q
   rw[eh5,vA (by omega),eh4,vA (by omega),low _ (by omega)];exact x2 i c q
def yA (L:List vN) (b:FP):Bool:=(vJ b.1 L).2&&(match L[(vJ b.1 L).1]? with|some e=>decide (wj e.vec b.2=e.vec)|none=>false)
theorem Az (s:ByteArray):∀(L:List vN),(vJ s L).2=true→(vJ s L).1<L.length
 |[],h=>by cases h
 | e :: L, h => by
   rw[vJ]at h ⊢
   by_cases c:Op.bytesLess e.name.toList s.toList=true
   · rw[if_pos c]at h ⊢
     have:=Az s L h
     simp only[UD];omega
   · rw[if_neg c];simp
theorem wq {L:List vN} (h:v9 L=true):wR L=true:=by
 unfold v9 at h;rw[uL]at h;exact h.1
theorem BU {L:List vN} (h:v9 L=true):∀e∈L,xa e.vec=true∧e.vec.length=4∧e.name.size≤8:=fun e he=>by
 have m:=(vZ (wq h)).2.1 e he
 have v:=m.2.1
 simp only[wh,uL]at v
 exact⟨v.1,(yb m.2.1).1,(xi m.1).2⟩
structure Sd (h:H) (v w:AV) (l:List vG):Prop where
 rd:xb 9 h v l.length (vD l)
 ok:∀x∈l,xe h x∧x.2.sc=true
 fo:v9 (l.map (·.1))=true
 dg:Rd h w (ints (wo (l.map (·.1))))
theorem Sd.mono {h g:H} {v w:AV} {l:List vG} (s:Sd h v w l) (e:Ext h g):Sd g v w l:=
 ⟨s.rd.mono fun i c q=>e i c q,fun x hx=>⟨(s.ok x hx).1.mono e,(s.ok x hx).2⟩,s.fo,s.dg.mono fun i c q=>e i c q⟩
theorem Sd.len {h:H} {v w:AV} {l:List vG} (s:Sd h v w l):l.length≤6:=by
 have:=(vZ (wq s.fo)).1
 simpa using this
theorem Ke (h:H) (hf:h.floor≤h.next) (S:Nat) (v w:AV) (l:List vG) (sd:Sd h v w l) (gS:h.get S=some [v,w]) (p:AV) (b:FP) (vb:AV) (pn:∀g,jG g p=some (p,g)) (p0 p1:AV) (q0:ft 0 p=some p0) (q1:ft 1 p=some p1) (l0:∀g,Ext h g→bX false 1 p0 g=some (.str b.1)) (l1:∀g,Ext h g→bX false 1 p1 g=some vb) (rv:Rd h vb (ints b.2)) (hb:xa b.2=true):
 ∃h',aS AP.A 306 [.aE S 0,p] h=some (.bool (yA (l.map (·.1)) b),h')∧Ext h h'∧h'.floor=h.floor∧h.next≤h'.next:=by
 have ln:=sd.len
 have k1:=KN h S 0 v gS rfl l ln sd.rd (fun x hx=>(sd.ok x hx).2) b.1 (I7 (wq sd.fo))
 have m0:=l0 h (Ext.refl h)
 have m1:=l1 h (Ext.refl h)
 unfold yA
 cases hp:(vJ b.1 (l.map (·.1))).2 with
 | false =>
   rw[hp]at k1
   rw[UJ]
   refine⟨h,tw (fn:=AP.f306) (h2:=h) (e:=[(4,.bool false)]) (vs:=[.bool false]) rfl rfl rfl ?_ rfl,Ext.refl h,rfl,uK _⟩
   clear sd l0 l1 rv
   generalize (vJ b.1 (l.map (·.1))).1=K at *
   simp (disch:=omega)only[go_sem,vq,AP.f306,pn,q0,q1,m0,m1,k1]
 | true =>
   rw[hp]at k1
   rw[UQ]
   have lt:=Az _ _ hp
   rw[UF]at lt
   obtain⟨x,hx⟩:∃x,l[(vJ b.1 (l.map (·.1))).1]?=some x:=⟨l[(vJ b.1 (l.map (·.1))).1],by simp⟩
   have hx':(l.map (·.1))[(vJ b.1 (l.map (·.1))).1]?=some x.1:=by rw[uT,hx];rfl
   rw[hx']
   have hm:=uO hx
   obtain⟨ok,sc⟩:=sd.ok x hm
   have fx:=BU sd.fo x.1 (UR.2 ⟨x,hm,rfl⟩)
   obtain⟨ad,a1,a2⟩:=sd.rd.Ff
   obtain⟨pe,_⟩:=a2 h (Ext.refl h) _ x hx
   have b1:=a1 (vJ b.1 (l.map (·.1))).1 ⟨by omega,by omega⟩
   obtain⟨qq,f1,f2⟩:=pe.tl
   have e2:=f2 h (Ext.refl h) 2 _ rfl
   obtain⟨h',k2,g2,f',n',low⟩:=Kc h x.2 vb x.1.vec b.2 ok.vec rv fx.1 hb hf
   have x':Ext h h':=fun i c q=>by rw[low i (h.lt _ _ q)];exact q
   have jl:(wj x.1.vec b.2).length=4:=by
    have:b.2.length=4:=by simp only[xa,uL,UH]at hb;exact hb.1
    simp [wj,fx.2.1,this]
   have k3:=Re h' (.aF (h.next+1) 0 4 1) x.2 (wj x.1.vec b.2) x.1.vec (Rd.obj g2 jl) (ok.vec.mono fun i c q=>x' i c q) (by omega) (by omega)
   refine⟨h',tw (fn:=AP.f306) (h2:=h') (e:=[(4,.bool (decide (wj x.1.vec b.2=x.1.vec)))]) (vs:=[.bool (decide (wj x.1.vec b.2=x.1.vec))]) rfl rfl rfl ?_ rfl,x',f',by omega⟩
   clear sd l0 l1 rv a1 a2 pe f2 ok x' low hx hx' hm
   generalize (vJ b.1 (l.map (·.1))).1=K at *
   generalize decide (wj x.1.vec b.2=x.1.vec)=B at *
   simp (disch:=omega)only[go_sem,vq,AP.f306,pn,q0,q1,m0,m1,gS,UZ,b1,f1,e2,k1,k2,k3]
structure TP (h:H) (O:Nat) (y:wN):Prop where
 get:h.get O=some (vo y)
 fl:h.floor≤O
theorem Ji (h:H) (S M O:Nat) (v w:AV) (l:List vG) (sd:Sd h v w l) (gS:h.get S=some [v,w]) (x y:wN) (gM:h.get M=some (vo x)) (gO:h.get O=some (vo y)) (hO:h.floor≤O) (ne:S≠O∧M≠O) (sw:w.sc=true):
 aS AP.A 300 [.aE S 0,.aE M 0,.aE O 0] h=some (.bool (!decide (wQ (wo (l.map (·.1)))=x.m.root)),h.set O (vo {y with m:={y.m with kind:=1},vd:=w})):=by
 have k1:=I8 h w _ sd.dg (by rw[vR];omega)
 unfold Gv at k1
 rw[Er,vR,dt rfl,UW,if_pos rfl]at k1
 obtain⟨h1,eh1⟩:∃g,g=h.set O (vo {y with m:={y.m with kind:=1}}):=⟨_,rfl⟩
 have Cs:tS h O 0 1 [.int .i64 1] (some (vo y))=some h1:=by rw[uk hO (by show 0<9;omega) rfl,eh1];rfl
 have g1:h1.get O=some (vo {y with m:={y.m with kind:=1}}):=by rw[eh1,vH rfl,gO];rfl
 have st2:tS h1 O 4 1 [w] (some (vo {y with m:={y.m with kind:=1}}))=some (h.set O (vo {y with m:={y.m with kind:=1},vd:=w})):=by rw[uk (by rw[eh1];simpa using hO) (by show 4<9;omega) sw,eh1,H.set_set];rfl
 have cw:=xp sw
 obtain⟨h2,eh2⟩:∃g,g=h.set O (vo {y with m:={y.m with kind:=1},vd:=w}):=⟨_,rfl⟩
 have g2:h2.get M=some (vo x):=by rw[eh2,vA ne.2];exact gM
 have e3:(vo x)[3]?=some (.int .i64 x.m.root):=rfl
 rw[←eh2]at st2 ⊢
 refine tw (fn:=AP.f300) (h2:=h2) (e:=[(6,.bool (!decide (wQ (wo (l.map (·.1)))=x.m.root)))]) (vs:=[.bool (!decide (wQ (wo (l.map (·.1)))=x.m.root))]) rfl rfl rfl ?_ rfl
 clear sd
 generalize wQ (wo (l.map (·.1)))=R at *
 generalize vo x=X at *
 generalize vo y=Y at *
 generalize vo {y with m:={y.m with kind:=1}}=Y1 at *
 by_cases c:R=x.m.root
 · rw[dt c]
   simp (disch:=omega)only[go_sem,vq,AP.f300,uP,UZ,gS,k1,gO,Cs,g1,cw,st2,g2,e3,KU c]
 · rw[df c]
   simp (disch:=omega)only[go_sem,vq,AP.f300,uP,UZ,gS,k1,gO,Cs,g1,cw,st2,g2,e3,Py c]
structure HG (B G:H) (S M O:Nat) (v w:AV) (l:List vG) (x:wN):Prop where
 sd:Sd B v w l
 ox:AG B x
 gS:G.get S=some [v,w]
 gM:G.get M=some (vo x)
 ne:S≠O∧M≠O
 S7:Ext B G
 BO:B.next≤O
 ON:O<G.next
 fO:G.floor≤O
 fG:G.floor≤G.next
theorem HG.ext {B G h:H} {S M O:Nat} {v w:AV} {l:List vG} {x:wN} (k:HG B G S M O v w l x) (low:∀i c,i≠O→G.get i=some c→h.get i=some c):Ext B h:=fun i c q=>by
 have:=B.lt _ _ q
 have:=k.BO
 exact low i c (by omega) (k.S7 i c q)
theorem HG.S_ {B G h:H} {S M O:Nat} {v w:AV} {l:List vG} {x:wN} (k:HG B G S M O v w l x) (low:∀i c,i≠O→G.get i=some c→h.get i=some c):h.get S=some [v,w]∧h.get M=some (vo x):=
 ⟨low S _ k.ne.1 k.gS,low M _ k.ne.2 k.gM⟩
def wv:Nat→List Int→List Int→List Int
 |i,d::ds,m::ms=>if m=d then wv (i+1) ds ms else(i:Int)::wv (i+1) ds ms
 |_,_,_=>[]
theorem zG:∀(ds ms:List Int) (i:Nat) (p:Option Int),i+ds.length≤8→(∀q,p=some q→q<i)→xH p (wv i ds ms)=true
 |[],_,_,_,_,_=>by simp [wv,xH]
 |_::_,[],_,_,_,_=>by simp [wv,xH]
 | d :: ds, m :: ms, i, p, hl, hp => by
   rw[UD]at hl
   unfold wv
   split
   · exact zG ds ms (i+1) p (by omega) fun q hq=>by have:=hp q hq;omega
   · unfold xH
     simp only[uL,UH]
     refine⟨⟨by omega,by omega, ?_⟩,zG ds ms (i+1) _ (by omega) fun q hq=>by have:=uz hq;omega⟩
     cases p with
     |none=>rfl
     |some q=>exact dt (hp q rfl)
theorem zF:∀(ds ms:List Int) (i:Nat),(wv i ds ms).length≤ds.length
 |[],_,_=>by simp [wv]
 |_::_,[],_=>by simp [wv]
 | d :: ds, m :: ms, i => by
   unfold wv
   have:=zF ds ms (i+1)
   split<;>simp only[UD]<;>omega
theorem CA {B G : H} {S M O : Nat} {v w : AV} {l : List vG} {x y : wN} (k3 : HG B G S M O v w l x) (l8 : x.m.wE.length = 8) : ∀ (q p r p' : List Int), wo (l.map (·.1)) = p ++ q → x.m.wE = p' ++ r → p.length = p'.length → ∀ (h : H) (ov : AV) (acc : List Int), (∀ i c, i ≠ O → G.get i = some c → h.get i = some c) → G.next ≤ h.next → h.floor = G.floor → h.get O = some (vo { y with vb := ov }) →
 vT 1 h ov acc.length (ints acc)→(∀j,ov.id?=some j→G.next≤j)→acc.length≤p.length→
 ∃ e' h' ov', Lp AP.A [0, 1, 2, 12, 13, 14] AP.f301L0 [(0, .aE S 0), (1, .aE M 0), (2, .aE O 0), (12, w), (13, .int .i64 8), (14, .int .i64 p.length)] h = some (.exit 0, e', h') ∧ look e' 0 = .aE S 0 ∧ look e' 2 = .aE O 0 ∧
   (∀i c,i≠O→G.get i=some c→h'.get i=some c)∧G.next≤h'.next∧h'.floor=G.floor∧h'.get O=some (vo {y with vb:=ov'})∧vT 1 h' ov' (acc++wv p.length q r).length (ints (acc++wv p.length q r))∧∀j,ov'.id?=some j→G.next≤j
 | [], p, r, p', hp, hp', hpp, h, ov, acc, low, hn, hf, hg, o, ho, ha => by
   rw[UI]at hp
   have e8:p.length=8:=by rw[←hp,vR]
   refine⟨[(0,.aE S 0),(1,.aE M 0),(2,.aE O 0),(12,w),(13,.int .i64 8),(14,.int .i64 p.length),(15,.bool false)],h,ov,tc ?_,rfl,rfl,low,hn,hf,hg,by simpa [wv]using o,ho⟩
   rw[e8]
   clear low o hp hp'
   simp (disch:=omega)only[go_sem,vq,AP.f301L0]
 | d :: q, p, [], p', hp, hp', hpp, h, ov, acc, low, hn, hf, hg, o, ho, ha => by
   have:=U2 List.length hp
   rw[vR]at this
   rw[hp']at l8
   simp at l8 this;omega
 | d :: q, p, m :: r, p', hp, hp', hpp, h, ov, acc, low, hn, hf, hg, o, ho, ha => by
   have e8:=U2 List.length hp
   rw[vR]at e8
   simp only[vg,UD]at e8
   have xB:=k3.ext low
   obtain⟨gS,gM⟩:=k3.S_ low
   have rw1:=k3.sd.dg
   obtain⟨ad,a1,a2⟩:=rw1.wT
   have b1:=a1 p.length ⟨by omega,by rw[vR];omega⟩
   have b2:=a2 h xB p.length d (by rw[hp];simp)
   obtain⟨cd,c1,c2⟩:=k3.ox.rd.wT
   have d1:=c1 p.length ⟨by omega,by rw[l8];omega⟩
   have d2:=c2 h xB p.length m (by rw[hp',hpp];simp)
   have e4:(vo x)[4]?=some x.vd:=rfl
   have w1:(((p++[d]).length:Nat):Int)=(p.length:Int)+1:=by simp
   by_cases c:m=d
   · obtain⟨e',h',ov',r1,r2,r3,r4,r5,r6,r7,r8,r9⟩:=CA k3 l8 q (p++[d]) r (p'++[m]) (by rw[hp];simp) (by rw[hp'];simp) (by simp [hpp]) h ov acc low hn hf hg o ho (by simp;omega)
     rw[w1]at r1
     have eu:wv p.length (d::q) (m::r)=wv (p++[d]).length q r:=by rw[wv,if_pos c,vg];rfl
     rw[eu]
     refine⟨e',h',ov',td ?_ r1,r2,r3,r4,r5,r6,r7,r8,r9⟩
     clear r1 r4 r8 r9 low o a1 a2 c1 c2 hp hp' xB
     generalize vo x=X at *
     simp (disch:=omega)only[go_sem,vq,AP.f301L0,b1,b2,gM,e4,d1,d2,KU c]
   · obtain⟨v',h1,p1,p2,p3,p4,p5,p6⟩:=o.push (by have:=k3.fG;omega) (z:=8) (m:=1) (by omega) (by omega) [.int .i64 p.length] rfl rfl (by simp [roomy];omega)
     have ea:ints acc++[.int .i64 p.length]=ints (acc++[(p.length:Int)]):=by simp [ints,I]
     have el:acc.length+1=(acc++[(p.length:Int)]).length:=by simp
     rw[ea,el]at p2
     have sv:=p2.sc
     have cv:=xp sv
     have hO:=h.lt _ _ hg
     have oO:ov.id?≠some O:=fun q2=>by have:=ho O q2;have:=k3.ON;omega
     have g1:h1.get O=some (vo {y with vb:=ov}):=by rw[p5 O oO hO];exact hg
     obtain⟨h2,eh2⟩:∃g,g=h1.set O (vo {y with vb:=v'}):=⟨_,rfl⟩
     have st:tS h1 O 5 1 [v'] (some (vo {y with vb:=ov}))=some h2:=by rw[uk (by have:=k3.fO;omega) (by show 5<9;omega) sv,eh2];rfl
     have g2:h2.get O=some (vo {y with vb:=v'}):=by rw[eh2,vH rfl,g1];rfl
     have vj:∀j,v'.id?=some j→j=h.next+1:=fun j q2=>by rw[p6]at q2;exact(uz q2).symm
     obtain⟨e',h',ov',r1,r2,r3,r4,r5,r6,r7,r8,r9⟩:=CA k3 l8 q (p++[d]) r (p'++[m]) (by rw[hp];simp) (by rw[hp'];simp) (by simp [hpp]) h2 v' (acc++[(p.length:Int)])
      (fun i c c2 q3=>by have:=G.lt _ _ q3;rw[eh2,vA c2,p5 i (fun q2=>by have:=ho i q2;omega) (by omega)];exact low i c c2 q3) (by rw[eh2];simp;omega) (by rw[eh2];simp [p3,hf]) g2
      (p2.mono (by rw[eh2];simp) fun i q2=>by have:=vj i q2;rw[eh2,vA (by omega)]) (fun j q2=>by have:=vj j q2;omega) (by simp;omega)
     rw[w1]at r1
     have eu:acc++wv p.length (d::q) (m::r)=(acc++[(p.length:Int)])++wv (p++[d]).length q r:=by rw[wv,if_neg c,vg];simp
     rw[eu]
     refine⟨e',h',ov',td ?_ r1,r2,r3,r4,r5,r6,r7,r8,r9⟩
     have e5:(vo {y with vb:=ov})[5]?=some ov:=rfl
     clear r1 r4 r8 r9 low o a1 a2 c1 c2 hp hp' xB p2 p5
     generalize vo x=X at *
     generalize vo {y with vb:=ov}=Y1 at *
     generalize vo {y with vb:=v'}=Y2 at *
     simp (disch:=omega)only[go_sem,vq,AP.f301L0,b1,b2,gM,e4,d1,d2,Py c,hg,e5,p1,g1,cv,st]
def xO (L:List vN) (ms:List Int):List Int:=wv 0 (wo L) ms
theorem DY:AP.f301.body=.seq (at_ 0 AP.f301.body) (.seq (at_ 1 AP.f301.body) (.seq (at_ 2 AP.f301.body) (.seq (at_ 3 AP.f301.body) (FN 4 AP.f301.body)))):=rfl
theorem Hz {B G:H} {S M O:Nat} {v w:AV} {l:List vG} {x y:wN} (k3:HG B G S M O v w l x) (sv:v.sc=true) (l8:x.m.wE.length=8) (gO:G.get O=some (vo y)) (y0:y.vb=.aQ):
 ∃ h' ov ow acc, aS AP.A 301 [.aE S 0, .aE M 0, .aE O 0] G = some (.bool (decide (0 < (xO (l.map (·.1)) x.m.wE).length)), h') ∧ (∀ i c, i ≠ O → G.get i = some c → h'.get i = some c) ∧ G.next ≤ h'.next ∧ h'.floor = G.floor ∧
   h'.get O=some (vo {y with m:={y.m with kind:=2},vb:=ov,vf:=ow})∧vT 1 h' ov (xO (l.map (·.1)) x.m.wE).length (ints (xO (l.map (·.1)) x.m.wE))∧vT 2 h' ow acc.length (wB acc)∧acc.map (·.1)=vP (l.map (·.1)) (xO (l.map (·.1)) x.m.wE)∧
   (∀j,ov.id?=some j→G.next≤j)∧(∀j,ow.id?=some j→G.next≤j∧ov.id?≠some j)∧∀z∈acc,z.1.2.length=4∧∃j,z.2=.aF j 0 4 1∧h'.get j=some (ints z.1.2)∧G.next≤j∧ow.id?≠some j∧ov.id?≠some j∧h'.floor≤j:=by
 obtain⟨e',h1,ov,r1,r2,r3,r4,r5,r6,r7,r8,r9⟩:=CA (y:=y) k3 l8 (wo (l.map (·.1))) [] x.m.wE [] rfl rfl rfl G .aQ [] (fun _ _ _ q=>q) (uK _) rfl (by rw[gO,←y0]) vT.nil (fun j q=>by cases q) (uK _)
 have r1':Lp AP.A [0,1,2,12,13,14] AP.f301L0 [(0,.aE S 0),(1,.aE M 0),(2,.aE O 0),(12,w),(13,.int .i64 8),(14,.int .i64 0)] G=some (.exit 0,e',h1):=r1
 have r8':vT 1 h1 ov (xO (l.map (·.1)) x.m.wE).length (ints (xO (l.map (·.1)) x.m.wE)):=r8
 obtain⟨U,hU⟩:∃U,U=xO (l.map (·.1)) x.m.wE:=⟨_,rfl⟩
 have Ul:U.length≤8:=by rw[hU];have:=zF (wo (l.map (·.1))) x.m.wE 0;rw[vR]at this;exact this
 have Um:yx U=true:=by rw[hU];exact zG _ _ 0 none (by rw[vR];omega) fun q hq=>by cases hq
 rw[←hU]at r8' ⊢
 have fG:=k3.fG
 have fO:=k3.fO
 have ON:=k3.ON
 have x1:=k3.ext r4
 obtain⟨gS1,_⟩:=k3.S_ r4
 have ld:ji false w=some (.int .i64 8):=by
  have:=k3.sd.dg.len
  rw[pC,vR]at this
  exact this
 obtain⟨h2,eh2⟩:∃g,g=h1.set O (vo {y with m:={y.m with kind:=2},vb:=ov}):=⟨_,rfl⟩
 have st2:tS h1 O 0 1 [.int .i64 2] (some (vo {y with vb:=ov}))=some h2:=by rw[uk (by omega) (by show 0<9;omega) rfl,eh2];rfl
 have g2:h2.get O=some (vo {y with m:={y.m with kind:=2},vb:=ov}):=by rw[eh2,vH rfl,r7];rfl
 have n2:h2.next=h1.next:=by rw[eh2];simp
 have f2:h2.floor=G.floor:=by rw[eh2];simp [r6]
 have low2:∀i c,i≠O→G.get i=some c→h2.get i=some c:=fun i c c2 q=>by rw[eh2,vA c2];exact r4 i c c2 q
 have x2:=k3.ext low2
 obtain⟨gS2,_⟩:=k3.S_ low2
 have o2:vT 1 h2 ov U.length (ints U):=r8'.mono (by rw[eh2];simp) fun i q=>by have:=r9 i q;rw[eh2,vA (by omega)]
 have rdU:Rd h2 ov (ints U):=by
  have:=o2.rd
  exact⟨by rw[pC];exact this.1,this.2.2⟩
 obtain⟨ow,h3,acc,k4,e4,q4,b4⟩:=HY h2 (by omega) v ov l U sv (by have:=k3.sd.len;omega) (k3.sd.rd.mono fun i c q=>x2 i c q) (fun z hz=>⟨(k3.sd.ok z hz).1.mono x2,(k3.sd.ok z hz).2⟩) rdU (by omega) (by rw[k3.sd.fo,Um];rfl)
 have n3:=e4.nx
 have f3:=e4.fl
 have s4:=e4.own.sc
 have c4:=xp s4
 have g3:=e4.ext _ _ g2
 obtain⟨h4,eh4⟩:∃g,g=h3.set O (vo {y with m:={y.m with kind:=2},vb:=ov,vf:=ow}):=⟨_,rfl⟩
 have st4:tS h3 O 6 1 [ow] (some (vo {y with m:={y.m with kind:=2},vb:=ov}))=some h4:=by rw[uk (by omega) (by show 6<9;omega) s4,eh4];rfl
 have g4:h4.get O=some (vo {y with m:={y.m with kind:=2},vb:=ov,vf:=ow}):=by rw[eh4,vH rfl,g3];rfl
 have f4:h4.floor=G.floor:=by rw[eh4];simp;omega
 have n4:h4.next=h3.next:=by rw[eh4];simp
 have low4:∀i c,i≠O→G.get i=some c→h4.get i=some c:=fun i c c2 q=>by rw[eh4,vA c2];exact e4.ext _ _ (low2 i c c2 q)
 have ov4:vT 1 h4 ov U.length (ints U):=by
  obtain⟨a,⟨b1,b2⟩|⟨j,b1,b2,b3,b4'⟩⟩:=o2
  · exact⟨a,.inl ⟨b1,b2⟩⟩
  · have:=r9 j (by rw[b1];rfl)
    exact⟨a,.inr ⟨j,b1,by rw[eh4,vA (by omega)];exact e4.ext _ _ b2,by omega,b4'⟩⟩
 have ow4:vT 2 h4 ow acc.length (wB acc):=e4.own.mono (by rw[eh4];simp) fun i q=>by have:=e4.ge i q;rw[eh4,vA (by omega)]
 have r1c:aM (aS AP.A) bD (at_ 1 AP.f301.body) [(0,.aE S 0),(1,.aE M 0),(2,.aE O 0)] G=some (.normal,[(0,.aE S 0),(2,.aE O 0)],h1):=by
  have gS:=k3.gS
  clear r1 r4 r8 r9 r8' x1 x2 low2 low4 o2 rdU e4 b4 ov4 ow4
  simp (disch:=omega)only[go_sem,vq,AP.f301,wI,wy,gS,ld,rV,r1',r2,r3]
 have b3c:aM (aS AP.A) bD (at_ 3 AP.f301.body) [(0,.aE S 0),(2,.aE O 0)] h2=some (.normal,[(2,.aE O 0)],h4):=by
  have e5:(vo {y with m:={y.m with kind:=2},vb:=ov})[5]?=some ov:=rfl
  have tv:List.take 1 [v,w]=[v]:=rfl
  clear r1 r4 r8 r9 r8' x1 x2 low2 low4 o2 rdU e4 b4 ov4 ow4 r1c r1'
  generalize vo {y with m:={y.m with kind:=2},vb:=ov}=Y1 at *
  generalize vo {y with m:={y.m with kind:=2},vb:=ov,vf:=ow}=Y2 at *
  simp (disch:=omega)only[go_sem,vq,AP.f301,wI,wy,gS2,FH,wM,tv,UK,UZ,g2,e5,k4,g3,c4,st4]
 refine⟨h4,ov,ow,acc,tw (fn:=AP.f301) (h2:=h4) (e:=[(6,.bool (decide (0<U.length)))]) (vs:=[.bool (decide (0<U.length))]) rfl rfl rfl ?_ rfl,low4,by omega,f4,g4,ov4,ow4,q4,r9,fun j q=> ?_,fun z hz=> ?_⟩
 · rw[DY]
   have b0:aM (aS AP.A) bD (at_ 0 AP.f301.body) (params 0 [.aE S 0,.aE M 0,.aE O 0]) G=some (.normal,[(0,.aE S 0),(1,.aE M 0),(2,.aE O 0)],G):=by
    simp (disch:=omega)only[go_sem,vq,AP.f301,wy]
   have b2:aM (aS AP.A) bD (at_ 2 AP.f301.body) [(0,.aE S 0),(2,.aE O 0)] h1=some (.normal,[(0,.aE S 0),(2,.aE O 0)],h2):=by
    clear r1 r4 r8 r9 r8' x1 x2 low2 low4 o2 rdU e4 b4 ov4 ow4 r1c r1' b3c
    generalize vo {y with vb:=ov}=Y1 at *
    simp (disch:=omega)only[go_sem,vq,AP.f301,wI,wy,r7,st2]
   rw[rI,b0,sD,rI,r1c,sD,rI,b2,sD,rI,b3c,sD]
   have lu:=ov4.rd.len
   have e5:(vo {y with m:={y.m with kind:=2},vb:=ov,vf:=ow})[5]?=some ov:=rfl
   clear r1 r4 r8 r9 r8' x1 x2 low2 low4 o2 rdU e4 b4 ov4 ow4 r1c r1' b3c b0 b2
   generalize vo {y with m:={y.m with kind:=2},vb:=ov,vf:=ow}=Y1 at *
   by_cases c:0<U.length<;>simp (disch:=omega)only[go_sem,vq,AP.f301,Cy,Cz,g4,e5,lu]
 · have:=e4.ge j q
   refine⟨by omega,fun q2=> ?_⟩
   have:=(o2.lt q2).2
   omega
 · obtain⟨j,a1,a2,a3,a4,a5⟩:=(b4 z hz).ex
   refine⟨(b4 z hz).l4,j,a1, ?_,by omega,a4,fun q2=> ?_,by omega⟩
   · rw[eh4,vA (by omega)];exact a2
   · have:=(o2.lt q2).2
     omega
def wV (L:List vN) (bs:List FP):List ByteArray:=(bs.filter fun b=> !yA L b).map (·.1)
theorem GN (L:List vN) (b:FP) (bs:List FP):wV L (b::bs)=if yA L b then wV L bs else b.1::wV L bs:=by
 unfold wV
 rw[List.filter_cons]
 cases yA L b<;>rfl
theorem E5 (a b:List ByteArray):xc (a++b)=xc a++xc b:=by simp [xc]
theorem Cw {B G : H} {S M O : Nat} {v w : AV} {l : List vG} {x y : wN} (k3 : HG B G S M O v w l x) (fl6 : x.fs.length ≤ 6) (fv : ∀ b ∈ x.m.vB, xa b.2 = true) : ∀ (q p : List xR), x.fs = p ++ q → ∀ (h : H) (ov : AV) (acc : List ByteArray), (∀ i c, i ≠ O → G.get i = some c → h.get i = some c) → G.next ≤ h.next → h.floor = G.floor → h.get O = some (vo { y with vn := ov }) →
 vT 1 h ov acc.length (xc acc)→(∀j,ov.id?=some j→G.next≤j)→acc.length≤p.length→
 ∃ e' h' ov', Lp AP.A [0, 1, 2, 15, 16] AP.f302L0 [(0, .aE S 0), (1, .aE M 0), (2, .aE O 0), (15, .int .i64 x.fs.length), (16, .int .i64 p.length)] h = some (.exit 0, e', h') ∧ look e' 2 = .aE O 0 ∧
   (∀i c,i≠O→G.get i=some c→h'.get i=some c)∧G.next≤h'.next∧h'.floor=G.floor∧h'.get O=some (vo {y with vn:=ov'})∧vT 1 h' ov' (acc++wV (l.map (·.1)) (q.map (·.1))).length (xc (acc++wV (l.map (·.1)) (q.map (·.1))))∧∀j,ov'.id?=some j→G.next≤j
 | [], p, hp, h, ov, acc, low, hn, hf, hg, o, ho, ha => by
   rw[UI]at hp;subst hp
   refine⟨[(0,.aE S 0),(1,.aE M 0),(2,.aE O 0),(15,.int .i64 x.fs.length),(16,.int .i64 x.fs.length),(17,.bool false)],h,ov,tc ?_,rfl,low,hn,hf,hg,by simpa [wV]using o,ho⟩
   clear low o
   simp (disch:=omega)only[go_sem,vq,AP.f302L0]
 | b :: q, p, hp, h, ov, acc, low, hn, hf, hg, o, ho, ha => by
   have hlen:x.fs.length=p.length+(q.length+1):=by rw[hp];simp
   have hb:x.fs[p.length]?=some b:=by rw[hp];simp
   have hm:=uO hb
   have xB:=k3.ext low
   obtain⟨gS,gM⟩:=k3.S_ low
   have fG:=k3.fG
   have fO:=k3.fO
   have ON:=k3.ON
   obtain⟨ad,a1,a2,a4,a3⟩:=k3.ox.rf.rd.at_
   have hI:(0:Int)≤(p.length:Int)∧(p.length:Int)<x.fs.length:=⟨by omega,by omega⟩
   have b1:=a1 _ hI
   have q0:=a2 p.length 0 0 hI
   have q1:=a2 p.length 0 1 hI
   simp only[uP]at q0 q1
   have l0:∀g,Ext h g→bX false 1 (ad p.length 0) g=some (.str b.1.1):=fun g hg'=>(a3 g fun i c q=>hg' _ _ (xB i c q)).1 p.length 0 _ hI (by
    rw[wO,show wB x.fs=x.fs.flatMap JJ from rfl,y3 zJ hb (by omega)];rfl)
   have l1:∀g,Ext h g→bX false 1 (ad p.length 1) g=some b.2:=fun g hg'=>(a3 g fun i c q=>hg' _ _ (xB i c q)).1 p.length 1 _ hI (by
    rw[wO,show wB x.fs=x.fs.flatMap JJ from rfl,y3 zJ hb (by omega)];rfl)
   obtain⟨h1,k1,x1,f1,n1⟩:=Ke h (by omega) S v w l (k3.sd.mono xB) gS (ad p.length 0) b.1 b.2 (fun g=>a4 p.length 0 g hI) _ _ q0 q1 l0 l1 ((k3.ox.rf.vec b hm).1.mono fun i c q=>xB i c q) (fv b.1 (by rw[←k3.ox.hf];exact UR.2 ⟨b,hm,rfl⟩))
   have e6:(vo x)[6]?=some x.vf:=rfl
   have w1:(((p++[b]).length:Nat):Int)=(p.length:Int)+1:=by simp
   have o1:vT 1 h1 ov acc.length (xc acc):=by
    obtain⟨a,⟨b1,b2⟩|⟨j,b1,b2,b3,b4⟩⟩:=o
    · exact⟨a,.inl ⟨b1,b2⟩⟩
    · exact⟨a,.inr ⟨j,b1,x1 _ _ b2,by omega,b4⟩⟩
   have hg1:=x1 _ _ hg
   have low1:∀i c,i≠O→G.get i=some c→h1.get i=some c:=fun i c c2 q=>x1 _ _ (low i c c2 q)
   rw[UL,GN]
   cases hk:yA (l.map (·.1)) b.1 with
   | true =>
     rw[hk]at k1
     rw[if_pos rfl]
     obtain⟨e',h',ov',r1,r2,r3,r4,r5,r6,r7,r8⟩:=Cw k3 fl6 fv q (p++[b]) (by rw[hp];simp) h1 ov acc low1 (by omega) (by omega) hg1 o1 ho (by simp;omega)
     rw[w1]at r1
     refine⟨e',h',ov',td ?_ r1,r2,r3,r4,r5,r6,r7,r8⟩
     clear r1 r3 r7 r8 low low1 o o1 a1 a2 a3 a4 l0 l1 hp xB x1
     generalize vo x=X at *
     simp (disch:=omega)only[go_sem,vq,AP.f302L0,gM,e6,b1,k1]
   | false =>
     rw[hk]at k1
     rw[if_neg (by decide)]
     obtain⟨v',h2,p1,p2,p3,p4,p5,p6⟩:=o1.push (by omega) (z:=16) (m:=1) (by omega) (by omega) [.str b.1.1] rfl rfl (by simp [roomy];omega)
     have ea:xc acc++[.str b.1.1]=xc (acc++[b.1.1]):=by rw[E5];rfl
     have el:acc.length+1=(acc++[b.1.1]).length:=by simp
     rw[ea,el]at p2
     have sv:=p2.sc
     have cv:=xp sv
     have hO:=h1.lt _ _ hg1
     have oO:ov.id?≠some O:=fun q2=>by have:=ho O q2;omega
     have g2:h2.get O=some (vo {y with vn:=ov}):=by rw[p5 O oO hO];exact hg1
     obtain⟨h3,eh3⟩:∃g,g=h2.set O (vo {y with vn:=v'}):=⟨_,rfl⟩
     have st:tS h2 O 7 1 [v'] (some (vo {y with vn:=ov}))=some h3:=by rw[uk (by omega) (by show 7<9;omega) sv,eh3];rfl
     have g3:h3.get O=some (vo {y with vn:=v'}):=by rw[eh3,vH rfl,g2];rfl
     have vj:∀j,v'.id?=some j→j=h1.next+1:=fun j q2=>by rw[p6]at q2;exact(uz q2).symm
     obtain⟨e',h',ov',r1,r2,r3,r4,r5,r6,r7,r8⟩:=Cw k3 fl6 fv q (p++[b]) (by rw[hp];simp) h3 v' (acc++[b.1.1])
      (fun i c c2 q3=>by have:=G.lt _ _ q3;rw[eh3,vA c2,p5 i (fun q2=>by have:=ho i q2;omega) (by omega)];exact low1 i c c2 q3) (by rw[eh3];simp;omega) (by rw[eh3];simp;omega) g3
      (p2.mono (by rw[eh3];simp) fun i q2=>by have:=vj i q2;rw[eh3,vA (by omega)]) (fun j q2=>by have:=vj j q2;omega) (by simp;omega)
     rw[w1]at r1
     rw[List.append_assoc,List.singleton_append]at r7
     refine⟨e',h',ov',td ?_ r1,r2,r3,r4,r5,r6,r7,r8⟩
     have e7:(vo {y with vn:=ov})[7]?=some ov:=rfl
     have gM1:=x1 _ _ gM
     have m0:=l0 h1 x1
     clear r1 r3 r7 r8 low low1 o o1 a1 a2 a3 a4 l0 l1 hp xB x1 p2 p5
     generalize vo x=X at *
     generalize vo {y with vn:=ov}=Y1 at *
     generalize vo {y with vn:=v'}=Y2 at *
     simp (disch:=omega)only[go_sem,vq,AP.f302L0,gM,e6,b1,k1,hg1,e7,gM1,q0,m0,p1,g2,cv,st]
theorem PN {B G:H} {S M O:Nat} {v w:AV} {l:List vG} {x y:wN} (k3:HG B G S M O v w l x) (fl6:x.fs.length≤6) (fv:∀b∈x.m.vB,xa b.2=true) (gO:G.get O=some (vo y)) (y0:y.vn=.aQ):
 ∃ h' ov, aS AP.A 302 [.aE S 0, .aE M 0, .aE O 0] G = some (.bool (decide (0 < (wV (l.map (·.1)) x.m.vB).length)), h') ∧ (∀ i c, i ≠ O → G.get i = some c → h'.get i = some c) ∧ G.next ≤ h'.next ∧ h'.floor = G.floor ∧
   h'.get O=some (vo {y with m:={y.m with kind:=3},vn:=ov})∧vT 1 h' ov (wV (l.map (·.1)) x.m.vB).length (xc (wV (l.map (·.1)) x.m.vB))∧∀j,ov.id?=some j→G.next≤j:=by
 have fO:=k3.fO
 obtain⟨h1,eh1⟩:∃g,g=G.set O (vo {y with m:={y.m with kind:=3}}):=⟨_,rfl⟩
 have Cs:tS G O 0 1 [.int .i64 3] (some (vo y))=some h1:=by rw[uk (by omega) (by show 0<9;omega) rfl,eh1];rfl
 have g1:h1.get O=some (vo {y with m:={y.m with kind:=3}}):=by rw[eh1,vH rfl,gO];rfl
 have low1:∀i c,i≠O→G.get i=some c→h1.get i=some c:=fun i c c2 q=>by rw[eh1,vA c2];exact q
 obtain⟨_,gM1⟩:=k3.S_ low1
 obtain⟨e',h',ov,r1,r2,r3,r4,r5,r6,r7,r8⟩:=Cw (y:={y with m:={y.m with kind:=3}}) k3 fl6 fv x.fs [] rfl h1 .aQ [] low1 (by rw[eh1];simp) (by rw[eh1];simp) (by rw[g1,←y0]) vT.nil (fun j q=>by cases q) (uK _)
 have r1':Lp AP.A [0,1,2,15,16] AP.f302L0 [(0,.aE S 0),(1,.aE M 0),(2,.aE O 0),(15,.int .i64 x.fs.length),(16,.int .i64 0)] h1=some (.exit 0,e',h'):=r1
 rw[List.nil_append,k3.ox.hf]at r7
 refine⟨h',ov,tw (fn:=AP.f302) (h2:=h') (e:=[(6,.bool (decide (0<(wV (l.map (·.1)) x.m.vB).length)))]) (vs:=[.bool (decide (0<(wV (l.map (·.1)) x.m.vB).length))]) rfl rfl rfl ?_ rfl,r3,r4,r5,r6,r7,r8⟩
 have lf:=k3.ox.rf.rd.len
 have lw:=r7.rd.len
 have e6:(vo x)[6]?=some x.vf:=rfl
 have e7:(vo {y with m:={y.m with kind:=3},vn:=ov})[7]?=some ov:=rfl
 have r6':h'.get O=some (vo {y with m:={y.m with kind:=3},vn:=ov}):=r6
 clear r1 r3 r7 r8 low1 eh1 r6
 generalize (wV (l.map (·.1)) x.m.vB).length=N at *
 generalize vo x=X at *
 generalize vo y=Y at *
 generalize vo {y with m:={y.m with kind:=3},vn:=ov}=Y2 at *
 by_cases c:0<N<;>simp (disch:=omega)only[go_sem,vq,AP.f302,gO,Cs,gM1,e6,lf,rV,r1',r2,r6',e7,lw]
def yQ (L:List vN) (ns:List ByteArray):List vN:=ns.filterMap fun s=>if(vJ s L).2 then L[(vJ s L).1]? else none
theorem FI (L:List vN) (s:ByteArray) (ns:List ByteArray):yQ L (s::ns)=(match (if(vJ s L).2 then L[(vJ s L).1]? else none)with|some e=>[e]|none=>[])++yQ L ns:=by
 unfold yQ
 rw[List.filterMap_cons]
 split<;>rename_i h<;>rw[h]<;>rfl
theorem Cn {B G : H} {S M O : Nat} {v w : AV} {l : List vG} {x y : wN} (k3 : HG B G S M O v w l x) (nl6 : x.m.names.length ≤ 6) : ∀ (q p : List ByteArray), x.m.names = p ++ q → ∀ (h : H) (ov : AV) (acc : List vG), (∀ i c, i ≠ O → G.get i = some c → h.get i = some c) → G.next ≤ h.next → h.floor = G.floor → h.get O = some (vo { y with ve := ov }) →
 WE G.next h ov acc→acc.length≤p.length→
 ∃ e' h' ov' acc', Lp AP.A [0, 2, 17, 18, 19] AP.f303L0 [(0, .aE S 0), (2, .aE O 0), (17, x.vn), (18, .int .i64 x.m.names.length), (19, .int .i64 p.length)] h = some (.exit 0, e', h') ∧ look e' 2 = .aE O 0 ∧
   (∀i c,i≠O→G.get i=some c→h'.get i=some c)∧G.next≤h'.next∧h'.floor=G.floor∧h'.get O=some (vo {y with ve:=ov'})∧WE G.next h' ov' acc'∧acc'.map (·.1)=acc.map (·.1)++yQ (l.map (·.1)) q∧acc'.length≤x.m.names.length
 | [], p, hp, h, ov, acc, low, hn, hf, hg, o, ha => by
   rw[UI]at hp
   have e:x.m.names.length=p.length:=by rw[hp]
   refine⟨[(0,.aE S 0),(2,.aE O 0),(17,x.vn),(18,.int .i64 x.m.names.length),(19,.int .i64 p.length),(20,.bool false)],h,ov,acc,tc ?_,rfl,low,hn,hf,hg,o,by simp [yQ],by omega⟩
   rw[e]
   clear low o
   simp (disch:=omega)only[go_sem,vq,AP.f303L0]
 | s :: q, p, hp, h, ov, acc, low, hn, hf, hg, o, ha => by
   have hlen:x.m.names.length=p.length+(q.length+1):=by rw[hp];simp
   have xB:=k3.ext low
   obtain⟨gS,gM⟩:=k3.S_ low
   have fG:=k3.fG
   have fO:=k3.fO
   have ON:=k3.ON
   obtain⟨nd,a1,_,a3⟩:=k3.ox.rn.BA
   have b1:=a1 p.length ⟨by omega,by omega⟩
   have b2:=a3 h xB p.length s (by rw[hp];simp)
   have sd:=k3.sd.mono xB
   have k1:=KN h S 0 v gS rfl l sd.len sd.rd (fun x hx=>(sd.ok x hx).2) s (I7 (wq sd.fo))
   have w1:(((p++[s]).length:Nat):Int)=(p.length:Int)+1:=by simp
   rw[FI]
   cases hp2:(vJ s (l.map (·.1))).2 with
   | false =>
     rw[hp2]at k1
     rw[if_neg (by decide)]
     obtain⟨e',h',ov',acc',r1,r2,r3,r4,r5,r6,r7,r8,r9⟩:=Cn k3 nl6 q (p++[s]) (by rw[hp];simp) h ov acc low hn hf hg o (by simp;omega)
     rw[w1]at r1
     refine⟨e',h',ov',acc',td ?_ r1,r2,r3,r4,r5,r6,r7,r8,r9⟩
     clear r1 r3 r7 r8 low o a1 a3 hp xB sd
     generalize (vJ s (l.map (·.1))).1=K at *
     simp (disch:=omega)only[go_sem,vq,AP.f303L0,b1,b2,UZ,k1]
   | true =>
     rw[hp2]at k1
     rw[if_pos rfl]
     have lt:=Az _ _ hp2
     rw[UF]at lt
     obtain⟨z,hz⟩:∃z,l[(vJ s (l.map (·.1))).1]?=some z:=⟨l[(vJ s (l.map (·.1))).1],by simp⟩
     have hz':(l.map (·.1))[(vJ s (l.map (·.1))).1]?=some z.1:=by rw[uT,hz];rfl
     rw[hz']
     have hm:=uO hz
     obtain⟨ok,sc⟩:=sd.ok z hm
     have fz:=BU sd.fo z.1 (UR.2 ⟨z,hm,rfl⟩)
     obtain⟨ad,c1,c2⟩:=sd.rd.Ff
     obtain⟨pe,lz⟩:=c2 h (Ext.refl h) _ z hz
     have d1:=c1 (vJ s (l.map (·.1))).1 ⟨by omega,by omega⟩
     obtain⟨h1,j,k2,gj,hj,x1,f1,n1⟩:=JT h (by omega) z.1 z.2 sc ok fz.2.1
     have jn:=h1.lt _ _ gj
     obtain⟨E,hE⟩:∃E,E=vw z.1 (.aF j 0 4 1):=⟨_,rfl⟩
     have lE:E.length=9:=by rw[hE];rfl
     have cE:AV.aD E=true:=by rw[hE];exact yH rfl
     have fE:setFrom [.str ⟨#[]⟩,.bool false,.aQ,.int .i64 0,.int .i64 0,.int .i64 0,.str ⟨#[]⟩,.int .i64 0,.int .i64 0] 0 E=E:=by rw[hE];rfl
     have o1:WE G.next h1 ov acc:=o.mono (by omega) fun i c1 c2 c3=>by
      rcases c3 with c3|⟨y2,hy2,c3⟩
      · obtain⟨_,⟨b1,_⟩|⟨j2,b1,b2,_⟩⟩:=o.own
        · rw[b1]at c3;cases c3
        · rw[b1]at c3;obtain rfl:=uz c3;rw[b2];exact x1 _ _ b2
      · obtain⟨_,_,j2,b1,b2,_⟩:=o.el y2 hy2
        rw[b1]at c3;obtain rfl:=uz c3;rw[b2];exact x1 _ _ b2
     have hg1:=x1 _ _ hg
     obtain⟨v',h2,p1,p2,p3,p4,p5,p6⟩:=o1.own.push (by omega) (z:=104) (m:=1) (by omega) (by omega) E (by rw[lE]) cE (by simp [roomy];omega)
     have ea:vD acc++E=vD (acc++[((z.1,.aF j 0 4 1):vG)]):=by rw[Fq,hE]
     have el:acc.length+1=(acc++[((z.1,.aF j 0 4 1):vG)]).length:=by simp
     rw[ea,el]at p2
     have sv:=p2.sc
     have cv:=xp sv
     have hO:=h1.lt _ _ hg1
     have oO:ov.id?≠some O:=fun q2=>by have:=o.ge O q2;omega
     have g2:h2.get O=some (vo {y with ve:=ov}):=by rw[p5 O oO hO];exact hg1
     obtain⟨h3,eh3⟩:∃g,g=h2.set O (vo {y with ve:=v'}):=⟨_,rfl⟩
     have st:tS h2 O 8 1 [v'] (some (vo {y with ve:=ov}))=some h3:=by rw[uk (by omega) (by show 8<9;omega) sv,eh3];rfl
     have g3:h3.get O=some (vo {y with ve:=v'}):=by rw[eh3,vH rfl,g2];rfl
     have vj:∀i,v'.id?=some i→i=h1.next+1:=fun i q2=>by rw[p6]at q2;exact(uz q2).symm
     have ovl:∀i,ov.id?=some i→i<h.next:=fun i q2=>(o.own.lt q2).2
     have w3:WE G.next h3 v' (acc++[(z.1,.aF j 0 4 1)]):=by
      refine⟨p2.mono (by rw[eh3];simp) fun i q2=>by have:=vj i q2;rw[eh3,vA (by omega)],fun i q2=>by have:=vj i q2;omega,fun y2 hy2=> ?_⟩
      rcases List.mem_append.1 hy2 with hy2|hy2
      · obtain⟨m1,m2,j2,t1,t2,t3,t4,t5⟩:=o1.el y2 hy2
        have:=h1.lt _ _ t2
        refine⟨m1,m2,j2,t1, ?_,t3,fun q2=>by have:=vj j2 q2;omega,by rw[eh3];simp;omega⟩
        rw[eh3,vA (by omega),p5 j2 t4 this];exact t2
      · obtain rfl:=List.mem_singleton.1 hy2
        refine⟨fz.2.2,fz.2.1,j,rfl, ?_,by omega,fun q2=>by have:=vj j q2;omega,by rw[eh3];simp;omega⟩
        rw[eh3,vA (by omega),p5 j (fun q2=>by have:=ovl j q2;omega) jn];exact gj
     obtain⟨e',h',ov',acc',r1,r2,r3,r4,r5,r6,r7,r8,r9⟩:=Cn k3 nl6 q (p++[s]) (by rw[hp];simp) h3 v' (acc++[(z.1,.aF j 0 4 1)])
      (fun i c c2 q3=>by have:=G.lt _ _ q3;rw[eh3,vA c2,p5 i (fun q2=>by have:=o.ge i q2;omega) (by omega)];exact x1 _ _ (low i c c2 q3)) (by rw[eh3];simp;omega) (by rw[eh3];simp;omega) g3 w3 (by simp;omega)
     rw[w1]at r1
     rw[UX,List.append_assoc]at r8
     refine⟨e',h',ov',acc',td ?_ r1,r2,r3,r4,r5,r6,r7,r8,r9⟩
     have e8:(vo {y with ve:=ov})[8]?=some ov:=rfl
     rw[←hE]at k2
     have lz':bX true 9 (ad (vJ s (l.map (·.1))).1 0) h=some (.agg (vw z.1 z.2)):=lz
     clear r1 r3 r7 r8 r9 low o o1 a1 a3 hp xB sd c1 c2 pe lz ok hz hz' hm w3 p2 p5 x1 ea hE k3
     generalize (vJ s (l.map (·.1))).1=K at *
     generalize vw z.1 z.2=Z at *
     generalize vo {y with ve:=ov}=Y1 at *
     generalize vo {y with ve:=v'}=Y2 at *
     simp (disch:=omega)only[go_sem,vq,AP.f303L0,b1,b2,UZ,k1,hg,e8,gS,d1,lz',k2,lE,cE,fE,p1,g2,cv,st,hg1]
end Ab
