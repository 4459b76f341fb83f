/- Part C3. -/
import Derived.Test.YtlnpoabdcheleaaGreatDoorC2
set_option linter.unusedSimpArgs false
set_option linter.unusedVariables false
set_option maxRecDepth 100000
namespace Ab
open Go
def Hl (s:ByteArray):List Nat:=s.data.toList.map (·.toNat)
theorem HB (s:ByteArray):(Hl s).length=s.size:=by unfold Hl;rw[acV,Array.length_toList];rfl
theorem Uk (a b:ByteArray):Hl (a++b)=Hl a++Hl b:=by simp [Hl]
theorem N9 (s:ByteArray):∀b∈Hl s,b<256:=by
 intro b hb
 obtain⟨x,_,rfl⟩:=ac2.1 hb
 exact x.toNat_lt
theorem D4 (s:ByteArray):bytesOf (Hl s)=s:=by
 unfold Hl bytesOf;rw[adz];apply ByteArray.ext;simp [Function.comp_def]
theorem Na {l:List Nat} (h:∀b∈l,b<256):Hl (bytesOf l)=l:=by
 simp only[Hl,bytesOf,adz]
 conv=>rhs;rw[←List.map_id l]
 exact adm fun b hb=>by simp [Function.comp,UInt8.toNat_ofNat_of_lt' (h b hb)]
theorem Co (a b:List Nat):bytesOf a++bytesOf b=bytesOf (a++b):=by
 apply ByteArray.ext;simp [bytesOf]
theorem CZ (x k:Nat):∀b∈zw x k,b<256:=by
 intro b hb
 obtain⟨i,_,rfl⟩:=ac2.1 hb
 exact Nat.mod_lt _ (by omega)
theorem Uh {a b:ByteArray} (h:a.size+b.size≤9223372036854775807):bH .add (.str a) (.str b)=some (.str (a++b)):=GS h
theorem C8 {a b:List Nat} (h:a.length+b.length≤9223372036854775807):bH .add (.str (bytesOf a)) (.str (bytesOf b))=some (.str (bytesOf (a++b))):=by
 rw[Uh (by rw[ze,ze];exact h),Co]
def LM (c:Nat) (l:List Nat):Nat:=l.foldl Cy c
theorem Tf {s:ByteArray} {i:Nat} {p q:List Nat} {b:Nat} (h:Hl s=p++b::q) (hi:p.length=i):AX s i=b:=by
 have:(Hl s)[i]?=some b:=by rw[h,←hi];simp
 unfold AX
 unfold Hl at this
 rw[ya]at this
 have e:s[i]?=s.data.toList[i]?:=by
  show s.data[i]?=_
  simp
 rw[e]
 cases hq:s.data.toList[i]? with
 |none=>rw[hq]at this;cases this
 |some x=>rw[hq]at this;simpa using this
theorem Jz (s:ByteArray):∀(q p:List Nat) (c:Nat),Hl s=p++q→Cc s q.length p.length c=LM c q
 |[],p,c,h=>rfl
 | b :: q, p, c, h => by
   show Cc s q.length (p.length+1) (Cy c (AX s p.length))=_
   have:=Jz s q (p++[b]) (Cy c b) (by rw[h];simp)
   rw[Tf h rfl]
   rw[yy]at this
   exact this
theorem F5 (a:Nat) (s:ByteArray):AY a s=4294967295-LM (4294967295-a) (Hl s):=by
 unfold AY
 have:=Jz s (Hl s) [] (4294967295-a) rfl
 rw[HB]at this
 rw[←this];rfl
theorem Ox:∀(l:List Nat) {c:Nat},c<4294967296→(∀b∈l,b<256)→LM c l<4294967296
 |[],_,h,_=>h
 |b::l,_,h,hb=>Ox l (DI h (hb b (by simp))) (fun x hx=>hb x (by simp [hx]))
theorem Ez {a:Nat} (s t:ByteArray):AY (AY a s) t=AY a (s++t):=by
 rw[F5,F5 a,F5 a,Uk]
 have:=Ox (Hl s) (c:=4294967295-a) (by omega) (N9 s)
 rw[show 4294967295-(4294967295-LM (4294967295-a) (Hl s))=LM (4294967295-a) (Hl s)by omega]
 simp [LM]
def DR (l:List Nat):Nat:=4294967295-LM 4294967295 l
theorem Ww (s:ByteArray):AH s=DR (Hl s):=F5 0 s
theorem HR {l:List Nat} (h:∀b∈l,b<256):AH (bytesOf l)=DR l:=by rw[Ww,Na h]
def La (l:List Int):List Nat:=l.flatMap fun n=>zw n.toNat 4
def Jk (e:zu):List Nat:=zw 20592 2++zw 22 2++La e.vec++zw e.y0.toNat 4++zw e.node.toNat 1++zw (if e.gone then 1 else 0) 1
theorem Nh (l:List Int):(La l).length=4* l.length:=by
 induction l with
 |nil=>rfl
 |cons n l ih=>unfold La at *;rw[acT,yy,zk,ih,acN];omega
theorem Pt (l:List Int):∀b∈La l,b<256:=by
 intro b hb
 obtain⟨n,_,hn⟩:=List.mem_flatMap.1 hb
 exact CZ _ _ b hn
theorem T7 (e:zu):∀b∈Jk e,b<256:=by
 intro b hb
 unfold Jk at hb
 simp only[ac9]at hb
 rcases hb with ((((hb|hb)|hb)|hb)|hb)|hb
 · exact CZ _ _ b hb
 · exact CZ _ _ b hb
 · exact Pt _ b hb
 · exact CZ _ _ b hb
 · exact CZ _ _ b hb
 · exact CZ _ _ b hb
def Yv (e:zu):AV:=if zD e=true then .cf [.str (bytesOf (Jk e)),.int .i64 0]else .cf [.str ⟨#[]⟩,.int .i64 1200]
theorem Ac {e:zu} (h:zD e=true):e.vec.length=4∧(∀n∈e.vec,0≤n∧n≤1048576)∧(1≤e.y0∧e.y0≤1048576)∧(0≤e.node∧e.node<4):=by
 simp only[zD,Ek,zU,Gj,xR,ac6,adp]at h
 exact⟨h.1.1,h.1.2,⟨h.2.1,h.2.2.1.2⟩,h.2.2.2⟩
theorem MK {v P:AV} {l:List Int} (hl:l.length<1000000) (hn:∀n∈l,0≤n∧n≤1048576) (h:H) (rd:Rd h v (ints l)):∀(q p:List Int) (acc:List Nat),l=p++q→acc.length+4* q.length<100000000→
 ∃e',Lp AP.A [1,4,14,15,16] AP.f102L0 [(1,P),(4,.str (bytesOf acc)),(14,v),(15,.int .i64 l.length),(16,.int .i64 p.length)] h=some (.exit 0,e',h)∧look e' 1=P∧look e' 4=.str (bytesOf (acc++La q))
 | [], p, acc, hp, ha => by
   refine⟨[(1,P),(4,.str (bytesOf acc)),(14,v),(15,.int .i64 l.length),(16,.int .i64 p.length),(17,.bool false)],vW ?_,rfl,by simp [La,look]⟩
   have e:l.length=p.length:=by rw[hp];simp
   rw[e]
   simp (disch:=first|omega|(simp only[zX,acN,acP,xW,Nat.reduceAdd];first|done|omega|fail)|(simp (disch:=first|omega|(simp only[zX,acN,acP,xW,Nat.reduceAdd];first|done|omega|fail)|fail)only[zX,ES,acR,acN,acP,xW,Nat.reduceAdd];done)|fail)only[go_sem,yH,Fl,AP.f102L0]
 | n :: q, p, acc, hp, ha => by
   rw[acN]at ha
   obtain⟨e',r1,r2,r3⟩:=MK (P:=P) hl hn h rd q (p++[n]) (acc++zw n.toNat 4) (by rw[hp];simp) (by rw[yy,zk];omega)
   obtain⟨ad,a1,a2⟩:=rd.zL
   have hlen:l.length=p.length+(q.length+1):=by rw[hp];simp
   have i1:=a1 (p.length:Int) ⟨by omega,by omega⟩
   have i2:=a2 h (Ext.refl h) p.length n (by rw[hp];simp)
   have bn:=hn n (by rw[hp];simp)
   have k1:=fun g=>ER g n.toNat 4 (by omega) (by omega)
   rw[show((n.toNat:Nat):Int)=n by omega]at k1
   have s1:bH .add (.str (bytesOf acc)) (.str (RJ n.toNat 4))=some (.str (bytesOf (acc++zw n.toNat 4))):=C8 (by rw[zk];omega)
   have n1:((p.length+1:Nat):Int)=(p.length:Int)+1:=by omega
   rw[yy,show [n].length=1 from rfl,n1]at r1
   refine⟨e',vX ?_ r1,r2,by rw[r3];simp [La]⟩
   have k1':∀g:H,aV AP.A 104 [.int .i64 n,.int .i64 4] g=some (.str (RJ n.toNat 4),g):=k1
   simp (disch:=first|omega|(simp only[zX,acN,acP,xW,Nat.reduceAdd];first|done|omega|fail)|(simp (disch:=first|omega|(simp only[zX,acN,acP,xW,Nat.reduceAdd];first|done|omega|fail)|fail)only[zX,ES,acR,acN,acP,xW,Nat.reduceAdd];done)|fail)only[go_sem,yH,Fl,AP.f102L0,i1,i2,k1',s1]
theorem PE.obj {h:H} {id:Nat} {cs:List AV} (hg:h.get id=some cs):PE h (.aH id 0) cs:=
 ⟨fun g=>rfl,fun k=>.aH id (0+k),fun k=>rfl,fun g hx k c hc=>by
  show cq false 1 (.aH id (0+k)) g=_
  rw[xW]
  simp only[cq,hx _ _ hg,xM,jg,hc];rfl⟩
theorem WA (h:H) (hf:h.floor≤h.next) (e:zu) (v:AV) (hv:v.sc=true) (ok:BU h (e,v)):aV AP.A 102 [.agg (yO e v)] h=some (Yv e,h):=by
 obtain⟨A,hA⟩:∃x,x=yO e v:=⟨_,rfl⟩
 have lA:A.length=9:=by rw[hA];rfl
 have cA:AV.aG A=true:=by rw[hA];exact Cu hv
 have g2:A[2]?=some v:=by rw[hA];rfl
 have g1:A[1]?=some (.bool e.gone):=by rw[hA];rfl
 have g3:A[3]?=some (.int .i64 e.y0):=by rw[hA];rfl
 have g4:A[4]?=some (.int .i64 e.node):=by rw[hA];rfl
 have x1:Ext h (h.eV.alloc A):=fun i c q=>((Ext.refl h.eV).alloc _) i c q
 have o1:=ok.mono x1
 have q1:aV AP.A 112 [.aH h.next 0] (h.eV.alloc A)=some (.bool (zD e),h.eV.alloc A):=by
  refine RG (h.eV.alloc A) (.aH h.next 0) v e ?_ o1.vec o1.vl
  rw[←hA];exact PE.obj (yG (by simp))
 unfold Yv
 cases hh:zD e with
 | false =>
   rw[hh]at q1
   rw[if_neg (by decide)]
   refine wN (fn:=AP.f102) (h2:=h.eV.alloc A) (e:=[(2,.str ⟨#[]⟩),(3,.int .i64 1200)]) rfl rfl rfl ?_ rfl rfl
   rw[←hA]
   simp (disch:=first|omega|(simp only[zX,acN,acP,xW,Nat.reduceAdd];first|done|omega|fail)|(simp (disch:=first|omega|(simp only[zX,acN,acP,xW,Nat.reduceAdd];first|done|omega|fail)|fail)only[zX,ES,acR,acN,acP,xW,Nat.reduceAdd];done)|fail)only[go_sem,yH,Fl,AP.f102,lA,cA,q1]
 | true =>
   rw[hh]at q1
   rw[if_pos rfl]
   obtain⟨f1,f2,f3,f4⟩:=Ac hh
   have k1:∀g,aV AP.A 104 [.int .i64 20592,.int .i64 2] g=some (.str (bytesOf (zw 20592 2)),g):=fun g=>ER g 20592 2 (by omega) (by omega)
   have k2:∀g,aV AP.A 104 [.int .i64 22,.int .i64 2] g=some (.str (bytesOf (zw 22 2)),g):=fun g=>ER g 22 2 (by omega) (by omega)
   have k3:∀g,aV AP.A 104 [.int .i64 e.y0,.int .i64 4] g=some (.str (bytesOf (zw e.y0.toNat 4)),g):=fun g=>by
    have:=ER g e.y0.toNat 4 (by omega) (by omega)
    rw[show((e.y0.toNat:Nat):Int)=e.y0 by omega]at this;exact this
   have k4:∀g,aV AP.A 104 [.int .i64 e.node,.int .i64 1] g=some (.str (bytesOf (zw e.node.toNat 1)),g):=fun g=>by
    have:=ER g e.node.toNat 1 (by omega) (by omega)
    rw[show((e.node.toNat:Nat):Int)=e.node by omega]at this;exact this
   have k5:∀g,aV AP.A 104 [.int .i64 0,.int .i64 1] g=some (.str (bytesOf (zw 0 1)),g):=fun g=>ER g 0 1 (by omega) (by omega)
   have k6:∀g,aV AP.A 104 [.int .i64 1,.int .i64 1] g=some (.str (bytesOf (zw 1 1)),g):=fun g=>ER g 1 1 (by omega) (by omega)
   have ln:=o1.vec.len
   rw[rY]at ln
   simp only[I]at ln
   obtain⟨e',r1,r2,r3⟩:=MK (P:=.aH h.next 0) (by omega) f2 (h.eV.alloc A) o1.vec e.vec [] (zw 20592 2++zw 22 2) rfl (by rw[yy,zk,zk];omega)
   have r1':Lp AP.A [1,4,14,15,16] AP.f102L0 [(1,.aH h.next 0),(4,.str (bytesOf (zw 20592 2++zw 22 2))),(14,v),(15,.int .i64 e.vec.length),(16,.int .i64 0)] (h.eV.alloc A)=some (.exit 0,e',h.eV.alloc A):=r1
   clear r1
   have vl:=Nh e.vec
   have s1:bH .add (.str (bytesOf (zw 20592 2))) (.str (bytesOf (zw 22 2)))=some (.str (bytesOf (zw 20592 2++zw 22 2))):=C8 (by rw[zk,zk];omega)
   obtain⟨L1,hL1⟩:∃x,x=zw 20592 2++zw 22 2++La e.vec:=⟨_,rfl⟩
   have l1:L1.length=20:=by rw[hL1,yy,yy,zk,zk,vl,f1]
   obtain⟨S1,h1⟩:∃x,x=bytesOf L1:=⟨_,rfl⟩
   obtain⟨S2,h2⟩:∃x,x=bytesOf (L1++zw e.y0.toNat 4):=⟨_,rfl⟩
   obtain⟨S3,h3⟩:∃x,x=bytesOf (L1++zw e.y0.toNat 4++zw e.node.toNat 1):=⟨_,rfl⟩
   obtain⟨S4,h4⟩:∃x,x=bytesOf (L1++zw e.y0.toNat 4++zw e.node.toNat 1++zw (if e.gone then 1 else 0) 1):=⟨_,rfl⟩
   have s2:bH .add (.str S1) (.str (bytesOf (zw e.y0.toNat 4)))=some (.str S2):=by rw[h1,h2];exact C8 (by rw[zk];omega)
   have s3:bH .add (.str S2) (.str (bytesOf (zw e.node.toNat 1)))=some (.str S3):=by rw[h2,h3];exact C8 (by rw[yy,zk,zk];omega)
   have s4:bH .add (.str S3) (.str (bytesOf (zw (if e.gone then 1 else 0) 1)))=some (.str S4):=by rw[h3,h4];exact C8 (by rw[yy,yy,zk,zk,zk];omega)
   rw[show zw 20592 2++zw 22 2++La e.vec=L1 from hL1.symm,←h1]at r3
   unfold Jk
   rw[←hL1,←hA,←h4]
   clear hL1 o1 x1 ok h1 h2 h3 h4
   refine wN (fn:=AP.f102) (h2:=h.eV.alloc A) (e:=[(2,.str S4),(3,.int .i64 0)]) rfl rfl rfl ?_ rfl rfl
   cases hg:e.gone with
   | true =>
     rw[hg]at g1 s4
     rw[if_pos rfl]at s4
     simp (disch:=first|omega|(simp only[zX,acN,acP,xW,Nat.reduceAdd];first|done|omega|fail)|(simp (disch:=first|omega|(simp only[zX,acN,acP,xW,Nat.reduceAdd];first|done|omega|fail)|fail)only[zX,ES,acR,acN,acP,xW,Nat.reduceAdd];done)|fail)only[go_sem,yH,Fl,AP.f102,lA,cA,q1,k1,k2,k3,k4,k5,k6,s1,s2,s3,s4,g1,g2,g3,g4,ln,u9,r1',r2,r3]
   | false =>
     rw[hg]at g1 s4
     rw[if_neg (by decide)]at s4
     simp (disch:=first|omega|(simp only[zX,acN,acP,xW,Nat.reduceAdd];first|done|omega|fail)|(simp (disch:=first|omega|(simp only[zX,acN,acP,xW,Nat.reduceAdd];first|done|omega|fail)|fail)only[zX,ES,acR,acN,acP,xW,Nat.reduceAdd];done)|fail)only[go_sem,yH,Fl,AP.f102,lA,cA,q1,k1,k2,k3,k4,k5,k6,s1,s2,s3,s4,g1,g2,g3,g4,ln,u9,r1',r2,r3]
def LQ (e:zu):List Nat:=zw e.name.size 1++Hl e.name++Jk e++zw e.DZ.toNat 4
def Wx (e:zu):Option Nat:=if BT e=true then some (DR (LQ e))else none
def abD:Option Nat→AV
 |some n=>.cf [.int .i64 n,.int .i64 0]
 |none=>.cf [.int .i64 0,.int .i64 1500]
theorem MX (l:List Nat):DR l<4294967296:=by unfold DR;omega
theorem Oz (p:Nat) (ss:List ByteArray) (h:H) (hg:h.get p=some (ss.map AV.str)) (hs:∀s∈ss,s.size<1125899906842624) (hl:ss.length<1000000):∀(q pr:List ByteArray) (a:Nat),ss=pr++q→a<4294967296→
 ∃e',Lp AP.A [6,7,28,29,30] AP.f91L0 [(6,.fn 103 [] []),(7,.int .i64 a),(28,.aI p 0 ss.length 1),(29,.int .i64 ss.length),(30,.int .i64 pr.length)] h=some (.exit 0,e',h)∧look e' 7=.int .i64 (q.foldl AY a:Nat)
 | [], pr, a, hp, ha => by
   have e:ss.length=pr.length:=by rw[hp];simp
   refine⟨[(6,.fn 103 [] []),(7,.int .i64 a),(28,.aI p 0 ss.length 1),(29,.int .i64 ss.length),(30,.int .i64 pr.length),(31,.bool false)],vW ?_,rfl⟩
   rw[e]
   simp (disch:=first|omega|(simp only[zX,acN,acP,xW,Nat.reduceAdd];first|done|omega|fail)|(simp (disch:=first|omega|(simp only[zX,acN,acP,xW,Nat.reduceAdd];first|done|omega|fail)|fail)only[zX,ES,acR,acN,acP,xW,Nat.reduceAdd];done)|fail)only[go_sem,yH,Fl,AP.f91L0]
 | s :: q, pr, a, hp, ha => by
   obtain⟨e',r1,r2⟩:=Oz p ss h hg hs hl q (pr++[s]) (AY a s) (by rw[hp];simp) (F6 a s)
   have hlen:ss.length=pr.length+(q.length+1):=by rw[hp];simp
   have k1:=NW h s a ha (hs s (by rw[hp];simp))
   have g1:(ss.map AV.str)[pr.length]?=some (.str s):=by rw[hp];simp
   have n1:((pr.length+1:Nat):Int)=(pr.length:Int)+1:=by omega
   rw[yy,show [s].length=1 from rfl,n1]at r1
   refine⟨e',vX ?_ r1,r2⟩
   simp (disch:=first|omega|(simp only[zX,acN,acP,xW,Nat.reduceAdd];first|done|omega|fail)|(simp (disch:=first|omega|(simp only[zX,acN,acP,xW,Nat.reduceAdd];first|done|omega|fail)|fail)only[zX,ES,acR,acN,acP,xW,Nat.reduceAdd];done)|fail)only[go_sem,yH,Fl,AP.f91L0,hg,k1,g1]
theorem Ym (a b c d:ByteArray):[a,b,c,d].foldl AY 0=AH (a++b++c++d):=by
 show AY (AY (AY (AY 0 a) b) c) d=AY 0 _
 rw[Ez,Ez,Ez]
 congr 1
 simp only[ByteArray.append_assoc]
theorem P5 (s:ByteArray):Ij s=true↔s.size=0:=by
 unfold Ij
 rw[beq_iff_eq]
 constructor
 · intro h;rw[←HB];unfold Hl;rw[h];rfl
 · intro h
   have:s.data.toList.length=0:=by rw[Array.length_toList];exact h
   rw[ada this]
theorem Qg {e:zu} (h:BT e=true):zD e=true∧(1≤e.name.size∧e.name.size≤8)∧0≤e.DZ∧e.DZ≤4294967295:=by
 unfold BT Cz at h
 split at h
 · cases h
 · rename_i hm
   have hm:AZ [e]=true:=by cases q:AZ [e]with|true=>rfl|false=>exact absurd q hm
   simp only[AZ,BW,KL,xR,Bool.and_true]at hm
   obtain⟨⟨h1,h2,h3⟩,_⟩:=hm
   refine⟨h2, ?_, ?_⟩
   · simp only[Ao,xR,ac6]at h1
     exact⟨h1.1,h1.2.1⟩
   · unfold AO at h3
     split at h3
     · simp only[xR,ac6]at h3;omega
     · simp only[xR,ac6,Hx]at h3;omega
theorem Tm (e:zu):∀b∈LQ e,b<256:=by
 intro b hb
 unfold LQ at hb
 simp only[ac9]at hb
 rcases hb with ((hb|hb)|hb)|hb
 · exact CZ _ _ b hb
 · exact N9 _ b hb
 · exact T7 _ b hb
 · exact CZ _ _ b hb
theorem Tn (e:zu):bytesOf (zw e.name.size 1)++e.name++bytesOf (Jk e)++bytesOf (zw e.DZ.toNat 4)=bytesOf (LQ e):=by
 unfold LQ
 rw[←Co,←Co,←Co,D4]
theorem R4 {e:zu} (h:zD e=true):(Jk e).length=26:=by
 obtain⟨f1,_⟩:=Ac h
 unfold Jk
 simp only[yy,zk,Nh,f1]
set_option maxHeartbeats 1000000 in
theorem Q7 (h:H) (hf:h.floor≤h.next) (e:zu) (v:AV) (hv:v.sc=true) (ok:BU h (e,v)):aV AP.A 91 [.agg (yO e v)] h=some (abD (Wx e),h):=by
 obtain⟨A,hA⟩:∃x,x=yO e v:=⟨_,rfl⟩
 have lA:A.length=9:=by rw[hA];rfl
 have cA:AV.aG A=true:=by rw[hA];exact Cu hv
 have tA:List.take 9 A=A:=by rw[hA];rfl
 have g0:A[0]?=some (.str e.name):=by rw[hA];rfl
 have g8:A[8]?=some (.int .i64 e.DZ):=by rw[hA];rfl
 have x1:Ext h (h.eV.alloc A):=fun i c q=>((Ext.refl h.eV).alloc _) i c q
 have o1:=ok.mono x1
 have f1:(h.eV.alloc A).floor≤(h.eV.alloc A).next:=by simp
 have q1:aV AP.A 96 [.agg A] (h.eV.alloc A)=some (.bool (BT e),h.eV.alloc A):=by
  have:=Rh (h.eV.alloc A) f1 e v hv o1
  rw[←hA]at this;exact this
 unfold Wx
 cases hm:BT e with
 | false =>
   rw[hm]at q1
   rw[if_neg (by decide)]
   refine wN (fn:=AP.f91) (h2:=h.eV.alloc A) (e:=[(2,.int .i64 0),(3,.int .i64 1500)]) rfl rfl rfl ?_ rfl rfl
   rw[←hA]
   simp (disch:=first|omega|(simp only[zX,acN,acP,xW,Nat.reduceAdd];first|done|omega|fail)|(simp (disch:=first|omega|(simp only[zX,acN,acP,xW,Nat.reduceAdd];first|done|omega|fail)|fail)only[zX,ES,acR,acN,acP,xW,Nat.reduceAdd];done)|fail)only[go_sem,yH,Fl,AP.f91,lA,cA,tA,q1]
 | true =>
   rw[hm]at q1
   rw[if_pos rfl]
   obtain⟨m1,m2,m3⟩:=Qg hm
   have q2:aV AP.A 102 [.agg A] (h.eV.alloc A)=some (.cf [.str (bytesOf (Jk e)),.int .i64 0],h.eV.alloc A):=by
    have:=WA (h.eV.alloc A) f1 e v hv o1
    unfold Yv at this
    rw[if_pos m1,←hA]at this;exact this
   have q3:∀g,aV AP.A 104 [.int .i64 e.name.size,.int .i64 1] g=some (.str (bytesOf (zw e.name.size 1)),g):=fun g=>ER g e.name.size 1 (by omega) (by omega)
   have q4:∀g,aV AP.A 104 [.int .i64 e.DZ,.int .i64 4] g=some (.str (bytesOf (zw e.DZ.toNat 4)),g):=fun g=>by
    have:=ER g e.DZ.toNat 4 (by omega) (by omega)
    rw[show((e.DZ.toNat:Nat):Int)=e.DZ by omega]at this;exact this
   have pl:=R4 m1
   obtain⟨T1,e1⟩:∃x,x=bytesOf (zw e.name.size 1):=⟨_,rfl⟩
   obtain⟨T3,e3⟩:∃x,x=bytesOf (Jk e):=⟨_,rfl⟩
   obtain⟨T4,e4⟩:∃x,x=bytesOf (zw e.DZ.toNat 4):=⟨_,rfl⟩
   have ds:=Tn e
   rw[←e1,←e3,←e4]at ds
   rw[←e3]at q2
   rw[←e1]at q3
   rw[←e4]at q4
   have t1:T1.size=1:=by rw[e1,ze,zk]
   have t3:T3.size=26:=by rw[e3,ze,pl]
   have t4:T4.size=4:=by rw[e4,ze,zk]
   obtain⟨e',r1,r2⟩:=Oz (h.next+1) [T1,e.name,T3,T4] ((h.eV.alloc A).alloc [.str T1,.str e.name,.str T3,.str T4]) (yG (by simp)) (by
    intro s hs
    simp only[yu,List.mem_nil_iff,or_false]at hs
    rcases hs with rfl|rfl|rfl|rfl<;>omega) (by simp) [T1,e.name,T3,T4] [] 0 rfl (by omega)
   rw[Ym,ds,HR (Tm e)]at r2
   have r1':Lp AP.A [6,7,28,29,30] AP.f91L0 [(6,.fn 103 [] []),(7,.int .i64 0),(28,.aI (h.next+1) 0 4 1),(29,.int .i64 4),(30,.int .i64 0)] ((h.eV.alloc A).alloc [.str T1,.str e.name,.str T3,.str T4])=some (.exit 0,e',(h.eV.alloc A).alloc [.str T1,.str e.name,.str T3,.str T4]):=r1
   clear r1
   refine wN (fn:=AP.f91) (h2:=(h.eV.alloc A).alloc [.str T1,.str e.name,.str T3,.str T4]) (e:=[(2,.int .i64 (DR (LQ e))),(3,.int .i64 0)]) rfl rfl rfl ?_ rfl rfl
   rw[←hA]
   clear ds e1 e3 e4 o1 x1 ok
   simp (disch:=first|omega|(simp only[zX,acN,acP,xW,Nat.reduceAdd];first|done|omega|fail)|(simp (disch:=first|omega|(simp only[zX,acN,acP,xW,Nat.reduceAdd];first|done|omega|fail)|fail)only[zX,ES,acR,acN,acP,xW,Nat.reduceAdd];done)|fail)only[go_sem,yH,Fl,AP.f91,lA,cA,tA,q1,q2,q3,q4,g0,g8,u9,r1',r2]
def G8 (l:List Int):List Nat:=l.flatMap fun n=>zw n.toNat 4
def Ms (l:List Int):Option Nat:=if l.all Hx=true then some (DR (G8 l))else none
theorem RN (l:List Int):∀b∈G8 l,b<256:=Pt l
theorem J0 {v : AV} {l : List Int} (hl : l.length < 1125899906842624) (h : H) (rd : Rd h v (ints l)) : ∀ (q p : List Int) (a : Nat), l = p ++ q → a < 4294967296 →
 (q.all Hx=true∧∃e',Lp AP.A [4,7,8,9] AP.f93L0 [(4,.int .i64 a),(7,v),(8,.int .i64 l.length),(9,.int .i64 p.length)] h=some (.exit 0,e',h)∧look e' 4=.int .i64 (AY a (bytesOf (G8 q)):Nat))∨
 (q.all Hx=false∧∃e',Lp AP.A [4,7,8,9] AP.f93L0 [(4,.int .i64 a),(7,v),(8,.int .i64 l.length),(9,.int .i64 p.length)] h=some (.ret,e',h)∧look e' 2=.int .i64 0∧look e' 3=.int .i64 1500)
 | [], p, a, hp, ha => by
   left
   have e:l.length=p.length:=by rw[hp];simp
   refine⟨rfl,[(4,.int .i64 a),(7,v),(8,.int .i64 l.length),(9,.int .i64 p.length),(10,.bool false)],vW ?_, ?_⟩
   · rw[e]
     simp (disch:=first|omega|(simp only[zX,acN,acP,xW,Nat.reduceAdd];first|done|omega|fail)|(simp (disch:=first|omega|(simp only[zX,acN,acP,xW,Nat.reduceAdd];first|done|omega|fail)|fail)only[zX,ES,acR,acN,acP,xW,Nat.reduceAdd];done)|fail)only[go_sem,yH,Fl,AP.f93L0]
   · show AV.int .i64 (a:Int)=.int .i64 ((AY a (bytesOf []):Nat):Int)
     rw[F5]
     have:LM (4294967295-a) (Hl (bytesOf []))=4294967295-a:=rfl
     rw[this];congr 1;omega
 | n :: q, p, a, hp, ha => by
   obtain⟨ad,a1,a2⟩:=rd.zL
   have hlen:l.length=p.length+(q.length+1):=by rw[hp];simp
   have i1:=a1 (p.length:Int) ⟨by omega,by omega⟩
   have i2:=a2 h (Ext.refl h) p.length n (by rw[hp];simp)
   have k1:=abw h n
   rw[List.all_cons]
   cases hn:Hx n with
   | false =>
     rw[hn]at k1
     right
     refine⟨rfl,[(2,.int .i64 0),(3,.int .i64 1500)],wD ?_,rfl,rfl⟩
     simp (disch:=first|omega|(simp only[zX,acN,acP,xW,Nat.reduceAdd];first|done|omega|fail)|(simp (disch:=first|omega|(simp only[zX,acN,acP,xW,Nat.reduceAdd];first|done|omega|fail)|fail)only[zX,ES,acR,acN,acP,xW,Nat.reduceAdd];done)|fail)only[go_sem,yH,Fl,AP.f93L0,i1,i2,k1]
   | true =>
     rw[hn]at k1
     rw[adn]
     simp only[Hx,ac6]at hn
     have k2:∀g,aV AP.A 104 [.int .i64 n,.int .i64 4] g=some (.str (bytesOf (zw n.toNat 4)),g):=fun g=>by
      have:=ER g n.toNat 4 (by omega) (by omega)
      rw[show((n.toNat:Nat):Int)=n by omega]at this;exact this
     have k3:=NW h (bytesOf (zw n.toNat 4)) a ha (by rw[ze,zk];omega)
     have n1:((p.length+1:Nat):Int)=(p.length:Int)+1:=by omega
     have ih:=J0 hl h rd q (p++[n]) (AY a (bytesOf (zw n.toNat 4))) (by rw[hp];simp) (F6 _ _)
     rw[yy,show [n].length=1 from rfl,n1,Ez,Co]at ih
     rcases ih with ⟨g1,e',r1,r2⟩|⟨g1,e',r1,r2⟩
     · left
       refine⟨g1,e',vX ?_ r1,r2⟩
       simp (disch:=first|omega|(simp only[zX,acN,acP,xW,Nat.reduceAdd];first|done|omega|fail)|(simp (disch:=first|omega|(simp only[zX,acN,acP,xW,Nat.reduceAdd];first|done|omega|fail)|fail)only[zX,ES,acR,acN,acP,xW,Nat.reduceAdd];done)|fail)only[go_sem,yH,Fl,AP.f93L0,i1,i2,k1,k2,k3]
     · right
       refine⟨g1,e',vX ?_ r1,r2⟩
       simp (disch:=first|omega|(simp only[zX,acN,acP,xW,Nat.reduceAdd];first|done|omega|fail)|(simp (disch:=first|omega|(simp only[zX,acN,acP,xW,Nat.reduceAdd];first|done|omega|fail)|fail)only[zX,ES,acR,acN,acP,xW,Nat.reduceAdd];done)|fail)only[go_sem,yH,Fl,AP.f93L0,i1,i2,k1,k2,k3]
theorem RQ (h:H) (v:AV) (l:List Int) (rd:Rd h v (ints l)) (hl:l.length<1125899906842624):aV AP.A 93 [v] h=some (abD (Ms l),h):=by
 have rd':=rd.mono (yQ h)
 have ln:=rd'.len
 rw[rY]at ln
 simp only[I]at ln
 unfold Ms
 rcases J0 hl h.eV rd' l [] 0 rfl (by omega)with ⟨g1,e',r1,r2⟩|⟨g1,e',r1,r2,r3⟩
 · rw[if_pos g1]
   have r1':Lp AP.A [4,7,8,9] AP.f93L0 [(4,.int .i64 0),(7,v),(8,.int .i64 l.length),(9,.int .i64 0)] h.eV=some (.exit 0,e',h.eV):=r1
   have r2':look e' 4=.int .i64 (DR (G8 l)):=by rw[r2,←HR (RN l)];rfl
   refine wN (fn:=AP.f93) (h2:=h.eV) (e:=[(2,.int .i64 (DR (G8 l))),(3,.int .i64 0)]) rfl rfl rfl ?_ rfl rfl
   simp (disch:=first|omega|(simp only[zX,acN,acP,xW,Nat.reduceAdd];first|done|omega|fail)|(simp (disch:=first|omega|(simp only[zX,acN,acP,xW,Nat.reduceAdd];first|done|omega|fail)|fail)only[zX,ES,acR,acN,acP,xW,Nat.reduceAdd];done)|fail)only[go_sem,yH,Fl,AP.f93,ln,u9,r1',r2']
 · rw[if_neg (by rw[g1];decide)]
   have r1':Lp AP.A [4,7,8,9] AP.f93L0 [(4,.int .i64 0),(7,v),(8,.int .i64 l.length),(9,.int .i64 0)] h.eV=some (.ret,e',h.eV):=r1
   refine wN (fn:=AP.f93) (h2:=h.eV) (e:=e') rfl rfl rfl ?_ (by simp only[AP.f93,dh,pB,r2,r3];rfl) rfl
   simp (disch:=first|omega|(simp only[zX,acN,acP,xW,Nat.reduceAdd];first|done|omega|fail)|(simp (disch:=first|omega|(simp only[zX,acN,acP,xW,Nat.reduceAdd];first|done|omega|fail)|fail)only[zX,ES,acR,acN,acP,xW,Nat.reduceAdd];done)|fail)only[go_sem,yH,Fl,AP.f93,ln,u9,r1']
def SU (e:zu):Nat:=128+2* e.name.size+e.packed.size
def Gs:List zu→Nat
 |[]=>0
 |e::l=>SU e+Gs l
theorem HA (a b:List zu):Gs (a++b)=Gs a+Gs b:=by
 induction a with
 |nil=>simp [Gs]
 |cons x a ih=>rw[List.cons_append,Gs,Gs,ih];omega
def Bl (l:List zu):Nat:=22+Gs l
def Ai (l:List zu):Bool:=AZ l&&l.all BT
theorem Mu:∀{l:List zu} {p:Option zu},BW p l=true→∀e∈l,Ao e.name=true∧zD e=true∧AO e=true
 |[],_,_,e,h=>by cases h
 | x :: l, p, hm, e, h => by
   rw[BW,xR]at hm
   rcases yu.1 h with rfl|h
   · have:=hm.1
     unfold BJ at this
     simp only[xR]at this
     exact⟨this.1,this.2.2.1,this.2.2.2⟩
   · exact Mu hm.2 e h
theorem CL {e:zu} (h:AO e=true):e.packed.size≤300:=by
 unfold AO at h
 split at h
 · simp only[xR]at h
   have:=(P5 _).1 h.2.1
   omega
 · simp only[xR,yh,ac6]at h
   omega
theorem A1 {s:ByteArray} (h:Ao s=true):1≤s.size∧s.size≤8:=by
 unfold Ao at h
 simp only[xR,ac6]at h
 omega
theorem Sx:∀{l:List zu},(∀e∈l,Ao e.name=true∧zD e=true∧AO e=true)→Gs l≤444* l.length
 |[],_=>by simp [Gs]
 | e :: l, h => by
   have i:=Sx (l:=l) fun x hx=>h x (by simp [hx])
   obtain⟨h1,_,h3⟩:=h e (by simp)
   have:=A1 h1
   have:=CL h3
   rw[Gs,acN];unfold SU;omega
theorem zG {l:List zu} (h:AZ l=true):l.length≤6∧(∀e∈l,Ao e.name=true∧zD e=true∧AO e=true)∧Bl l≤4096:=by
 unfold AZ at h
 simp only[xR,ac6]at h
 have a:=Mu h.1
 have:=Sx a
 exact⟨h.2,a,by unfold Bl;omega⟩
def KE (e:zu):Nat:=AH e.name%8
def Uy (e:zu):Int:=((DR (LQ e):Nat):Int)
def BR (l:List zu) (b:Nat):List Int:=(l.filter fun e=>KE e==b).map Uy
theorem PL (l:List zu) (e:zu) (b:Nat):BR (l++[e]) b=if KE e=b then BR l b++[Uy e]else BR l b:=by
 unfold BR
 rw[List.filter_append,adk]
 by_cases c:KE e=b
 · rw[if_pos c];simp [c]
 · rw[if_neg c];simp [c]
theorem LC (l:List zu) (b:Nat):(BR l b).length≤l.length:=by
 unfold BR;rw[acV];exact List.length_filter_le _ _
theorem Te (l:List zu) (b:Nat):(BR l b).all Hx=true:=by
 unfold BR
 rw[List.all_map,adp]
 intro e _
 have:=MX (LQ e)
 simp [Function.comp,Hx,Uy]
 omega
def AK (l:List Int):Int:=((DR (G8 l):Nat):Int)
theorem RM {l:List Int} (h:l.all Hx=true):Ms l=some (DR (G8 l)):=by unfold Ms;rw[if_pos h]
theorem RP (l:List Int):Hx (AK l)=true:=by
 have:=MX (G8 l)
 simp [Hx,AK]
 omega
def AQ (l:List zu):List Int:=(List.range 8).map fun b=>AK (BR l b)
theorem BI (l:List zu):(AQ l).length=8:=by simp [AQ]
theorem Q9 (l:List zu):(AQ l).all Hx=true:=by
 unfold AQ
 rw[List.all_map,adp]
 exact fun b _=>RP _
def FA:Option Int→List Int→Bool
 |_,[]=>true
 |p,b::l=>(decide (0≤b)&&(decide (b<8)&&(match p with|none=>true|some q=>decide (q<b))))&&FA (some b) l
def Fz (l:List Int):Bool:=FA none l
abbrev Bri:=ByteArray×List Int
def CI (l:List zu) (bs:List Int):List Bri:=(l.filter fun e=>bs.contains ((KE e:Nat):Int)).map fun e=>(e.name,e.vec)
structure Bu (h:H) (A:Nat) (C:Nat→AV) (ls:Nat→List Int):Prop where
 get:h.get A=some (pL 8 C)
 fl:h.floor≤A
 nx:h.floor≤h.next
 own:∀n,n<8→yS 1 h (C n) (ls n).length (ints (ls n))
 OA:∀n m,n<8→m<8→n≠m→∀i,(C n).id?=some i→(C m).id?≠some i
 gt:∀n,n<8→∀i,(C n).id?=some i→A<i
theorem Bu.mono {h g:H} {A:Nat} {C:Nat→AV} {ls:Nat→List Int} (b:Bu h A C ls) (hf:g.floor=h.floor) (hn:h.next≤g.next) (hg:∀i,i<h.next→g.get i=h.get i):Bu g A C ls:=
 ⟨by rw[hg A (h.lt _ _ b.get)];exact b.get,by rw[hf];exact b.fl,by rw[hf];exact yw b.nx hn,fun n hn'=>(b.own n hn').mono hf fun i q=>hg i ((b.own n hn').lt q).2,b.OA,b.gt⟩
theorem Bu.push {h : H} {A : Nat} {C : Nat → AV} {ls : Nat → List Int} (b : Bu h A C ls) {n : Nat} (hn : n < 8) (hl : (ls n).length < 1000000) (x : Int) :
 ∃ v' h', mR (h.alloc [.int .i64 x]) 1 8 (C n) (.aI h.next 0 1 1) = some (v', h') ∧ v'.sc = true ∧ h'.get A = some (pL 8 C) ∧ h'.floor = h.floor ∧ h.next ≤ h'.next ∧
   Bu (h'.set A (pL 8 (wS C n v'))) A (wS C n v') (fun m=>if m=n then ls n++[x]else ls m)∧∀i,i<A→h'.get i=h.get i:=by
 have o:=b.own n hn
 obtain⟨v',h',p1,p2,p3,p4,p5,p6⟩:=o.push b.nx (z:=8) (m:=1) (by omega) (by omega) [.int .i64 x] rfl rfl (by simp [roomy];omega)
 have hA:=h.lt _ _ b.get
 have nA:(C n).id?≠some A:=fun q=>by have:=b.gt n hn A q;omega
 have gA:h'.get A=some (pL 8 C):=by rw[p5 A nA hA];exact b.get
 refine⟨v',h',p1,p2.sc,gA,p3,by omega,⟨by rw[yM rfl,gA];rfl,by simp [p3,b.fl],by simp [p3];have:=b.nx;omega,fun m hm=> ?_,fun m k hm hk hmk i q=> ?_,fun m hm i q=> ?_⟩,fun i hi=>p5 i (fun q=>by have:=b.gt n hn i q;omega) (by omega)⟩
 · by_cases c:m=n
   · subst c
     have e:ints (ls m)++[.int .i64 x]=ints (ls m++[x]):=by simp [ints,I]
     rw[e]at p2
     simp only[wS,if_true,yy,List.length_singleton]
     exact p2.mono (by simp) fun i q=>by rw[yE];rw[p6]at q;have:=xF q;omega
   · simp only[wS,if_neg c]
     refine(b.own m hm).mono (by simp [p3]) fun i q=> ?_
     have h1:=((b.own m hm).lt q).2
     have h2:=b.gt m hm i q
     rw[yE (by omega),p5 i (fun q2=>b.OA m n hm hn c i q q2) h1]
 · unfold wS at q ⊢
   by_cases c1:m=n
   · rw[if_pos c1,p6]at q
     have e:=xF q
     rw[if_neg (by omega)]
     intro q2
     have:=((b.own k hk).lt q2).2
     omega
   · rw[if_neg c1]at q
     by_cases c2:k=n
     · rw[if_pos c2,p6]
       intro q2
       have e:=xF q2
       have:=((b.own m hm).lt q).2
       omega
     · rw[if_neg c2]
       exact b.OA m k hm hk hmk i q
 · unfold wS at q
   by_cases c:m=n
   · rw[if_pos c,p6]at q
     have e:=xF q
     omega
   · rw[if_neg c]at q
     exact b.gt m hm i q
theorem Bu.new {h:H} (hf:h.floor≤h.next):Bu (h.alloc (pL 8 fun _=>.aT)) h.next (fun _=>.aT) (fun _=>[]):=
 ⟨yG rfl,by simpa using hf,by simp;omega,fun n _=>yS.nil,fun n m _ _ _ i q=>(by cases q),fun n _ i q=>(by cases q)⟩
theorem zZ.J1 {n:Nat} {h g:H} {v:AV} {k:Nat} {cs:List AV} (r:zZ n h v k cs) (hg:∀i,v.id?=some i→g.get i=h.get i):zZ n g v k cs:=by
 obtain⟨r,hl,hs⟩:=r
 refine⟨?_,hl,hs⟩
 unfold aW at r ⊢
 split at r
 · exact r
 · exact r
 · rename_i id off len s
   split at r
   · rename_i q
     rw[if_pos q,hg id rfl];exact r
   · cases r
 · exact r
 · cases r
theorem Rd.J1 {h g:H} {v:AV} {cs:List AV} (r:Rd h v cs) (hg:∀i,v.id?=some i→g.get i=h.get i):Rd g v cs:=by
 have:=r.T8.J1 hg
 exact⟨this.1,this.2.2⟩
theorem BU.J1 {h g:H} {x:zq} (o:BU h x) (hg:∀i,x.2.id?=some i→g.get i=h.get i):BU g x:=⟨o.vec.J1 hg,o.vl,o.nl,o.pl⟩
theorem NK (l:List zq) (x:zq):yR (l++[x])=yR l++yO x.1 x.2:=by simp [yR,QF]
theorem LW:∀{l:List zq},(∀x∈l,x.2.sc=true)→AV.aG (yR l)=true
 |[],_=>rfl
 | x :: l, h => by
   have i:=LW (l:=l) fun y hy=>h y (by simp [hy])
   have hx:=h x (by simp)
   show AV.aG (yO x.1 x.2++yR l)=true
   simp [yO,hx,i]
theorem zZ.SR {h:H} {v:AV} {l:List zq} (rd:zZ 9 h v l.length (yR l)):∃ad:Int→Nat→AV,(∀i:Int,0≤i∧i<l.length→ik 9 v (.int .i64 i)=some (ad i 0))∧
 (∀g,Ext h g→∀(i:Nat) (x:zq),l[i]?=some x→PE g (ad i 0) (yO x.1 x.2)∧cq true 9 (ad i 0) g=some (.agg (yO x.1 x.2))):=by
 obtain⟨ad,a1,a2,a4,a3⟩:=rd.at_
 refine⟨ad,a1,fun g hg i x hx=> ?_⟩
 have hi:i<l.length:=(xL.1 hx).1
 have hI:(0:Int)≤(i:Int)∧(i:Int)<l.length:=⟨by omega,by omega⟩
 refine⟨⟨fun g'=>a4 _ 0 g' hI,fun k=>ad i (0+k),fun k=>a2 _ 0 k hI,fun g' hg' k c hc=> ?_⟩, ?_⟩
 · have hk:k<9:=(xL.1 hc).1
   refine(a3 g' (fun id c q=>hg' id c (hg id c q))).1 _ _ _ hI ?_
   rw[Cx,xW,show yR l=l.flatMap QF from rfl,GD CX hx hk];exact hc
 · rw[(a3 g hg).2 _ hI,Cx,show yR l=l.flatMap QF from rfl,Hv CX hx];rfl
theorem PD {v:AV} {l:List zq} (h:H) (b:Nat) (hb:h.get b=some [v]) (rd:zZ 9 h v l.length (yR l)) (hm:AZ (l.map (·.1))=true):∀(q p:List zq),l=p++q→
 ∃e',Lp AP.A [0,3,10,11] AP.f192L0 [(0,.aH b 0),(3,.int .i64 (22+Gs (p.map (·.1)):Nat)),(10,.int .i64 l.length),(11,.int .i64 p.length)] h=some (.exit 0,e',h)∧look e' 3=.int .i64 (Bl (l.map (·.1)):Nat)
 | [], p, hp => by
   rw[acU]at hp;subst hp
   refine⟨[(0,.aH b 0),(3,.int .i64 (22+Gs (l.map (·.1)):Nat)),(10,.int .i64 l.length),(11,.int .i64 l.length),(12,.bool false)],vW ?_,rfl⟩
   simp (disch:=omega)only[go_sem,yH,AP.f192L0]
 | x :: q, p, hp => by
   obtain⟨m1,m2,m3⟩:=zG hm
   have hx:l[p.length]?=some x:=by rw[hp];simp
   have hlen:l.length=p.length+(q.length+1):=by rw[hp];simp
   rw[acV]at m1
   obtain⟨_,_,c3⟩:=m2 x.1 (by rw[hp];simp)
   have c1:=A1 (m2 x.1 (by rw[hp];simp)).1
   have c2:=CL c3
   obtain⟨ad,a1,a2⟩:=rd.SR
   have b1:=a1 p.length ⟨by omega,by omega⟩
   obtain⟨pe,_⟩:=a2 h (Ext.refl h) p.length x hx
   have nl:=pe.nil
   obtain⟨qq,f1,f2⟩:=pe.wc
   have l0:=f2 h (Ext.refl h) 0 _ rfl
   have l6:=f2 h (Ext.refl h) 6 _ rfl
   obtain⟨e',r1,r2⟩:=PD h b hb rd hm q (p++[x]) (by rw[hp];simp)
   have sz:Bl (l.map (·.1))=22+(Gs (p.map (·.1))+(SU x.1+Gs (q.map (·.1)))):=by unfold Bl;rw[hp,adk,HA,acW,Gs]
   have e1:22+Gs ((p++[x]).map (·.1))=22+Gs (p.map (·.1))+SU x.1:=by rw[adk,HA];simp [Gs];omega
   have n1:((p++[x]).length:Int)=(p.length:Int)+1:=by simp
   rw[e1,n1]at r1
   have se:SU x.1=128+2* x.1.name.size+x.1.packed.size:=rfl
   obtain⟨N,hN⟩:∃N,N=22+Gs (p.map (·.1)):=⟨_,rfl⟩
   rw[←hN]at r1 ⊢
   have hN2:N≤4096:=by omega
   have w:(N:Int)+(76+2* ((x.1.name.size:Int)+26)+(x.1.packed.size:Int))=((N+SU x.1:Nat):Int):=by omega
   refine⟨e',vX ?_ r1,r2⟩
   clear r1 r2 e1 sz hN rd a1 a2 f2 pe m2 m3 hm hp n1
   simp (disch:=omega)only[go_sem,yH,AP.f192L0,hb,b1,nl,f1,l0,l6,w]
theorem Un {v:AV} {l:List zq} (h:H) (b:Nat) (hb:h.get b=some [v]) (rd:zZ 9 h v l.length (yR l)) (hm:AZ (l.map (·.1))=true):aV AP.A 192 [.aH b 0] h=some (.int .i64 (Bl (l.map (·.1)):Nat),h):=by
 obtain⟨e',r1,r2⟩:=PD h b hb rd hm l [] rfl
 have ln:=rd.len
 have r1':Lp AP.A [0,3,10,11] AP.f192L0 [(0,.aH b 0),(3,.int .i64 22),(10,.int .i64 l.length),(11,.int .i64 0)] h=some (.exit 0,e',h):=r1
 clear rd r1 hm
 generalize Bl (l.map (·.1))=N at *
 refine wo (fn:=AP.f192) (h2:=h) (e:=[(2,.int .i64 N)]) (vs:=[.int .i64 N]) rfl rfl rfl ?_ rfl
 simp (disch:=omega)only[go_sem,yH,AP.f192,hb,ln,u9,r1',r2]
theorem Bi (v:AV):jg true 1 [v] 0=some (.agg [v]):=rfl
theorem Um (h:H) (v:AV) (l:List zq) (hvs:v.sc=true) (hn:l.length<1125899906842624) (rd:zZ 9 h v l.length (yR l)) (hv:∀x∈l,BU h x):aV AP.A 190 [.agg [v]] h=some (.int .i64 (if AZ (l.map (·.1))=true then(Bl (l.map (·.1)):Nat)else(0:Nat):Nat),h):=by
 obtain⟨h1,eh1⟩:∃g,g=h.eV.alloc [v]:=⟨_,rfl⟩
 have hx0:Ext h h1:=by rw[eh1];exact fun i c q=>((Ext.refl h.eV).alloc _) i c q
 have hn0:h.eV.next=h.next:=rfl
 have g1:h1.get h.next=some [v]:=by rw[eh1];exact yG rfl
 have Aq:=rd.mono fun i c q=>hx0 i c q
 have k1:=SQ h1 v l hvs hn Aq (fun x hx=>(hv x hx).mono hx0)
 cases hm:AZ (l.map (·.1))with
 | false =>
   rw[hm]at k1
   refine wN (fn:=AP.f190) (h2:=h1) (e:=[(2,.int .i64 0)]) (vs:=[.int .i64 0]) rfl rfl rfl ?_ rfl rfl
   clear rd Aq hv hx0
   simp (disch:=omega)only[go_sem,yH,AP.f190,hvs,hn0,←eh1,g1,Bi,k1]
 | true =>
   rw[hm]at k1
   have k2:=Un h1 h.next g1 Aq hm
   refine wN (fn:=AP.f190) (h2:=h1) (e:=[(2,.int .i64 (Bl (l.map (·.1)):Nat))]) (vs:=[.int .i64 (Bl (l.map (·.1)):Nat)]) rfl rfl rfl ?_ rfl rfl
   clear rd Aq hv hx0
   simp (disch:=omega)only[go_sem,yH,AP.f190,hvs,hn0,←eh1,g1,Bi,k1,k2]
theorem Yf (h:H) (v:AV) (l:List zq) (hvs:v.sc=true) (hn:l.length<1125899906842624) (rd:zZ 9 h v l.length (yR l)) (hv:∀x∈l,BU h x):aV AP.A 186 [.agg [v]] h=some (.bool (AZ (l.map (·.1))),h):=by
 obtain⟨h1,eh1⟩:∃g,g=h.eV.alloc [v]:=⟨_,rfl⟩
 have hx0:Ext h h1:=by rw[eh1];exact fun i c q=>((Ext.refl h.eV).alloc _) i c q
 have hn0:h.eV.next=h.next:=rfl
 have g1:h1.get h.next=some [v]:=by rw[eh1];exact yG rfl
 have Aq:=rd.mono fun i c q=>hx0 i c q
 have k1:=Um h1 v l hvs hn Aq (fun x hx=>(hv x hx).mono hx0)
 cases hm:AZ (l.map (·.1))with
 | false =>
   rw[hm]at k1
   have k1':aV AP.A 190 [.agg [v]] h1=some (.int .i64 0,h1):=k1
   refine wN (fn:=AP.f186) (h2:=h1) (e:=[(2,.bool false)]) (vs:=[.bool false]) rfl rfl rfl ?_ rfl rfl
   clear rd Aq hv hx0
   simp (disch:=omega)only[go_sem,yH,AP.f186,hvs,hn0,←eh1,g1,Bi,k1']
 | true =>
   rw[hm]at k1
   have k1':aV AP.A 190 [.agg [v]] h1=some (.int .i64 (Bl (l.map (·.1)):Nat),h1):=k1
   have m3:=(zG hm).2.2
   have m4:22≤Bl (l.map (·.1)):=by unfold Bl;omega
   generalize Bl (l.map (·.1))=N at *
   refine wN (fn:=AP.f186) (h2:=h1) (e:=[(2,.bool true)]) (vs:=[.bool true]) rfl rfl rfl ?_ rfl rfl
   clear rd Aq hv hx0 k1 hm
   simp (disch:=omega)only[go_sem,yH,AP.f186,hvs,hn0,←eh1,g1,Bi,k1']
theorem WD (h:H) (hf:h.floor≤h.next) (e:zu) (v:AV) (hv:v.sc=true) (ok:BU h (e,v)):aV AP.A 188 [.agg (yO e v)] h=some (.bool (!BT e),h):=by
 obtain⟨h1,eh1⟩:∃g,g=h.eV.alloc (yO e v):=⟨_,rfl⟩
 have hx1:Ext h h1:=fun i c q=>by rw[eh1];exact((Ext.refl h.eV).alloc _) i c q
 have hn0:h.eV.next=h.next:=rfl
 have g0:h1.get h.next=some (yO e v):=by rw[eh1,yG (by simp)]
 have k1:=Rh h1 (by rw[eh1];simp) e v hv (ok.mono hx1)
 have rdA:jg true 9 (yO e v) 0=some (.agg (yO e v)):=rfl
 refine wN (fn:=AP.f188) (h2:=h1) (e:=[(2,.bool (!BT e))]) rfl rfl rfl ?_ rfl rfl
 clear hx1
 simp only[yO]at *
 simp (disch:=omega)only[go_sem,yH,AP.f188,hv,hn0,←eh1,g0,rdA,k1]
theorem OM {v : AV} {l : List zq} (hl : l.length < 1000) (h : H) (hf : h.floor ≤ h.next) (rd : zZ 9 h v l.length (yR l)) (hv : ∀ x ∈ l, BU h x ∧ x.2.sc = true) : ∀ (q p : List zq), l = p ++ q →
 (∃e',Lp AP.A [0,1,7,8] AP.f191L0 [(0,v),(1,.fn 188 [] []),(7,.int .i64 l.length),(8,.int .i64 p.length)] h=some (.exit 0,e',h)∧(q.map (·.1)).all BT=true)∨
 (∃e',Lp AP.A [0,1,7,8] AP.f191L0 [(0,v),(1,.fn 188 [] []),(7,.int .i64 l.length),(8,.int .i64 p.length)] h=some (.ret,e',h)∧(∃k:Nat,look e' 4=.int .i64 k)∧(q.map (·.1)).all BT=false)
 | [], p, hp => by
   rw[acU]at hp;subst hp
   refine .inl ⟨[(0,v),(1,.fn 188 [] []),(7,.int .i64 l.length),(8,.int .i64 l.length),(9,.bool false)],vW ?_,rfl⟩
   simp (disch:=omega)only[go_sem,yH,AP.f191L0]
 | x :: q, p, hp => by
   have hx:l[p.length]?=some x:=by rw[hp];simp
   have hlen:l.length=p.length+(q.length+1):=by rw[hp];simp
   obtain⟨ad,a1,a2⟩:=rd.SR
   have b1:=a1 p.length ⟨by omega,by omega⟩
   obtain⟨_,b2⟩:=a2 h (Ext.refl h) p.length x hx
   obtain⟨ok,sc⟩:=hv x (by rw[hp];simp)
   have k1:=WD h hf x.1 x.2 sc ok
   have n1:((p++[x]).length:Int)=(p.length:Int)+1:=by simp
   have ih:=OM hl h hf rd hv q (p++[x]) (by rw[hp];simp)
   rw[n1]at ih
   rw[acW,List.all_cons]
   cases hm:BT x.1 with
   | false =>
     rw[hm]at k1
     refine .inr ⟨[(4,.int .i64 p.length)],wD ?_,⟨p.length,rfl⟩,rfl⟩
     clear ih rd a1 a2 hv hp
     generalize yO x.1 x.2=E at *
     simp (disch:=omega)only[go_sem,yH,AP.f191L0,b1,b2,k1]
   | true =>
     rw[hm]at k1
     rw[adn]
     have step:aP (aV AP.A) bL AP.f191L0 (aC [(0,v),(1,.fn 188 [] []),(7,.int .i64 l.length),(8,.int .i64 p.length)] [0,1,7,8]) h=some (.normal,[(0,v),(1,.fn 188 [] []),(7,.int .i64 l.length),(8,.int .i64 ((p.length:Int)+1))],h):=by
      clear ih rd a1 a2 hv hp
      generalize yO x.1 x.2=E at *
      simp (disch:=omega)only[go_sem,yH,AP.f191L0,b1,b2,k1]
     rcases ih with ⟨e',r1,r2⟩|⟨e',r1,r2,r3⟩
     · exact .inl ⟨e',vX step r1,r2⟩
     · exact .inr ⟨e',vX step r1,r2,r3⟩
theorem Vb (h:H) (hf:h.floor≤h.next) (v:AV) (l:List zq) (hl:l.length<1000) (rd:zZ 9 h v l.length (yR l)) (hv:∀x∈l,BU h x∧x.2.sc=true):aV AP.A 187 [v,.fn 188 [] []] h=some (.bool (!(l.map (·.1)).all BT),h):=by
 have xf:Ext h h.eV:=fun i c q=>q
 have k1:∃k:Int,aV AP.A 191 [v,.fn 188 [] []] h.eV=some (.int .i64 k,h.eV)∧(k<0↔(l.map (·.1)).all BT=true):=by
  have ln:=rd.len
  rcases OM hl h.eV.eV (by simp) (rd.mono fun i c q=>xf i c q) (fun x hx=>⟨(hv x hx).1.mono xf,(hv x hx).2⟩) l [] rfl with ⟨e',r1,r2⟩|⟨e',r1,⟨k,r2⟩,r3⟩
  · have r1':Lp AP.A [0,1,7,8] AP.f191L0 [(0,v),(1,.fn 188 [] []),(7,.int .i64 l.length),(8,.int .i64 0)] h.eV.eV=some (.exit 0,e',h.eV.eV):=r1
    refine⟨-1,wN (fn:=AP.f191) (h2:=h.eV.eV) (e:=[(4,.int .i64 (-1))]) rfl rfl rfl ?_ rfl rfl,by rw[r2];simp⟩
    clear rd hv r1 r2
    simp (disch:=omega)only[go_sem,yH,AP.f191,ln,u9,r1']
  · have r1':Lp AP.A [0,1,7,8] AP.f191L0 [(0,v),(1,.fn 188 [] []),(7,.int .i64 l.length),(8,.int .i64 0)] h.eV.eV=some (.ret,e',h.eV.eV):=r1
    refine⟨k,wN (fn:=AP.f191) (h2:=h.eV.eV) (e:=e') (vs:=[.int .i64 k]) rfl rfl rfl ?_ (by simp only[AP.f191,dh,pB,r2];rfl) rfl,by rw[r3];simp⟩
    clear rd hv r1 r2 r3
    simp (disch:=omega)only[go_sem,yH,AP.f191,ln,u9,r1']
 obtain⟨k,k1,k2⟩:=k1
 refine wN (fn:=AP.f187) (h2:=h.eV) (e:=[(4,.bool (!(l.map (·.1)).all BT))]) rfl rfl rfl ?_ rfl rfl
 cases ha:(l.map (·.1)).all BT with
 | true =>
   have:¬0≤k:=by have:=k2.2 ha;omega
   clear rd hv k2
   simp (disch:=omega)only[go_sem,yH,AP.f187,k1]
 | false =>
   have:0≤k:=by
    rw[ha]at k2
    have:¬k<0:=fun q=>by cases k2.1 q
    omega
   clear rd hv k2
   simp (disch:=omega)only[go_sem,yH,AP.f187,k1]
theorem Rr (h:H) (v:AV) (l:List zq) (hvs:v.sc=true) (hn:l.length<1125899906842624) (rd:zZ 9 h v l.length (yR l)) (hv:∀x∈l,BU h x∧x.2.sc=true):aV AP.A 183 [.agg [v]] h=some (.bool (Ai (l.map (·.1))),h):=by
 obtain⟨h1,eh1⟩:∃g,g=h.eV.alloc [v]:=⟨_,rfl⟩
 have hx0:Ext h h1:=by rw[eh1];exact fun i c q=>((Ext.refl h.eV).alloc _) i c q
 have hn0:h.eV.next=h.next:=rfl
 have g1:h1.get h.next=some [v]:=by rw[eh1];exact yG rfl
 have Aq:=rd.mono fun i c q=>hx0 i c q
 have k1:=Yf h1 v l hvs hn Aq (fun x hx=>(hv x hx).1.mono hx0)
 refine wN (fn:=AP.f183) (h2:=h1) (e:=[(2,.bool (Ai (l.map (·.1))))]) rfl rfl rfl ?_ rfl rfl
 unfold Ai
 cases hm:AZ (l.map (·.1))with
 | false =>
   rw[hm]at k1
   clear rd Aq hv hx0
   simp (disch:=omega)only[go_sem,yH,AP.f183,hvs,hn0,←eh1,g1,Bi,k1]
 | true =>
   rw[hm]at k1
   have m1:=(zG hm).1
   rw[acV]at m1
   have k2:=Vb h1 (by rw[eh1];simp) v l (by omega) Aq (fun x hx=>⟨(hv x hx).1.mono hx0,(hv x hx).2⟩)
   clear rd Aq hv hx0
   generalize (l.map (·.1)).all BT=B at *
   cases B<;>simp (disch:=omega)only[go_sem,yH,AP.f183,hvs,hn0,←eh1,g1,Bi,k1,k2]
def Uz:Ty:=.sl Wz 9 104
def TB:Ty:=.st [Uz]
theorem Ub {ess:List (List AV)} (h:∀es,es∈ess→Sh reachBytes Wz es):∃l:List zq,l.length=ess.length∧ess.flatten=yR l∧∀x∈l,x.2.sc=true∧(∀g,BU g x)∧x.1.vec.length<20000000000000:=by
 induction ess with
 |nil=>exact⟨[],rfl,rfl,fun x hx=>by cases hx⟩
 | cons y ess ih =>
   obtain⟨e,v,rfl,hv,ok,hl⟩:=YA (h y (by simp))
   obtain⟨l,h1,h2,h3⟩:=ih fun es q=>h es (by simp [q])
   refine⟨(e,v)::l,by simp [h1],by rw[List.flatten_cons,h2];rfl,fun x hx=> ?_⟩
   rcases yu.1 hx with rfl|hx
   · exact⟨hv,ok,hl⟩
   · exact h3 x hx
theorem Uc {as:List AV} (h:Sh reachBytes Uz as):∃(v:AV) (l:List zq),as=[v]∧v.sc=true∧(∀g,zZ 9 g v l.length (yR l))∧(∀x∈l,x.2.sc=true∧(∀g,BU g x)∧x.1.vec.length<20000000000000)∧l.length<1353300000000:=by
 cases h with
 |aT=>exact⟨.aT,[],rfl,rfl,fun g=>⟨rfl,rfl,fun s q=>(by cases q)⟩,fun x hx=>(by cases hx),by simp⟩
 | aZ ess h hz hb =>
   obtain⟨l,h1,h2,h3⟩:=Ub h
   have hl:ess.flatten.length=ess.length* 9:=by rw[h2,BK,h1]
   refine⟨_,l,rfl,rfl,fun g=> ?_,h3, ?_⟩
   · rw[h2,←h1]
     refine⟨?_,by rw[BK],fun s q=>by cases q⟩
     simp only[aW,if_true,xW]
     rw[if_pos (by rw[BK];exact xQ _),ac8,yo (by rw[BK];exact xQ _)]
   · rw[h1];unfold reachBytes at hb;omega
theorem YB {as:List AV} (h:Sh reachBytes TB as):∃(v:AV) (l:List zq),as=[v]∧v.sc=true∧(∀g,zZ 9 g v l.length (yR l))∧(∀x∈l,x.2.sc=true∧(∀g,BU g x)∧x.1.vec.length<20000000000000)∧l.length<1353300000000:=by
 obtain⟨a1,r1,rfl,s1,h1⟩:=Bj (UL h)
 obtain rfl:=Pg h1
 obtain⟨v,l,rfl,q⟩:=Uc s1
 exact⟨v,l,rfl,q⟩
structure YK (n:Nat) (h:H) (w:AV) (h':H) (k:Nat) (cs:List AV):Prop where
 own:yS n h' w k cs
 ext:Ext h h'
 fl:h'.floor=h.floor
 nx:h.next≤h'.next
 ge:∀i,w.id?=some i→h.next≤i
theorem FB (h:H) (s:ByteArray) (hs:s.size<1125899906842624):aV AP.A 179 [.str s] h=some (.int .i64 ((AH s%8:Nat):Int),h):=by
 have k1:=Mw h.eV s hs
 have rm:bH .rem (.int .i64 (AH s:Int)) (.int .i64 8)=some (.int .i64 ((AH s%8:Nat):Int)):=by
  show(if(8:Int)=0 then none else some (AV.int .i64 ((AH s:Int).tmod 8)))=_
  rw[if_neg (by decide),Int.tmod_eq_emod_of_nonneg (by omega)];rfl
 generalize ((AH s%8:Nat):Int)=M at *
 refine wN (fn:=AP.f179) (h2:=h.eV) (e:=[(2,.int .i64 M)]) rfl rfl rfl ?_ rfl rfl
 simp (disch:=omega)only[go_sem,yH,AP.f179,k1,rm]
theorem A4 {v:AV} (h:v.sc=true):v.cells=[v]:=by cases v<;>first|rfl|cases h
theorem Oj {v:AV} {l:List zq} (h0:H) (rd:zZ 9 h0 v l.length (yR l)) (hv:∀x∈l,BU h0 x∧x.2.sc=true) (hm:Ai (l.map (·.1))=true) (A:Nat) (hA:h0.next≤A):∀(q p:List zq),l=p++q→∀(h:H) (C:Nat→AV),Ext h0 h→h0.next≤h.next→Bu h A C (BR (p.map (·.1)))→
 ∃e' h' C',Lp AP.A [4,19,20,21] AP.f177L1 [(4,.aH A 0),(19,v),(20,.int .i64 l.length),(21,.int .i64 p.length)] h=some (.exit 0,e',h')∧look e' 4=.aH A 0∧Bu h' A C' (BR (l.map (·.1)))∧Ext h0 h'∧h'.floor=h.floor∧h.next≤h'.next
 | [], p, hp, h, C, hx, hn, bu => by
   rw[acU]at hp;subst hp
   refine⟨[(4,.aH A 0),(19,v),(20,.int .i64 l.length),(21,.int .i64 l.length),(22,.bool false)],h,C,vW ?_,rfl,bu,hx,rfl,xQ _⟩
   simp (disch:=omega)only[go_sem,yH,AP.f177L1]
 | x :: q, p, hp, h, C, hx, hn, bu => by
   unfold Ai at hm
   have hm':=hm
   rw[xR]at hm
   obtain⟨m1,m2,m3⟩:=zG hm.1
   rw[acV]at m1
   have hl:l[p.length]?=some x:=by rw[hp];simp
   have hlen:l.length=p.length+(q.length+1):=by rw[hp];simp
   have may:BT x.1=true:=adp.1 hm.2 x.1 (by rw[hp];simp)
   have nsz:=A1 (m2 x.1 (by rw[hp];simp)).1
   obtain⟨ad,a1,a2⟩:=rd.SR
   have b1:=a1 p.length ⟨by omega,by omega⟩
   obtain⟨_,b2⟩:=a2 h hx p.length x hl
   obtain⟨ok,sc⟩:=hv x (by rw[hp];simp)
   obtain⟨E,hE⟩:∃E,E=yO x.1 x.2:=⟨_,rfl⟩
   have lE:E.length=9:=by rw[hE];rfl
   have cE:AV.aG E=true:=by rw[hE];exact Cu sc
   have rE:jg true 9 E 0=some (.agg E):=by rw[hE];rfl
   have E0:E[0]?=some (.str x.1.name):=by rw[hE];rfl
   obtain⟨g0,eg0⟩:∃g,g=h.alloc Z9:=⟨_,rfl⟩
   obtain⟨g1,eg1⟩:∃g,g=g0.set h.next E:=⟨_,rfl⟩
   have z0:g0.get h.next=some Z9:=by rw[eg0,yG rfl]
   have st:wP g0 h.next 0 9 E (some Z9)=some g1:=by rw[eg1];exact Aj (by rw[eg0];simp;exact bu.nx) lE rfl cE
   have z1:g1.get h.next=some E:=by rw[eg1,yM rfl,z0];rfl
   have low:∀i,i<h.next→g1.get i=h.get i:=fun i hi=>by rw[eg1,yE (by omega),eg0,yN (by omega)]
   have f1:g1.floor=h.floor:=by rw[eg1,eg0];simp
   have n1:g1.next=h.next+1:=by rw[eg1,eg0];simp
   have x1:Ext h0 g1:=fun i c q=>by rw[low i (by have:=h0.lt _ _ q;omega)];exact hx i c q
   have bu1:=bu.mono f1 (by omega) low
   have k1:=Q7 g1 (by have:=bu.nx;omega) x.1 x.2 sc (ok.mono x1)
   unfold Wx at k1
   rw[if_pos may,←hE]at k1
   have k1':aV AP.A 91 [.agg E] g1=some (.cf [.int .i64 (Uy x.1),.int .i64 0],g1):=k1
   have k2:=FB g1 x.1.name (by omega)
   obtain⟨b,hb⟩:∃b,b=AH x.1.name%8:=⟨_,rfl⟩
   have hb8:b<8:=by omega
   rw[←hb]at k2
   obtain⟨v',h',p1,p2,p3,p4,p5,p6,p7⟩:=bu1.push hb8 (by have:=LC (p.map (·.1)) b;rw[acV]at this;omega) (Uy x.1)
   have gC:(pL 8 C)[b]?=some (C b):=ig hb8
   have hc:=A4 p2
   have gA1:=bu1.get
   have st2:wP h' A b 1 [v'] (some (pL 8 C))=some (h'.set A (pL 8 (wS C b v'))):=by
    rw[xm (by rw[p4];exact bu1.fl) (by simp [hb8]) p2,wz hb8]
   have eb:(fun m=>if m=b then BR (p.map (·.1)) b++[Uy x.1]else BR (p.map (·.1)) m)=BR ((p++[x]).map (·.1)):=by
    funext m
    rw[adk,List.map_singleton,PL]
    have:KE x.1=b:=hb.symm
    rw[this]
    by_cases c:m=b
    · subst c;simp
    · rw[if_neg c,if_neg (by omega)]
   rw[eb]at p6
   obtain⟨e',h2,C2,r1,r2,r3,r4,r5,r6⟩:=Oj h0 rd hv hm' A hA q (p++[x]) (by rw[hp];simp) (h'.set A (pL 8 (wS C b v'))) _ (fun i c q=>by have:=h0.lt _ _ q;rw[yE (by omega),p7 i (by omega)];exact x1 i c q) (by simp;omega) p6
   have w1:((p++[x]).length:Int)=(p.length:Int)+1:=by simp
   rw[w1]at r1
   refine⟨e',h2,C2,vX ?_ r1,r2,r3,r4,by rw[r5];simp [p4,f1],by simp at r6;omega⟩
   rw[←hE]at b2
   have a0:h.alloc [.str ⟨#[]⟩,.bool false,.aT,.int .i64 0,.int .i64 0,.int .i64 0,.str ⟨#[]⟩,.int .i64 0,.int .i64 0]=g0:=eg0.symm
   have pI:(0:Int)≤(b:Int)∧(b:Int)<8:=⟨by omega,by omega⟩
   clear r1 r2 r3 r4 r5 r6 p6 eb hE hv rd a1 a2 x1 low bu bu1 k1 hx hm hm' m2 hb may hp eg0 eg1
   generalize Uy x.1=D at *
   generalize pL 8 (wS C b v')=T2 at *
   generalize pL 8 C=T1 at *
   simp (disch:=omega)only[go_sem,yH,AP.f177L1,b1,b2,a0,z0,lE,cE,st,z1,rE,E0,k1',k2,gA1,gC,p1,hc,p3,st2]
theorem N4 {f:Nat→Int} (i:Nat):(List.range (i+1)).map f=(List.range i).map f++[f i]:=by rw[List.range_succ,adk];rfl
theorem Lv (h0 : H) (C : Nat → AV) (ls : Nat → List Int) (hb : ∀ m, m < 8 → (ls m).all Hx = true ∧ (ls m).length < 1000000) : ∀ (n i : Nat), i + n = 8 → ∀ (h : H) (ov : AV), (∀ m, m < 8 → Rd h (C m) (ints (ls m))) → yS 1 h ov i (ints ((List.range i).map fun b => AK (ls b))) → h.floor ≤ h.next →
 (∀m,m<8→∀j,(C m).id?=some j→ov.id?≠some j∧j<h.next)→Ext h0 h→h0.next≤h.next→(∀j,ov.id?=some j→h0.next≤j)→
 ∃e' h' ov',Lp AP.A [10,42,43] AP.f177L0 [(10,ov),(42,.agg (pL 8 C)),(43,.int .i64 i)] h=some (.exit 2,e',h')∧look e' 10=ov'∧yS 1 h' ov' 8 (ints ((List.range 8).map fun b=>AK (ls b)))∧Ext h0 h'∧h'.floor=h.floor∧h.next≤h'.next∧∀j,ov'.id?=some j→h0.next≤j
 | 0, i, hi, h, ov, jg, o, hf, sep, hx, hn, hge => by
   obtain rfl:i=8:=by omega
   refine⟨[(10,ov),(42,.agg (pL 8 C)),(43,.int .i64 8),(44,.bool false)],h,ov,vW ?_,rfl,o,hx,rfl,xQ _,hge⟩
   generalize pL 8 C=T at *
   simp (disch:=omega)only[go_sem,yH,AP.f177L0]
 | n + 1, i, hi, h, ov, jg, o, hf, sep, hx, hn, hge => by
   obtain⟨ha,hl⟩:=hb i (by omega)
   have k1:=RQ h (C i) (ls i) (jg i (by omega)) (by omega)
   rw[RM ha]at k1
   have k1':aV AP.A 93 [C i] h=some (.cf [.int .i64 (AK (ls i)),.int .i64 0],h):=k1
   obtain⟨v',h',p1,p2,p3,p4,p5,p6⟩:=o.push hf (z:=8) (m:=1) (by omega) (by omega) [.int .i64 (AK (ls i))] rfl rfl (by simp [roomy];omega)
   have e:ints ((List.range i).map fun b=>AK (ls b))++[.int .i64 (AK (ls i))]=ints ((List.range (i+1)).map fun b=>AK (ls b)):=by rw[N4];simp [ints,I]
   rw[e]at p2
   have Ad:∀j,j<h.next→ov.id?≠some j→h'.get j=h.get j:=fun j a b=>p5 j b a
   have gC:oh false 8 1 (.agg (pL 8 C)) (.int .i64 i)=some (C i):=by
    show(dG (.int .i64 (i:Int)) 8).bind _=_
    rw[U4 ⟨by omega,by omega⟩,xM,Cx,ady]
    exact ig (by omega)
   obtain⟨e',h2,ov',r1,r2⟩:=Lv h0 C ls hb n (i+1) (by omega) h' v' (fun m hm=>(jg m hm).J1 fun j q=>Ad j (sep m hm j q).2 (sep m hm j q).1) p2 (by rw[p3];omega) (fun m hm j q=>by
    have:=(sep m hm j q).2
    rw[p6]
    exact⟨fun q2=>by have:=xF q2;omega,by omega⟩) (fun j c q=>by
     have:=h0.lt _ _ q
     rw[Ad j (by omega) (fun q2=>by have:=hge j q2;omega)];exact hx j c q) (by omega) (fun j q=>by rw[p6]at q;have:=xF q;omega)
   have w1:((i+1:Nat):Int)=(i:Int)+1:=by omega
   rw[w1]at r1
   refine⟨e',h2,ov',vX ?_ r1,r2.1,r2.2.1,r2.2.2.1,by rw[r2.2.2.2.1,p3],by have:=r2.2.2.2.2.1;omega,r2.2.2.2.2.2⟩
   have scC:(C i).sc=true:=by
    have:=jg i (by omega)
    cases hc:C i with
    |bot=>rw[hc]at this;cases this.1
    |agg _=>rw[hc]at this;cases this.1
    |cf _=>rw[hc]at this;cases this.1
    |_=>rfl
   clear r1 r2 Ad jg o sep hx p2 e hb
   generalize AK (ls i)=D at *
   generalize pL 8 C=T at *
   generalize C i=Ci at *
   simp (disch:=omega)only[go_sem,yH,AP.f177L0,gC,k1',p1,xN,yz]
theorem Q8 (l:List zu):AQ l=(List.range 8).map fun b=>AK (BR l b):=rfl
theorem NF (h : H) (hf : h.floor ≤ h.next) (v : AV) (l : List zq) (hvs : v.sc = true) (hn : l.length < 1125899906842624) (rd : zZ 9 h v l.length (yR l)) (hv : ∀ x ∈ l, BU h x ∧ x.2.sc = true) :
 ∃w h',aV AP.A 177 [.agg [v]] h=some (.cf [w,.int .i64 (if Ai (l.map (·.1))then 0 else 1600)],h')∧YK 1 h w h' (if Ai (l.map (·.1))then AQ (l.map (·.1))else []).length (ints (if Ai (l.map (·.1))then AQ (l.map (·.1))else [])):=by
 obtain⟨g1,eg1⟩:∃g,g=h.alloc [v]:=⟨_,rfl⟩
 have hx1:Ext h g1:=by rw[eg1];exact(Ext.refl h).alloc _
 have z1:g1.get h.next=some [v]:=by rw[eg1];exact yG rfl
 have f1:g1.floor=h.floor:=by rw[eg1];simp
 have n1:g1.next=h.next+1:=by rw[eg1];simp
 have Aq:=rd.mono fun i c q=>hx1 i c q
 have hv1:∀x∈l,BU g1 x∧x.2.sc=true:=fun x hx=>⟨(hv x hx).1.mono hx1,(hv x hx).2⟩
 have k1:=Rr g1 v l hvs hn Aq hv1
 have ln:=Aq.len
 cases hm:Ai (l.map (·.1))with
 | false =>
   rw[hm]at k1
   refine⟨.aT,g1, ?_,⟨yS.nil,hx1,f1,by omega,fun i q=>by cases q⟩⟩
   refine wo (fn:=AP.f177) (h2:=g1) (e:=[(2,.aT),(3,.int .i64 1600)]) (vs:=[.aT,.int .i64 1600]) rfl rfl rfl ?_ rfl
   clear rd Aq hv hv1 hx1
   simp (disch:=omega)only[go_sem,yH,AP.f177,hvs,←eg1,z1,Bi,k1]
 | true =>
   rw[hm]at k1
   have m1:=hm
   unfold Ai at m1
   rw[xR]at m1
   have m2:=(zG m1.1).1
   rw[acV]at m2
   obtain⟨g2,eg2⟩:∃g,g=g1.alloc (pL 8 fun _=>.aT):=⟨_,rfl⟩
   have hx2:Ext g1 g2:=by rw[eg2];exact(Ext.refl g1).alloc _
   have z2:g2.get h.next=some [v]:=hx2 _ _ z1
   have bu:=Bu.new (h:=g1) (by omega)
   rw[←eg2]at bu
   obtain⟨e',g3,C,r1,r2,r3,r4,r5,r6⟩:=Oj g1 Aq hv1 hm g1.next (xQ _) l [] rfl g2 (fun _=>.aT) hx2 (by rw[eg2];simp) bu
   have r1':Lp AP.A [4,19,20,21] AP.f177L1 [(4,.aH (h.next+1) 0),(19,v),(20,.int .i64 l.length),(21,.int .i64 0)] g2=some (.exit 0,e',g3):=by rw[←n1];exact r1
   rw[n1]at r2 r3
   have a2:g1.alloc [.aT,.aT,.aT,.aT,.aT,.aT,.aT,.aT]=g2:=eg2.symm
   have z3:=r3.get
   have rT:jg true 8 (pL 8 C) 0=some (.agg (pL 8 C)):=rfl
   have n2:g2.next=h.next+2:=by rw[eg2];simp [n1]
   have f2:g2.floor=h.floor:=by rw[eg2];simp [f1]
   obtain⟨e2,g4,ov,s1,s2,s3,s4,s5,s6,s7⟩:=Lv h C (BR (l.map (·.1))) (fun m _=>⟨Te _ _,by have:=LC (l.map (·.1)) m;rw[acV]at this;omega⟩) 8 0 rfl g3 .aT (fun m hm=>by
    have o:=(r3.own m hm).rd
    exact⟨by have:=o.1;rw[rY];exact this,o.2.2⟩) yS.nil r3.nx (fun m hm j q=>⟨(fun q2=>by cases q2),((r3.own m hm).lt q).2⟩) (fun i c q=>r4 i c (hx1 i c q)) (by omega) (fun j q=>by cases q)
   have s1':Lp AP.A [10,42,43] AP.f177L0 [(10,.aT),(42,.agg (pL 8 C)),(43,.int .i64 0)] g3=some (.exit 2,e2,g4):=s1
   refine⟨ov,g4, ?_,⟨by rw[if_pos rfl,BI,Q8];exact s3,s4,by rw[s5,r5,f2],by omega,s7⟩⟩
   rw[if_pos rfl]
   refine wo (fn:=AP.f177) (h2:=g4) (e:=[(2,ov),(3,.int .i64 0)]) (vs:=[ov,.int .i64 0]) rfl rfl rfl ?_ rfl
   clear rd Aq hv hv1 hx1 hx2 r1 s1 s3 s4 r3 bu eg2
   generalize pL 8 C=T at *
   simp (disch:=omega)only[go_sem,yH,AP.f177,hvs,←eg1,z1,n1,Bi,k1,a2,z2,ln,u9,r1',r2,z3,rT,s1',s2]
def Pc (l:List Int):AV:=if l.all Hx&&decide (l.length=8)then .cf [.int .i64 (AK l),.int .i64 0]else .cf [.int .i64 0,.int .i64 1600]
theorem Sa (h:H) (v:AV) (l:List Int) (rd:Rd h v (ints l)) (hl:l.length<1125899906842624):aV AP.A 181 [v] h=some (Pc l,h):=by
 have xf:Ext h h.eV:=fun i c q=>q
 have k1:=RQ h.eV v l (rd.mono fun i c q=>xf i c q) hl
 have r2:=(rd.mono fun i c q=>xf i c q:Rd h.eV v (ints l)).T8
 rw[rY]at r2
 have ln:=r2.len
 unfold Pc
 unfold Ms at k1
 cases ha:l.all Hx with
 | false =>
   rw[ha]at k1
   have k1':aV AP.A 93 [v] h.eV=some (.cf [.int .i64 0,.int .i64 1500],h.eV):=k1
   refine wN (fn:=AP.f181) (h2:=h.eV) (e:=[(2,.int .i64 0),(3,.int .i64 1600)]) rfl rfl rfl ?_ rfl rfl
   clear rd r2 k1
   simp (disch:=omega)only[go_sem,yH,AP.f181,k1',ln]
 | true =>
   rw[ha]at k1
   have k1':aV AP.A 93 [v] h.eV=some (.cf [.int .i64 (AK l),.int .i64 0],h.eV):=k1
   by_cases c:l.length=8
   · have c':(l.length:Int)=8:=by omega
     rw[dt c]
     refine wN (fn:=AP.f181) (h2:=h.eV) (e:=[(2,.int .i64 (AK l)),(3,.int .i64 0)]) rfl rfl rfl ?_ rfl rfl
     clear rd r2 k1
     generalize AK l=M at *
     simp (disch:=omega)only[go_sem,yH,AP.f181,k1',ln]
   · have c':¬(l.length:Int)=8:=by omega
     rw[df c]
     refine wN (fn:=AP.f181) (h2:=h.eV) (e:=[(2,.int .i64 0),(3,.int .i64 1600)]) rfl rfl rfl ?_ rfl rfl
     clear rd r2 k1
     generalize AK l=M at *
     simp (disch:=omega)only[go_sem,yH,AP.f181,k1',ln]
def YR (p:Option Int) (b:Int):Bool:=decide (0≤b)&&(decide (b<8)&&(match p with|none=>true|some q=>decide (q<b)))
theorem Tc (p:Option Int) (b:Int) (l:List Int):FA p (b::l)=(YR p b&&FA (some b) l):=by cases p<;>(rw[FA];rfl)
theorem Ok {v : AV} {l : List Int} (hl : l.length < 1125899906842624) (h : H) (rd : Rd h v (ints l)) : ∀ (q p : List Int), l = p ++ q →
 (∃e',Lp AP.A [0,5,6,7] AP.f184L0 [(0,v),(5,v),(6,.int .i64 l.length),(7,.int .i64 p.length)] h=some (.exit 0,e',h)∧FA p.getLast? q=true)∨
 (∃e',Lp AP.A [0,5,6,7] AP.f184L0 [(0,v),(5,v),(6,.int .i64 l.length),(7,.int .i64 p.length)] h=some (.ret,e',h)∧look e' 2=.bool false∧FA p.getLast? q=false)
 | [], p, hp => by
   rw[acU]at hp;subst hp
   refine .inl ⟨[(0,v),(5,v),(6,.int .i64 l.length),(7,.int .i64 l.length),(8,.bool false)],vW ?_,rfl⟩
   simp (disch:=omega)only[go_sem,yH,AP.f184L0]
 | x :: q, p, hp => by
   have hlen:l.length=p.length+(q.length+1):=by rw[hp];simp
   have hx:l[p.length]?=some x:=by rw[hp];simp
   obtain⟨ad,a1,a2⟩:=rd.zL
   have b1:=a1 p.length ⟨by omega,by omega⟩
   have b2:=a2 h (Ext.refl h) p.length x hx
   have ih:=Ok hl h rd q (p++[x]) (by rw[hp];simp)
   have w1:((p++[x]).length:Int)=(p.length:Int)+1:=by simp
   rw[w1,List.getLast?_concat]at ih
   rw[Tc]
   have step : aP (aV AP.A) bL AP.f184L0 (aC [(0, v), (5, v), (6, .int .i64 l.length), (7, .int .i64 p.length)] [0, 5, 6, 7]) h = if YR p.getLast? x then some (.normal, [(0, v), (5, v), (6, .int .i64 l.length), (7, .int .i64 ((p.length : Int) + 1))], h) else some (.ret, [(2, .bool false)], h) := by
    unfold YR
    cases hq:p.getLast? with
    | none =>
      have hp0:p=[]:=List.getLast?_eq_none_iff.1 hq
      have hp1:p.length=0:=by rw[hp0];rfl
      clear ih rd a1 a2 hp w1
      by_cases c1:0≤x
      · by_cases c2:x<8
        · simp only[dt c1,dt c2,Bool.and_self,if_true]
          simp (disch:=omega)only[go_sem,yH,AP.f184L0,b1,b2]
        · simp only[dt c1,df c2,adg,ac7,xN,yz]
          simp (disch:=omega)only[go_sem,yH,AP.f184L0,b1,b2]
      · simp only[df c1,adg,xN,yz]
        simp (disch:=omega)only[go_sem,yH,AP.f184L0,b1,b2]
    | some y =>
      obtain⟨p',rfl⟩:∃p',p=p'++[y]:=List.getLast?_eq_some_iff.1 hq
      have hpl:(p'++[y]).length=p'.length+1:=by simp
      have hy:l[p'.length]?=some y:=by rw[hp];simp
      have bj:=a1 p'.length ⟨by omega,by omega⟩
      have lj:=a2 h (Ext.refl h) p'.length y hy
      have n2:(((p'++[y]).length:Nat):Int)-1=(p'.length:Int):=by rw[hpl];omega
      have n3:0<(((p'++[y]).length:Nat):Int):=by rw[hpl];omega
      clear ih rd a1 a2 hp w1 hx hy hq
      generalize (p'++[y]).length=pl at *
      by_cases c1:0≤x
      · by_cases c2:x<8
        · by_cases c3:y<x
          · rw[dt c1,dt c2]
            simp only[dt c3,Bool.and_self,if_true]
            simp (disch:=omega)only[go_sem,yH,AP.f184L0,b1,b2,bj,lj,n2]
          · rw[dt c1,dt c2]
            simp only[df c3,ac7,xN,yz]
            simp (disch:=omega)only[go_sem,yH,AP.f184L0,b1,b2,bj,lj,n2]
        · simp only[dt c1,df c2,adg,ac7,xN,yz]
          simp (disch:=omega)only[go_sem,yH,AP.f184L0,b1,b2]
      · simp only[df c1,adg,xN,yz]
        simp (disch:=omega)only[go_sem,yH,AP.f184L0,b1,b2]
   by_cases hok:YR p.getLast? x=true
   · rw[if_pos hok]at step
     rw[hok,adn]
     rcases ih with ⟨e',r1,r2⟩|⟨e',r1,r2,r3⟩
     · exact .inl ⟨e',vX step r1,r2⟩
     · exact .inr ⟨e',vX step r1,r2,r3⟩
   · have hok':YR p.getLast? x=false:=by simpa using hok
     rw[if_neg hok]at step
     rw[hok',adg]
     exact .inr ⟨_,wD step,rfl,rfl⟩
theorem U8 (h:H) (v:AV) (l:List Int) (rd:Rd h v (ints l)) (hl:l.length<1125899906842624):aV AP.A 184 [v] h=some (.bool (Fz l),h):=by
 have xf:Ext h h.eV:=fun i c q=>q
 have rdf:Rd h.eV v (ints l):=rd.mono fun i c q=>xf i c q
 have r2:=rdf.T8
 rw[rY]at r2
 have ln:=r2.len
 unfold Fz
 rcases Ok hl h.eV rdf l [] rfl with ⟨e',r1,r3⟩|⟨e',r1,r3,r4⟩
 · have r1':Lp AP.A [0,5,6,7] AP.f184L0 [(0,v),(5,v),(6,.int .i64 l.length),(7,.int .i64 0)] h.eV=some (.exit 0,e',h.eV):=r1
   have r3':FA none l=true:=r3
   rw[r3']
   refine wN (fn:=AP.f184) (h2:=h.eV) (e:=[(2,.bool true)]) rfl rfl rfl ?_ rfl rfl
   clear rd rdf r2 r1 r3
   simp (disch:=omega)only[go_sem,yH,AP.f184,ln,u9,r1']
 · have r1':Lp AP.A [0,5,6,7] AP.f184L0 [(0,v),(5,v),(6,.int .i64 l.length),(7,.int .i64 0)] h.eV=some (.ret,e',h.eV):=r1
   have r4':FA none l=false:=r4
   rw[r4']
   refine wN (fn:=AP.f184) (h2:=h.eV) (e:=e') (vs:=[.bool false]) rfl rfl rfl ?_ (by simp only[AP.f184,dh,pB,r3];rfl) rfl
   clear rd rdf r2 r1 r4
   simp (disch:=omega)only[go_sem,yH,AP.f184,ln,u9,r1']
theorem ON {v : AV} {l : List Int} (hl : l.length < 1125899906842624) (h : H) (rd : Rd h v (ints l)) (y : Int) : ∀ (q p : List Int), l = p ++ q →
 (∃e',Lp AP.A [0,1,7,8] AP.f189L0 [(0,v),(1,.int .i64 y),(7,.int .i64 l.length),(8,.int .i64 p.length)] h=some (.exit 0,e',h)∧q.contains y=false)∨
 (∃e',Lp AP.A [0,1,7,8] AP.f189L0 [(0,v),(1,.int .i64 y),(7,.int .i64 l.length),(8,.int .i64 p.length)] h=some (.ret,e',h)∧(∃k:Nat,look e' 4=.int .i64 k)∧q.contains y=true)
 | [], p, hp => by
   rw[acU]at hp;subst hp
   refine .inl ⟨[(0,v),(1,.int .i64 y),(7,.int .i64 l.length),(8,.int .i64 l.length),(9,.bool false)],vW ?_,rfl⟩
   simp (disch:=omega)only[go_sem,yH,AP.f189L0]
 | x :: q, p, hp => by
   have hlen:l.length=p.length+(q.length+1):=by rw[hp];simp
   have hx:l[p.length]?=some x:=by rw[hp];simp
   obtain⟨ad,a1,a2⟩:=rd.zL
   have b1:=a1 p.length ⟨by omega,by omega⟩
   have b2:=a2 h (Ext.refl h) p.length x hx
   have ih:=ON hl h rd y q (p++[x]) (by rw[hp];simp)
   have w1:((p++[x]).length:Int)=(p.length:Int)+1:=by simp
   rw[w1]at ih
   by_cases c:y=x
   · refine .inr ⟨[(4,.int .i64 p.length)],wD ?_,⟨p.length,rfl⟩,by simp [c]⟩
     clear ih rd a1 a2 hp w1
     simp (disch:=omega)only[go_sem,yH,AP.f189L0,b1,b2,c]
   · have step:aP (aV AP.A) bL AP.f189L0 (aC [(0,v),(1,.int .i64 y),(7,.int .i64 l.length),(8,.int .i64 p.length)] [0,1,7,8]) h=some (.normal,[(0,v),(1,.int .i64 y),(7,.int .i64 l.length),(8,.int .i64 ((p.length:Int)+1))],h):=by
      clear ih rd a1 a2 hp w1
      simp (disch:=omega)only[go_sem,yH,AP.f189L0,b1,b2]
     have ec:(x::q).contains y=q.contains y:=by simp [c]
     rw[ec]
     rcases ih with ⟨e',r1,r2⟩|⟨e',r1,r2,r3⟩
     · exact .inl ⟨e',vX step r1,r2⟩
     · exact .inr ⟨e',vX step r1,r2,r3⟩
theorem P2 (h:H) (v:AV) (l:List Int) (y:Int) (rd:Rd h v (ints l)) (hl:l.length<1125899906842624):aV AP.A 185 [v,.int .i64 y] h=some (.bool (l.contains y),h):=by
 have xf:Ext h h.eV:=fun i c q=>q
 have rdf:Rd h.eV.eV v (ints l):=rd.mono fun i c q=>xf i c q
 have r2:=rdf.T8
 rw[rY]at r2
 have ln:=r2.len
 have k1:∃k:Int,aV AP.A 189 [v,.int .i64 y] h.eV=some (.int .i64 k,h.eV)∧(0≤k↔l.contains y=true):=by
  rcases ON hl h.eV.eV rdf y l [] rfl with ⟨e',r1,r3⟩|⟨e',r1,⟨k,r3⟩,r4⟩
  · have r1':Lp AP.A [0,1,7,8] AP.f189L0 [(0,v),(1,.int .i64 y),(7,.int .i64 l.length),(8,.int .i64 0)] h.eV.eV=some (.exit 0,e',h.eV.eV):=r1
    refine⟨-1,wN (fn:=AP.f189) (h2:=h.eV.eV) (e:=[(4,.int .i64 (-1))]) rfl rfl rfl ?_ rfl rfl,by rw[r3];simp⟩
    clear rd rdf r2 r1 r3
    simp (disch:=omega)only[go_sem,yH,AP.f189,ln,u9,r1']
  · have r1':Lp AP.A [0,1,7,8] AP.f189L0 [(0,v),(1,.int .i64 y),(7,.int .i64 l.length),(8,.int .i64 0)] h.eV.eV=some (.ret,e',h.eV.eV):=r1
    refine⟨k,wN (fn:=AP.f189) (h2:=h.eV.eV) (e:=e') (vs:=[.int .i64 k]) rfl rfl rfl ?_ (by simp only[AP.f189,dh,pB,r3];rfl) rfl,by rw[r4];simp⟩
    clear rd rdf r2 r1 r4 r3
    simp (disch:=omega)only[go_sem,yH,AP.f189,ln,u9,r1']
 obtain⟨k,k1,k2⟩:=k1
 refine wN (fn:=AP.f185) (h2:=h.eV) (e:=[(4,.bool (l.contains y))]) rfl rfl rfl ?_ rfl rfl
 clear rd rdf r2
 cases hc:l.contains y with
 | true =>
   have:=k2.2 hc
   clear k2
   simp (disch:=omega)only[go_sem,yH,AP.f185,k1]
 | false =>
   have:¬0≤k:=fun q=>by rw[hc]at k2;cases k2.1 q
   clear k2
   simp (disch:=omega)only[go_sem,yH,AP.f185,k1]
abbrev EI:=Bri×AV
def brC (x:EI):List AV:=[.str x.1.1,x.2]
def DP (l:List EI):List AV:=l.flatMap brC
theorem Td (x:EI):(brC x).length=2:=rfl
theorem Nv (l:List EI) (x:EI):DP (l++[x])=DP l++brC x:=by simp [DP]
structure Uo (h0 h:H) (ov:AV) (x:EI):Prop where
 ex:∃j,x.2=.aI j 0 4 1∧h.get j=some (ints x.1.2)∧h0.next≤j∧ov.id?≠some j∧h.floor≤j
 l4:x.1.2.length=4
theorem Uo.mono {h0 h g:H} {ov ov':AV} {x:EI} (b:Uo h0 h ov x) (hf:g.floor=h.floor) (hg:∀j,j<h.next→ov.id?≠some j→g.get j=h.get j) (ho:∀j,j<h.next→ov.id?≠some j→ov'.id?≠some j):Uo h0 g ov' x:=by
 obtain⟨j,e1,e2,e3,e4,e5⟩:=b.ex
 have:=h.lt _ _ e2
 exact⟨⟨j,e1,by rw[hg j this e4];exact e2,e3,ho j this e4,by rw[hf];exact e5⟩,b.l4⟩
theorem Ly (l:List zu) (e:zu) (bs:List Int):CI (l++[e]) bs=if bs.contains ((KE e:Nat):Int)then CI l bs++[(e.name,e.vec)]else CI l bs:=by
 unfold CI
 rw[List.filter_append,adk]
 by_cases c:bs.contains ((KE e:Nat):Int)=true
 · rw[if_pos c,List.filter_cons,if_pos c];rfl
 · rw[if_neg c,List.filter_cons,if_neg c];simp
theorem Nu (l:List zu) (bs:List Int):(CI l bs).length≤l.length:=by unfold CI;rw[acV];exact List.length_filter_le _ _
theorem KG {v w:AV} {l:List zq} {bs:List Int} (h0:H) (rd:zZ 9 h0 v l.length (yR l)) (hv:∀x∈l,BU h0 x∧x.2.sc=true) (hm:Ai (l.map (·.1))=true) (rdb:Rd h0 w (ints bs)) (hbs:bs.length<1125899906842624):∀(q p:List zq),l=p++q→∀(h:H) (ov:AV) (acc:List EI),Ext h0 h→h0.next≤h.next→h.floor≤h.next→
 yS 2 h ov acc.length (DP acc)→acc.map (·.1)=CI (p.map (·.1)) bs→(∀x∈acc,Uo h0 h ov x)→(∀j,ov.id?=some j→h0.next≤j)→
 ∃e' h' ov' acc',Lp AP.A [1,6,18,19,20] AP.f178L0 [(1,w),(6,ov),(18,v),(19,.int .i64 l.length),(20,.int .i64 p.length)] h=some (.exit 0,e',h')∧look e' 6=ov'∧yS 2 h' ov' acc'.length (DP acc')∧acc'.map (·.1)=CI (l.map (·.1)) bs∧(∀x∈acc',Uo h0 h' ov' x)∧Ext h0 h'∧h'.floor=h.floor∧h.next≤h'.next∧∀j,ov'.id?=some j→h0.next≤j
 | [], p, hp, h, ov, acc, hx, hn, hf, o, ha, hb, hge => by
   rw[acU]at hp;subst hp
   refine⟨[(1,w),(6,ov),(18,v),(19,.int .i64 l.length),(20,.int .i64 l.length),(21,.bool false)],h,ov,acc,vW ?_,rfl,o,ha,hb,hx,rfl,xQ _,hge⟩
   simp (disch:=omega)only[go_sem,yH,AP.f178L0]
 | x :: q, p, hp, h, ov, acc, hx, hn, hf, o, ha, hb, hge => by
   unfold Ai at hm
   have hm':=hm
   rw[xR]at hm
   obtain⟨m1,m2,m3⟩:=zG hm.1
   rw[acV]at m1
   have hl:l[p.length]?=some x:=by rw[hp];simp
   have hlen:l.length=p.length+(q.length+1):=by rw[hp];simp
   have may:BT x.1=true:=adp.1 hm.2 x.1 (by rw[hp];simp)
   have nsz:=A1 (m2 x.1 (by rw[hp];simp)).1
   have v4:x.1.vec.length=4:=(Ac (m2 x.1 (by rw[hp];simp)).2.1).1
   obtain⟨ad,a1,a2⟩:=rd.SR
   have b1:=a1 p.length ⟨by omega,by omega⟩
   obtain⟨_,b2⟩:=a2 h hx p.length x hl
   obtain⟨ok,sc⟩:=hv x (by rw[hp];simp)
   obtain⟨E,hE⟩:∃E,E=yO x.1 x.2:=⟨_,rfl⟩
   have lE:E.length=9:=by rw[hE];rfl
   have cE:AV.aG E=true:=by rw[hE];exact Cu sc
   have E0:E[0]?=some (.str x.1.name):=by rw[hE];rfl
   have E2:E[2]?=some x.2:=by rw[hE];rfl
   obtain⟨g0,eg0⟩:∃g,g=h.alloc Z9:=⟨_,rfl⟩
   obtain⟨g1,eg1⟩:∃g,g=g0.set h.next E:=⟨_,rfl⟩
   have z0:g0.get h.next=some Z9:=by rw[eg0,yG rfl]
   have st:wP g0 h.next 0 9 E (some Z9)=some g1:=by rw[eg1];exact Aj (by rw[eg0];simp;exact hf) lE rfl cE
   have z1:g1.get h.next=some E:=by rw[eg1,yM rfl,z0];rfl
   have low:∀i,i<h.next→g1.get i=h.get i:=fun i hi=>by rw[eg1,yE (by omega),eg0,yN (by omega)]
   have f1:g1.floor=h.floor:=by rw[eg1,eg0];simp
   have n1:g1.next=h.next+1:=by rw[eg1,eg0];simp
   have x1:Ext h0 g1:=fun i c q=>by rw[low i (by have:=h0.lt _ _ q;omega)];exact hx i c q
   have k2:=FB g1 x.1.name (by omega)
   have k3:=P2 g1 w bs ((KE x.1:Nat):Int) (rdb.mono fun i c q=>x1 i c q) hbs
   have a0:h.alloc [.str ⟨#[]⟩,.bool false,.aT,.int .i64 0,.int .i64 0,.int .i64 0,.str ⟨#[]⟩,.int .i64 0,.int .i64 0]=g0:=eg0.symm
   have w1:((p++[x]).length:Int)=(p.length:Int)+1:=by simp
   have k2':aV AP.A 179 [.str x.1.name] g1=some (.int .i64 ((KE x.1:Nat):Int),g1):=k2
   have al:=adu List.length ha
   rw[acV]at al
   have bl:=Nu (p.map (·.1)) bs
   rw[acV]at bl
   have bs':=Ly (p.map (·.1)) x.1 bs
   cases hc:bs.contains ((KE x.1:Nat):Int)with
   | false =>
     rw[hc]at k3
     rw[hc,if_neg (by decide)]at bs'
     obtain⟨e',h2,ov',acc',r1,r2⟩:=KG h0 rd hv hm' rdb hbs q (p++[x]) (by rw[hp];simp) g1 ov acc x1 (by omega) (by omega) (o.mono f1 fun i q=>low i (o.lt q).2) (by rw[adk,List.map_singleton,bs'];exact ha) (fun y hy=>(hb y hy).mono f1 (fun j q1 _=>low j q1) (fun _ _ q=>q)) hge
     rw[w1]at r1
     refine⟨e',h2,ov',acc',vX ?_ r1,r2.1,r2.2.1,r2.2.2.1,r2.2.2.2.1,r2.2.2.2.2.1,by rw[r2.2.2.2.2.2.1,f1],by have:=r2.2.2.2.2.2.2.1;omega,r2.2.2.2.2.2.2.2⟩
     rw[←hE]at b2
     clear r1 r2 hE hv rd a1 a2 x1 low hx hm hm' m2 may hp eg0 eg1 o hb ha rdb bs' k2 al bl
     generalize ((KE x.1:Nat):Int)=B at *
     simp (disch:=omega)only[go_sem,yH,AP.f178L0,b1,b2,a0,z0,lE,cE,st,z1,E0,E2,k2',k3]
   | true =>
     rw[hc]at k3
     rw[hc,if_pos rfl]at bs'
     have k4:=Th g1 x.2 x.1.vec (ok.mono x1).vec (by omega) (by omega) (by omega)
     rw[v4]at k4
     obtain⟨g2,eg2⟩:∃g,g=((g1.alloc []).del g1.next).alloc (ints x.1.vec):=⟨_,rfl⟩
     rw[←eg2]at k4
     have low2:∀i,i<g1.next→g2.get i=g1.get i:=fun i hi=>by rw[eg2,yN (by simp;omega),Dd (by omega),yN (by omega)]
     have f2:g2.floor=h.floor:=by rw[eg2];simp [f1]
     have n2:g2.next=h.next+3:=by rw[eg2];simp [n1]
     have z2:g2.get h.next=some E:=by rw[low2 _ (by omega)];exact z1
     have zv:g2.get (g1.next+1)=some (ints x.1.vec):=by rw[eg2,yG (by simp)]
     have lo2:∀i,i<h.next→g2.get i=h.get i:=fun i hi=>by rw[low2 i (by omega),low i hi]
     have x2:Ext h0 g2:=fun i c q=>by rw[lo2 i (by have:=h0.lt _ _ q;omega)];exact hx i c q
     have o2:yS 2 g2 ov acc.length (DP acc):=o.mono f2 fun i q=>lo2 i (o.lt q).2
     obtain⟨v',h',p1,p2,p3,p4,p5,p6⟩:=o2.push (by omega) (z:=40) (m:=1) (by omega) (by omega) [.str x.1.name,.aI (g1.next+1) 0 4 1] rfl rfl (by simp [roomy];omega)
     have ea:DP acc++[.str x.1.name,.aI (g1.next+1) 0 4 1]=DP (acc++[((x.1.name,x.1.vec),.aI (g1.next+1) 0 4 1)]):=by rw[Nv];rfl
     rw[ea]at p2
     have ovl:∀j,ov.id?=some j→j<h.next:=fun j q=>(o.lt q).2
     obtain⟨e',h2,ov',acc',r1,r2⟩:=KG h0 rd hv hm' rdb hbs q (p++[x]) (by rw[hp];simp) h' v' (acc++[((x.1.name,x.1.vec),.aI (g1.next+1) 0 4 1)]) (fun i c q=>by
      have:=h0.lt _ _ q
      rw[p5 i (fun q2=>by have:=hge i q2;omega) (by omega)];exact x2 i c q) (by omega) (by omega) (by rw[yy,List.length_singleton];exact p2) (by rw[adk,adk,List.map_singleton,List.map_singleton,bs',ha]) (fun y hy=>by
      rcases ac9.1 hy with hy|hy
      · refine(hb y hy).mono (by rw[p3,f2]) (fun j q1 q2=>by rw[p5 j q2 (by omega),lo2 j q1]) (fun j q1 _=>by rw[p6];intro q2;have:=xF q2;omega)
      · obtain rfl:y=_:=List.mem_singleton.1 hy
        refine⟨⟨g1.next+1,rfl, ?_,by omega,by rw[p6];intro q2;have:=xF q2;omega,by rw[p3,f2];omega⟩,v4⟩
        rw[p5 _ (fun q2=>by have:=ovl _ q2;omega) (by omega)]
        exact zv) (fun j q=>by rw[p6]at q;have:=xF q;omega)
     rw[w1]at r1
     refine⟨e',h2,ov',acc',vX ?_ r1,r2.1,r2.2.1,r2.2.2.1,r2.2.2.2.1,r2.2.2.2.2.1,by rw[r2.2.2.2.2.2.1,p3,f2],by have:=r2.2.2.2.2.2.2.1;omega,r2.2.2.2.2.2.2.2⟩
     rw[←hE]at b2
     clear r1 r2 hE hv rd a1 a2 x1 low hx hm hm' m2 may hp eg0 eg1 o o2 hb ha rdb bs' k2 al bl lo2 low2 x2 p2 ea zv eg2 ovl
     generalize ((KE x.1:Nat):Int)=B at *
     simp (disch:=omega)only[go_sem,yH,AP.f178L0,b1,b2,a0,z0,lE,cE,st,z1,z2,E0,E2,k2',k3,k4,p1]
theorem Lz (h : H) (hf : h.floor ≤ h.next) (v w : AV) (l : List zq) (bs : List Int) (hvs : v.sc = true) (hn : l.length < 1125899906842624) (rd : zZ 9 h v l.length (yR l)) (hv : ∀ x ∈ l, BU h x ∧ x.2.sc = true) (rdb : Rd h w (ints bs)) (hbs : bs.length < 1125899906842624) :
 ∃ov h' acc,aV AP.A 178 [.agg [v],w] h=some (.cf [ov,.int .i64 (if Ai (l.map (·.1))&&Fz bs then 0 else 1600)],h')∧YK 2 h ov h' acc.length (DP acc)∧acc.map (·.1)=(if Ai (l.map (·.1))&&Fz bs then CI (l.map (·.1)) bs else [])∧∀x∈acc,Uo h h' ov x:=by
 obtain⟨g1,eg1⟩:∃g,g=h.alloc [v]:=⟨_,rfl⟩
 have hx1:Ext h g1:=by rw[eg1];exact(Ext.refl h).alloc _
 have z1:g1.get h.next=some [v]:=by rw[eg1];exact yG rfl
 have f1:g1.floor=h.floor:=by rw[eg1];simp
 have n1:g1.next=h.next+1:=by rw[eg1];simp
 have Aq:=rd.mono fun i c q=>hx1 i c q
 have hv1:∀x∈l,BU g1 x∧x.2.sc=true:=fun x hx=>⟨(hv x hx).1.mono hx1,(hv x hx).2⟩
 have rdb1:Rd g1 w (ints bs):=rdb.mono fun i c q=>hx1 i c q
 have k1:=Rr g1 v l hvs hn Aq hv1
 have k2:=U8 g1 w bs rdb1 hbs
 have ln:=Aq.len
 cases hm:Ai (l.map (·.1))with
 | false =>
   rw[hm]at k1
   refine⟨.aT,g1,[], ?_,⟨yS.nil,hx1,f1,by omega,fun i q=>by cases q⟩,rfl,fun x hx=>by cases hx⟩
   refine wo (fn:=AP.f178) (h2:=g1) (e:=[(4,.aT),(5,.int .i64 1600)]) (vs:=[.aT,.int .i64 1600]) rfl rfl rfl ?_ rfl
   clear rd Aq hv hv1 hx1 rdb rdb1
   simp (disch:=omega)only[go_sem,yH,AP.f178,hvs,←eg1,z1,Bi,k1,k2]
 | true =>
   rw[hm]at k1
   cases hb:Fz bs with
   | false =>
     rw[hb]at k2
     refine⟨.aT,g1,[], ?_,⟨yS.nil,hx1,f1,by omega,fun i q=>by cases q⟩,rfl,fun x hx=>by cases hx⟩
     refine wo (fn:=AP.f178) (h2:=g1) (e:=[(4,.aT),(5,.int .i64 1600)]) (vs:=[.aT,.int .i64 1600]) rfl rfl rfl ?_ rfl
     clear rd Aq hv hv1 hx1 rdb rdb1
     simp (disch:=omega)only[go_sem,yH,AP.f178,hvs,←eg1,z1,Bi,k1,k2]
   | true =>
     rw[hb]at k2
     obtain⟨e',g2,ov,acc,r1,r2,r3,r4,r5,r6,r7,r8,r9⟩:=KG g1 Aq hv1 hm rdb1 hbs l [] rfl g1 .aT [] (Ext.refl _) (xQ _) (by omega) yS.nil rfl (fun x hx=>by cases hx) (fun j q=>by cases q)
     have r1':Lp AP.A [1,6,18,19,20] AP.f178L0 [(1,w),(6,.aT),(18,v),(19,.int .i64 l.length),(20,.int .i64 0)] g1=some (.exit 0,e',g2):=r1
     refine⟨ov,g2,acc, ?_,⟨r3,fun i c q=>r6 i c (hx1 i c q),by rw[r7,f1],by omega,fun j q=>by have:=r9 j q;omega⟩,r4,fun x hx=> ?_⟩
     · refine wo (fn:=AP.f178) (h2:=g2) (e:=[(4,ov),(5,.int .i64 0)]) (vs:=[ov,.int .i64 0]) rfl rfl rfl ?_ rfl
       clear rd Aq hv hv1 hx1 rdb rdb1 r1 r3 r4 r5 r6
       simp (disch:=omega)only[go_sem,yH,AP.f178,hvs,←eg1,z1,Bi,k1,k2,ln,u9,r1',r2]
     · have b:=r5 x hx
       obtain⟨j,q1,q2,q3,q4,q5⟩:=b.ex
       exact⟨⟨j,q1,q2,by omega,q4,q5⟩,b.l4⟩
theorem Ra (h:H) (hf:h.floor≤h.next) (v:AV) (l:List zq) (hvs:v.sc=true) (hn:l.length<1125899906842624) (rd:zZ 9 h v l.length (yR l)) (hv:∀x∈l,BU h x∧x.2.sc=true) (hm:Ai (l.map (·.1))=true):
 ∃i h',aV AP.A 177 [.agg [v]] h=some (.cf [.aI i 0 8 1,.int .i64 0],h')∧h'.get i=some (ints (AQ (l.map (·.1))))∧Ext h h'∧h'.floor=h.floor∧h.next≤h'.next∧h.next≤i:=by
 obtain⟨w,h',k,g⟩:=NF h hf v l hvs hn rd hv
 simp only[hm,if_true]at k g
 rw[BI]at g
 obtain⟨_,⟨_,q⟩|⟨i,q1,q2,_⟩⟩:=g.own
 · cases q
 · subst q1;exact⟨i,h',k,q2,g.ext,g.fl,g.nx,g.ge i rfl⟩
theorem Q0 (h:H) (hf:h.floor≤h.next) (v w:AV) (l:List zq) (bs:List Int) (hvs:v.sc=true) (hn:l.length<1125899906842624) (rd:zZ 9 h v l.length (yR l)) (hv:∀x∈l,BU h x∧x.2.sc=true) (rdb:Rd h w (ints bs)) (hbs:bs.length<1125899906842624) (hm:(Ai (l.map (·.1))&&Fz bs)=true):
 ∃ov h' acc,aV AP.A 178 [.agg [v],w] h=some (.cf [ov,.int .i64 0],h')∧YK 2 h ov h' acc.length (DP acc)∧acc.map (·.1)=CI (l.map (·.1)) bs∧∀x∈acc,Uo h h' ov x:=by
 have:=Lz h hf v w l bs hvs hn rd hv rdb hbs
 simpa only[hm,if_true]using this
theorem QZ (h:H) (hf:h.floor≤h.next) (v w:AV) (l:List zq) (bs:List Int) (hvs:v.sc=true) (hn:l.length<1125899906842624) (rd:zZ 9 h v l.length (yR l)) (hv:∀x∈l,BU h x∧x.2.sc=true) (rdb:Rd h w (ints bs)) (hbs:bs.length<1125899906842624) (hm:(Ai (l.map (·.1))&&Fz bs)=false):
 ∃h',aV AP.A 178 [.agg [v],w] h=some (.cf [.aT,.int .i64 1600],h')∧Ext h h'∧h'.floor=h.floor∧h.next≤h'.next:=by
 obtain⟨ov,h',acc,k,g,q,_⟩:=Lz h hf v w l bs hvs hn rd hv rdb hbs
 simp only[hm,xN,yz]at k q
 have:acc=[]:=by simpa using q
 subst this
 obtain⟨_,⟨q,_⟩|⟨i,_,_,_,q⟩⟩:=g.own
 · subst q;exact⟨h',k,g.ext,g.fl,g.nx⟩
 · simp at q
theorem Nw {A:bw} {f g:Nat} (e:A f=A g) (args:List AV) (h:H):∀n,aX A n f args h=aX A n g args h
 |0=>rfl
 |n+1=>by simp only[aX,e]
theorem Ny {A:bw} {f g:Nat} (e:A f=A g) (args:List AV) (h:H) {r} (k:aV A g args h=some r):aV A f args h=some r:=by
 obtain⟨n,hn⟩:=fO k
 exact oM (n:=n) (by rw[Nw e];exact hn)
theorem N7 (h:H) (name text:ByteArray) (node:Nat) (y0:Int) (hn:node<4) (ht:text.size<1125899906842624):
 aV AP.A 180 [.str name,.int .i64 node,.int .i64 y0,.str text] h=some (.agg (yO (Fh name node y0 text) (El ([0,0,0,0].set node y0))),h):=
 Ny (show AP.A 180=AP.A 99 from rfl) _ _ (Ug h name text node y0 hn ht)
structure COk (h0 h:H) (ov:AV) (x:zq):Prop where
 ok:BU h x
 sc:x.2.sc=true
 id:∀i,x.2.id?=some i→h0.next≤i∧i<h.next∧ov.id?≠some i∧h.floor≤i
 wr:∃i cs,x.2=.aI i 0 x.1.vec.length 1∧h.get i=some cs∧(0<x.1.vec.length→cs=ints x.1.vec)
theorem COk.mono {h0 h g:H} {ov ov':AV} {x:zq} (b:COk h0 h ov x) (hf:g.floor=h.floor) (hn:h.next≤g.next) (hg:∀j c,ov.id?≠some j→h.get j=some c→g.get j=some c) (ho:∀j,j<h.next→ov.id?≠some j→ov'.id?≠some j):COk h0 g ov' x:=by
 obtain⟨i,cs,e1,e2,e3⟩:=b.wr
 have q:=b.id i (by rw[e1];rfl)
 have e4:=hg i cs q.2.2.1 e2
 exact⟨b.ok.J1 fun k q'=>(by rw[e1]at q';obtain rfl:=xF q';rw[e4,e2]),b.sc,fun i q=>⟨(b.id i q).1,by have:=(b.id i q).2.1;omega,ho i (b.id i q).2.1 (b.id i q).2.2.1,by rw[hf];exact(b.id i q).2.2.2⟩,⟨i,cs,e1,e4,e3⟩⟩
structure QL (h:H) (v:AV) (l:List EI):Prop where
 rd:zZ 2 h v l.length (DP l)
 vec:∀x∈l,Rd h x.2 (ints x.1.2)∧x.1.2.length<1125899906842624
theorem QL.mono {h g:H} {v:AV} {l:List EI} (r:QL h v l) (e:Ext h g):QL g v l:=⟨r.rd.mono fun i c q=>e i c q,fun x hx=>⟨(r.vec x hx).1.mono fun i c q=>e i c q,(r.vec x hx).2⟩⟩
theorem QL.at_ {h:H} {v:AV} {l:List EI} (r:QL h v l):∃ad:Int→Nat→AV,(∀i:Int,0≤i∧i<l.length→ik 2 v (.int .i64 i)=some (ad i 0)∧gH 0 (ad i 0)=some (ad i 0)∧gH 1 (ad i 0)=some (ad i 1))∧
 (∀(i:Nat) (x:EI),l[i]?=some x→cq false 1 (ad i 0) h=some (.str x.1.1)∧cq false 1 (ad i 1) h=some x.2):=by
 obtain⟨ad,a1,a2,a4,a3⟩:=r.rd.at_
 refine⟨ad,fun i hi=>⟨a1 i hi,a2 i 0 0 hi,a2 i 0 1 hi⟩,fun i x hx=> ?_⟩
 have hi:i<l.length:=(xL.1 hx).1
 have g:=fun k (hk:k<2)=>GD (f:=k) Td hx hk
 refine⟨(a3 h fun _ _ q=>q).1 i 0 _ ⟨by omega,by omega⟩ ?_,(a3 h fun _ _ q=>q).1 i 1 _ ⟨by omega,by omega⟩ ?_⟩
 · rw[Cx];exact g 0 (by omega)
 · rw[Cx];exact g 1 (by omega)
theorem Pf {v w : AV} {a b : List EI} (hab : a.length = b.length) (hl : a.length < 1000000) (h : H) (ra : QL h v a) (rb : QL h w b) : ∀ (q r p p' : List EI), a = p ++ q → b = p' ++ r → p.length = p'.length →
 (∃e',Lp AP.A [0,1,5] AP.f182L0 [(0,v),(1,w),(5,.int .i64 p.length)] h=some (.exit 0,e',h)∧q.map (·.1)=r.map (·.1))∨
 (∃e',Lp AP.A [0,1,5] AP.f182L0 [(0,v),(1,w),(5,.int .i64 p.length)] h=some (.ret,e',h)∧look e' 4=.bool false∧q.map (·.1)≠r.map (·.1))
 | [], r, p, p', ha, hb, hp => by
   rw[acU]at ha;subst ha
   have hr:r=[]:=by
    have:b.length=p'.length+r.length:=by rw[hb];simp
    exact ada (by omega)
   have ln:=ra.rd.len
   refine .inl ⟨[(0,v),(1,w),(5,.int .i64 a.length),(14,.bool false)],vW ?_,by rw[hr]⟩
   simp (disch:=omega)only[go_sem,yH,AP.f182L0,ln]
 | x :: q, [], p, p', ha, hb, hp => by
   exfalso
   have h1:a.length=p.length+(q.length+1):=by rw[ha];simp
   have h2:b.length=p'.length:=by rw[hb];simp
   omega
 | x :: q, y :: r, p, p', ha, hb, hp => by
   have h1:a.length=p.length+(q.length+1):=by rw[ha];simp
   have hx:a[p.length]?=some x:=by rw[ha];simp
   have hy:b[p.length]?=some y:=by rw[hb,hp];simp
   have ln:=ra.rd.len
   obtain⟨ad,a1,a2⟩:=ra.at_
   obtain⟨bd,b1,b2⟩:=rb.at_
   obtain⟨a3,a4,a5⟩:=a1 p.length ⟨by omega,by omega⟩
   obtain⟨b3,b4,b5⟩:=b1 p.length ⟨by omega,by omega⟩
   obtain⟨a6,a7⟩:=a2 p.length x hx
   obtain⟨b6,b7⟩:=b2 p.length y hy
   obtain⟨vx,lx⟩:=ra.vec x (by rw[ha];simp)
   obtain⟨vy,ly⟩:=rb.vec y (by rw[hb];simp)
   have k1:=Pd h x.2 y.2 x.1.2 y.1.2 vx vy lx
   have en:bH .neq (.str x.1.1) (.str y.1.1)=some (.bool (!(x.1.1.data.toList==y.1.1.data.toList))):=K8 _ _
   have ih:=Pf hab hl h ra rb q r (p++[x]) (p'++[y]) (by rw[ha];simp) (by rw[hb];simp) (by simp [hp])
   have w1:((p++[x]).length:Int)=(p.length:Int)+1:=by simp
   rw[w1]at ih
   obtain⟨B1,hB1⟩:∃B,B=(x.1.1.data.toList==y.1.1.data.toList):=⟨_,rfl⟩
   rw[←hB1]at en
   have key:x.1=y.1↔B1=true∧x.1.2=y.1.2:=by
    constructor
    · intro e;rw[hB1,e];simp
    · rintro ⟨e1,e2⟩
      have e3:x.1.1=y.1.1:=by
       rw[hB1,beq_iff_eq]at e1
       have e4:x.1.1.data=y.1.1.data:=Array.ext' e1
       cases h1:x.1.1;cases h2:y.1.1;rw[h1,h2]at e4;simp_all
      exact Prod.ext e3 e2
   by_cases hk:x.1=y.1
   · obtain⟨k2,k3⟩:=key.1 hk
     rw[k2]at en
     rw[dt k3]at k1
     have step:aP (aV AP.A) bL AP.f182L0 (aC [(0,v),(1,w),(5,.int .i64 p.length)] [0,1,5]) h=some (.normal,[(0,v),(1,w),(5,.int .i64 ((p.length:Int)+1))],h):=by
      clear ih ra rb a1 a2 b1 b2 vx vy ha hb key
      simp (disch:=omega)only[go_sem,yH,AP.f182L0,ln,a3,a4,a5,a6,a7,b3,b4,b5,b6,b7,en,k1]
     rw[acW,acW]
     rcases ih with ⟨e',r1,r2⟩|⟨e',r1,r2,r3⟩
     · exact .inl ⟨e',vX step r1,by rw[hk,r2]⟩
     · exact .inr ⟨e',vX step r1,r2,fun q=>r3 (List.cons.inj q).2⟩
   · refine .inr ⟨[(4,.bool false)],wD ?_,rfl,fun q=>hk (List.cons.inj q).1⟩
     cases B1 with
     | false =>
       clear ih ra rb a1 a2 b1 b2 vx vy ha hb key
       simp (disch:=omega)only[go_sem,yH,AP.f182L0,ln,a3,a4,a5,a6,a7,b3,b4,b5,b6,b7,en,k1]
     | true =>
       rw[df (fun q=>hk (key.2 ⟨rfl,q⟩))]at k1
       clear ih ra rb a1 a2 b1 b2 vx vy ha hb key
       simp (disch:=omega)only[go_sem,yH,AP.f182L0,ln,a3,a4,a5,a6,a7,b3,b4,b5,b6,b7,en,k1]
theorem T9 (h:H) (v w:AV) (a b:List EI) (ra:QL h v a) (rb:QL h w b) (hl:a.length<1000000):aV AP.A 182 [v,w] h=some (.bool (decide (a.map (·.1)=b.map (·.1))),h):=by
 have xf:Ext h h.eV:=fun i c q=>q
 have l1:=(ra.mono xf).rd.len
 have l2:=(rb.mono xf).rd.len
 by_cases c:a.length=b.length
 · have c':(a.length:Int)=b.length:=by omega
   rcases Pf c hl h.eV (ra.mono xf) (rb.mono xf) a b [] [] rfl rfl rfl with ⟨e',r1,r2⟩|⟨e',r1,r2,r3⟩
   · have r1':Lp AP.A [0,1,5] AP.f182L0 [(0,v),(1,w),(5,.int .i64 0)] h.eV=some (.exit 0,e',h.eV):=r1
     rw[dt r2]
     refine wN (fn:=AP.f182) (h2:=h.eV) (e:=[(4,.bool true)]) rfl rfl rfl ?_ rfl rfl
     clear ra rb r1 r2
     simp (disch:=omega)only[go_sem,yH,AP.f182,l1,l2,u9,r1']
   · have r1':Lp AP.A [0,1,5] AP.f182L0 [(0,v),(1,w),(5,.int .i64 0)] h.eV=some (.ret,e',h.eV):=r1
     rw[df r3]
     refine wN (fn:=AP.f182) (h2:=h.eV) (e:=e') (vs:=[.bool false]) rfl rfl rfl ?_ (by simp only[AP.f182,dh,pB,r2];rfl) rfl
     clear ra rb r1 r3
     simp (disch:=omega)only[go_sem,yH,AP.f182,l1,l2,u9,r1']
 · have c':¬(a.length:Int)=b.length:=by omega
   have e:a.map (·.1)≠b.map (·.1):=fun q=>c (by have:=adu List.length q;simpa using this)
   rw[df e]
   refine wN (fn:=AP.f182) (h2:=h.eV) (e:=[(4,.bool false)]) rfl rfl rfl ?_ rfl rfl
   clear ra rb
   simp (disch:=omega)only[go_sem,yH,AP.f182,l1,l2]
theorem YK.abN {h h':H} {ov:AV} {acc:List EI} (g:YK 2 h ov h' acc.length (DP acc)) (b:∀x∈acc,Uo h h' ov x):QL h' ov acc:=
 ⟨g.own.rd,fun x hx=>by
  obtain⟨j,e1,e2,_⟩:=(b x hx).ex
  have:=(b x hx).l4
  exact⟨by rw[e1];exact Rd.obj e2 this,by omega⟩⟩
theorem Rw:Ai [eA]=true:=by decide+kernel
theorem TD:Ai []=true:=by decide+kernel
theorem Ns:(AQ [eA])[AH nA%8]?=some (AK (BR [eA] (AH nA%8)))∧AK (BR [eA] (AH nA%8))≠0∧AK (AQ [eA])≠0∧AQ []=[0,0,0,0,0,0,0,0]∧CI [eA] [((AH nA%8:Nat):Int)]=[(nA,[1,0,0,0])]∧Fz [((AH nA%8:Nat):Int)]=true∧Fz [8]=false:=by decide+kernel
theorem Ys {g:H} {n:Nat} {E:List AV} (hg:g.get n=some E) (hE:E.length=9):zZ 9 g (.aI n 0 1 9) 1 E:=by
 refine⟨?_,by omega,fun _=>by simp⟩
 simp only[aW,if_true,hg,xM,xW,Nat.one_mul]
 rw[if_pos (by omega),ac8,yo (by omega)]
theorem O6 {g:H} {n:Nat} {x:Int} (hg:g.get n=some [.int .i64 x]):Rd g (.aI n 0 1 1) (ints [x]):=Rd.obj (l:=[x]) hg rfl
set_option maxHeartbeats 4000000 in
theorem PI (h:H):aV AP.A 176 [] h=some (.bool true,h):=by
 obtain⟨a1,a2,a3,a4,a5,a6,a7⟩:=Ns
 obtain⟨b,hb⟩:∃b,b=AH nA%8:=⟨_,rfl⟩
 have hb8:b<8:=by omega
 rw[←hb]at a1 a2 a5 a6
 obtain⟨E,hE⟩:∃E,E=yO eA (El [1,0,0,0]):=⟨_,rfl⟩
 have lE:E.length=9:=by rw[hE];rfl
 have cE:AV.aG E=true:=by rw[hE];exact Cu (Pu _)
 have fE:setFrom Z9 0 E=E:=by rw[hE];rfl
 have okE:∀g,BU g (eA,El [1,0,0,0]):=fun g=>BU.au (e:=eA) rfl (by decide) (by decide)
 have hv:∀g,∀x∈[((eA,El [1,0,0,0]):zq)],BU g x∧x.2.sc=true:=fun g x hx=>by obtain rfl:=List.mem_singleton.1 hx;exact⟨okE g,Pu [1,0,0,0]⟩
 have eE:yR [((eA,El [1,0,0,0]):zq)]=E:=by rw[hE];rfl
 have Aq:∀(g:H) (n:Nat),g.get n=some E→zZ 9 g (.aI n 0 1 9) [((eA,El [1,0,0,0]):zq)].length (yR [((eA,El [1,0,0,0]):zq)]):=fun g n hg=>by rw[eE];exact Ys hg lE
 have k0:∀g,aV AP.A 180 [.str ⟨#[97]⟩,.int .i64 0,.int .i64 1,.str ⟨#[104,105]⟩] g=some (.agg E,g):=fun g=>by rw[hE];exact N7 g nA tHi 0 1 (by omega) (by decide)
 obtain⟨G,hG⟩:∃G,G=((h.eV.alloc E).alloc [.aT]).set (h.next+1) [.aI h.next 0 1 9]:=⟨_,rfl⟩
 have g1:G.get h.next=some E:=by rw[hG];simp (disch:=first|omega|(simp only[zX,acN,acP,xW,Nat.reduceAdd];first|done|omega|fail)|fail)only[zX,ES,acR,acN,acP,xW,Nat.reduceAdd]
 have g2:G.get (h.next+1)=some [.aI h.next 0 1 9]:=by rw[hG];simp (disch:=first|omega|(simp only[zX,acN,acP,xW,Nat.reduceAdd];first|done|omega|fail)|fail)only[zX,ES,acR,acN,acP,xW,Nat.reduceAdd]
 have gf:G.floor=h.next:=by rw[hG];simp
 have gn:G.next=h.next+1+1:=by rw[hG];simp
 obtain⟨i1,h1,k1,o1,e1,f1,n1,ge1⟩:=Ra G (by omega) _ _ rfl (by simp) (Aq G h.next g1) (hv G) Rw
 have z11:=e1 _ _ g1
 have z12:=e1 _ _ g2
 obtain⟨i2,h2,k2,o2,e2,f2,n2,ge2⟩:=Ra h1 (by omega) .aT [] rfl (by simp) ⟨rfl,rfl,fun s q=>by cases q⟩ (fun x hx=>by cases hx) TD
 have o2':h2.get i2=some (ints [0,0,0,0,0,0,0,0]):=by rw[←a4];exact o2
 have z21:=e2 _ _ z11
 have z22:=e2 _ _ z12
 have o12:h2.get i1=some (ints (AQ [eA])):=e2 _ _ o1
 have k3:=Sa h2 (.aI i1 0 8 1) (AQ [eA]) (Rd.obj o12 (BI _)) (by rw[BI];omega)
 have r3:Pc (AQ [eA])=.cf [.int .i64 (AK (AQ [eA])),.int .i64 0]:=by unfold Pc;rw[Q9,BI];rfl
 rw[r3]at k3
 have k4:=fun g=>FB g nA (by decide)
 rw[←hb]at k4
 obtain⟨H3,hH3⟩:∃g,g=h2.alloc [.int .i64 b]:=⟨_,rfl⟩
 have x3:Ext h2 H3:=by rw[hH3];exact(Ext.refl h2).alloc _
 have z31:=x3 _ _ z21
 have z32:=x3 _ _ z22
 have f3:H3.floor=h.next:=by rw[hH3];simp [f2,f1,gf]
 have n3:H3.next=h2.next+1:=by rw[hH3];simp
 obtain⟨v5,h5,acc,k5,e5,q5,b5⟩:=Q0 H3 (by omega) _ (.aI h2.next 0 1 1) _ [(b:Int)] rfl (by simp) (Aq H3 h.next z31) (hv H3) (O6 (by rw[hH3,yG rfl])) (by simp) (by rw[a6,Bool.and_true];exact Rw)
 have q5':acc.map (·.1)=[(nA,[1,0,0,0])]:=q5.trans a5
 have z51:=e5.ext _ _ z31
 have z52:=e5.ext _ _ z32
 have f5:=e5.fl
 have n5:=e5.nx
 obtain⟨H6,hH6⟩:∃g,g=h5.alloc [.int .i64 8]:=⟨_,rfl⟩
 have x6:Ext h5 H6:=by rw[hH6];exact(Ext.refl h5).alloc _
 have z61:=x6 _ _ z51
 have f6:H6.floor=h.next:=by rw[hH6];simp [f5,f3]
 have n6:H6.next=h5.next+1:=by rw[hH6];simp
 obtain⟨h7,k7,e7,f7,n7⟩:=QZ H6 (by omega) _ (.aI h5.next 0 1 1) _ [8] rfl (by simp) (Aq H6 h.next z61) (hv H6) (O6 (by rw[hH6,yG rfl])) (by simp) (by rw[a7,ac7])
 have k8:∀g,aV AP.A 181 [.aT] g=some (.cf [.int .i64 0,.int .i64 1600],g):=fun g=>Sa g .aT [] ⟨rfl,fun s q=>by cases q⟩ (by simp)
 have up:Ext h2 h7:=fun i c q=>e7 _ _ (x6 _ _ (e5.ext _ _ (x3 _ _ q)))
 have o17:=up _ _ o12
 have o27:=up _ _ o2'
 have z72:h7.get (h.next+1)=some [.aI h.next 0 1 9]:=up _ _ z22
 have rb7:QL h7 v5 acc:=(e5.abN b5).mono fun i c q=>e7 _ _ (x6 _ _ q)
 obtain⟨Y,hY⟩:∃g,g=h7.alloc [.int .i64 0,.int .i64 0,.int .i64 0,.int .i64 0,.int .i64 0,.int .i64 0,.int .i64 0,.int .i64 0]:=⟨_,rfl⟩
 have k9:aV AP.A 106 [.aI i2 0 8 1,.aI h7.next 0 8 1] Y=some (.bool true,Y):=by
  have y1:Ext h7 Y:=by rw[hY];exact(Ext.refl h7).alloc _
  have:=Pd Y (.aI i2 0 8 1) (.aI h7.next 0 8 1) [0,0,0,0,0,0,0,0] [0,0,0,0,0,0,0,0] (Rd.obj (y1 _ _ o27) rfl) (Rd.obj (l:=[0,0,0,0,0,0,0,0]) (by rw[hY,yG rfl];rfl) rfl) (by simp)
  rw[dt rfl]at this;exact this
 have yn:Y.next=h7.next+1:=by rw[hY];simp
 have yi:Y.get i1=some (ints (AQ [eA])):=by rw[hY,yN (by have:=h7.lt _ _ o17;omega)];exact o17
 obtain⟨W,hW⟩:∃g,g=(Y.alloc [.int .i64 1,.int .i64 0,.int .i64 0,.int .i64 0]).alloc [.str ⟨#[97]⟩,.aI (h7.next+1) 0 4 1]:=⟨_,rfl⟩
 have k10:aV AP.A 182 [v5,.aI (h7.next+1+1) 0 1 2] W=some (.bool true,W):=by
  have xw:Ext h7 W:=by rw[hW,hY];exact(((Ext.refl h7).alloc _).alloc _).alloc _
  have:=T9 W v5 (.aI (h7.next+1+1) 0 1 2) acc [((nA,[1,0,0,0]),.aI (h7.next+1) 0 4 1)] (rb7.mono xw) ⟨⟨by simp only[aW,if_true];rw[hW,yG (by simp;omega)];rfl,rfl,fun _=>by simp⟩,fun x hx=>by
   obtain rfl:=List.mem_singleton.1 hx
   exact⟨Rd.obj (l:=[1,0,0,0]) (by rw[hW,yN (by simp;omega),yG (by omega)];rfl) rfl,by simp⟩⟩ (by have:=adu List.length q5';rw[acV]at this;simp at this;omega)
  rw[dt (by rw[q5'];rfl)]at this;exact this
 have k11:=fun (g:H) n=>UH g n
 simp only[I]at k11
 have ld:(ints (AQ [eA]))[b]?=some (.int .i64 (AK (BR [eA] b))):=vG a1
 obtain⟨D,hD⟩:∃D,D=AK (BR [eA] b):=⟨_,rfl⟩
 obtain⟨R,hR⟩:∃R,R=AK (AQ [eA]):=⟨_,rfl⟩
 rw[←hD]at ld a2
 rw[←hR]at k3 a3
 have ne1:(D !=0)=true:=by rw[bne_iff_ne];exact a2
 have ne2:(R !=0)=true:=by rw[bne_iff_ne];exact a3
 have iL:=rY (AQ [eA])
 rw[BI]at iL
 have k1':aV AP.A 177 [.agg [.aI h.next 0 1 9]] G=some (.cf [.aI i1 0 8 1,.int .i64 0],h1):=k1
 have k2':aV AP.A 177 [.agg [.aT]] h1=some (.cf [.aI i2 0 8 1,.int .i64 0],h2):=k2
 have k5':aV AP.A 178 [.agg [.aI h.next 0 1 9],.aI h2.next 0 1 1] H3=some (.cf [v5,.int .i64 0],h5):=k5
 have k7':aV AP.A 178 [.agg [.aI h.next 0 1 9],.aI h5.next 0 1 1] H6=some (.cf [.aT,.int .i64 1600],h7):=k7
 have k4':∀g,aV AP.A 179 [.str ⟨#[97]⟩] g=some (.int .i64 b,g):=k4
 have gg:=hG.symm
 have hh3:=hH3.symm
 have hh6:=hH6.symm
 have hy:=hY.symm
 have hw:=hW.symm
 have hbI:(0:Int)≤(b:Int)∧(b:Int)<8:=⟨by omega,by omega⟩
 obtain⟨hF,hh⟩:∃hF,aP (aV AP.A) bL AP.f176.body (params 0 []) h.eV=some (.ret,[(0,.bool true)],hF):=by
  clear e1 e2 e5 e7 b5 q5 q5' rb7 up x3 x6 hv okE Aq hE hb hD hR a1 a4 a5 a6 a7 k1 k2 k5 k7 k4 r3 hG hH3 hH6 hY hW eE
  generalize ints (AQ [eA])=L at *
  refine⟨?_, ?_⟩
  rotate_left
  simp (disch:=first|omega|(simp only[zX,acN,acP,xW,Nat.reduceAdd];first|done|omega|fail)|(simp (disch:=first|omega|(simp only[zX,acN,acP,xW,Nat.reduceAdd];first|done|omega|fail)|fail)only[zX,ES,acR,acN,acP,xW,Nat.reduceAdd,g2,z12,z22,z32,z52,z72,gn,n3,n6,yn,yi];done)|fail)only[go_sem,yH,Fl,AP.f176,k0,lE,cE,fE,gg,g2,k1',z12,k2',z22,k3,k4',hh3,z32,n3,k5',z52,hh6,n6,k7',k8,hy,k9,yi,ld,iL,hw,k10,k11,ne1,ne2,A3,eK,yn,Bi]
  rfl
 exact wN (fn:=AP.f176) (h2:=hF) (e:=[(0,.bool true)]) rfl rfl rfl hh rfl rfl
theorem Jn (x:Int) (k:Nat) (hk:k≤62):bits .and .i64 x ((2^k-1:Nat):Int)=x%((2^k:Nat):Int):=by
 have h2:2^k≤2^62:=acX (by omega) hk
 have h3:0<2^k:=Nat.pow_pos (by omega)
 show IntKind.wrap .i64 (((BitVec.ofInt 64 x&&&BitVec.ofInt 64 ((2^k-1:Nat):Int)).toNat:Nat):Int)=_
 rw[BitVec.toNat_and,AW 64 (2^k-1) (by omega),BitVec.toNat_ofInt,Nat.and_two_pow_sub_one_eq_mod,yB (by
  have:=Nat.mod_lt (x%((2^64:Nat):Int)).toNat h3
  omega)]
 have e:(((x%((2^64:Nat):Int)).toNat:Nat):Int)=x%((2^64:Nat):Int):=Int.toNat_of_nonneg (Int.emod_nonneg _ (by decide))
 rw[Int.natCast_emod,e]
 refine Int.emod_emod_of_dvd x ?_
 refine Int.natCast_dvd_natCast.2 (Nat.pow_dvd_pow 2 (by omega))
theorem YP (x:Int):bits .and .i64 x 3=x%4:=Jn x 2 (by omega)
theorem Fa : ∀ (a b : List UInt8), Op.bytesLess b a = !(Op.bytesLess a b || a == b)
 |[],[]=>rfl
 |[],_::_=>rfl
 |_::_,[]=>rfl
 | x :: a, y :: b => by
   have ih:=Fa a b
   simp only[Op.bytesLess]
   rw[ih]
   by_cases h1:x<y
   · have h2:¬y<x:=fun q=>absurd (UInt8.lt_trans h1 q) (UInt8.lt_irrefl _)
     have h3:¬y=x:=fun q=>by subst q;exact absurd h1 (UInt8.lt_irrefl _)
     simp [h1,h2,h3]
   · by_cases h2:y<x
     · have h3:¬x=y:=fun q=>by subst q;exact absurd h2 (UInt8.lt_irrefl _)
       simp [h1,h2,h3]
     · have h3:x=y:=UInt8.le_antisymm (UInt8.not_lt.1 h2) (UInt8.not_lt.1 h1)
       subst h3
       simp [h1]
def Ff (p:Option zu) (e:zu):Bool:=match p with|none=>true|some q=>Op.bytesLess q.name.toList e.name.toList
theorem FT (p:Option zu) (e:zu):BJ p e=(AZ [e]&&Ff p e):=by
 rw[Mt]
 unfold BJ Ff
 cases Ao e.name<;>cases zD e<;>cases AO e<;>cases p<;>simp
theorem Px {v : AV} {l : List zq} (hl : l.length ≤ 6) (h : H) (b : Nat) (hb : h.get b = some [v]) (rd : zZ 9 h v l.length (yR l)) (hv : ∀ x ∈ l, BU h x ∧ x.2.sc = true) : ∀ (q p : List zq), l = p ++ q →
 (∃e',Lp AP.A [1,3] AP.f212L0 [(1,.aH b 0),(3,.int .i64 p.length)] h=some (.exit 0,e',h)∧BW (p.getLast?.map (·.1)) (q.map (·.1))=true)∨
 (∃e',Lp AP.A [1,3] AP.f212L0 [(1,.aH b 0),(3,.int .i64 p.length)] h=some (.ret,e',h)∧look e' 2=.bool false∧BW (p.getLast?.map (·.1)) (q.map (·.1))=false)
 | [], p, hp => by
   rw[acU]at hp;subst hp
   have ln:=rd.len
   refine .inl ⟨[(1,.aH b 0),(3,.int .i64 l.length),(12,.bool false)],vW ?_,rfl⟩
   simp (disch:=omega)only[go_sem,yH,AP.f212L0,hb,ln]
 | x :: q, p, hp => by
   have hlen:l.length=p.length+(q.length+1):=by rw[hp];simp
   have hx:l[p.length]?=some x:=by rw[hp];simp
   have ln:=rd.len
   obtain⟨ad,a1,a2⟩:=rd.SR
   have b1:=a1 p.length ⟨by omega,by omega⟩
   obtain⟨pe,b2⟩:=a2 h (Ext.refl h) p.length x hx
   obtain⟨qq,f1,f2⟩:=pe.wc
   have l0:=f2 h (Ext.refl h) 0 _ rfl
   obtain⟨ok,sc⟩:=hv x (by rw[hp];simp)
   have k1:=RH h x.1 x.2 sc ok
   have ih:=Px hl h b hb rd hv q (p++[x]) (by rw[hp];simp)
   have w1:((p++[x]).length:Int)=(p.length:Int)+1:=by simp
   rw[w1,List.getLast?_concat]at ih
   have step:aP (aV AP.A) bL AP.f212L0 (aC [(1,.aH b 0),(3,.int .i64 p.length)] [1,3]) h=if BJ (p.getLast?.map (·.1)) x.1 then some (.normal,[(1,.aH b 0),(3,.int .i64 ((p.length:Int)+1))],h)else some (.ret,[(2,.bool false)],h):=by
    rw[FT]
    generalize AZ [x.1]=B at *
    cases hq:p.getLast? with
    | none =>
      have hp0:p=[]:=List.getLast?_eq_none_iff.1 hq
      have hp1:p.length=0:=by rw[hp0];rfl
      clear ih rd a1 a2 hp w1 pe f2 hv ok
      rw[ac5,show Ff none x.1=true from rfl,Bool.and_true]
      generalize yO x.1 x.2=E at *
      cases B with
      | false =>
        rw[if_neg (by decide)]
        simp (disch:=omega)only[go_sem,yH,AP.f212L0,hb,ln,b1,b2,f1,l0,k1]
      | true =>
        rw[if_pos rfl]
        simp (disch:=omega)only[go_sem,yH,AP.f212L0,hb,ln,b1,b2,f1,l0,k1]
    | some y =>
      obtain⟨p',rfl⟩:∃p',p=p'++[y]:=List.getLast?_eq_some_iff.1 hq
      have hpl:(p'++[y]).length=p'.length+1:=by simp
      have hy:l[p'.length]?=some y:=by rw[hp];simp
      have bj:=a1 p'.length ⟨by omega,by omega⟩
      obtain⟨pj,_⟩:=a2 h (Ext.refl h) p'.length y hy
      obtain⟨qj,fj1,fj2⟩:=pj.wc
      have lj:=fj2 h (Ext.refl h) 0 _ rfl
      have n2:(((p'++[y]).length:Nat):Int)-1=(p'.length:Int):=by rw[hpl];omega
      have n3:0<(((p'++[y]).length:Nat):Int):=by rw[hpl];omega
      have cmp:bH .leq (.str x.1.name) (.str y.1.name)=some (.bool (!(Ff (some y.1) x.1))):=by
       show _=some (AV.bool (!(Op.bytesLess y.1.name.toList x.1.name.toList)))
       rw[Fa x.1.name.toList y.1.name.toList,Bool.not_not];rfl
      clear ih rd a1 a2 hp w1 hx hy hq pe f2 pj fj2 hv ok
      rw[acR]
      generalize yO x.1 x.2=E at *
      generalize Ff (some y.1) x.1=B2 at *
      generalize (p'++[y]).length=pl at *
      cases B with
      | false =>
        rw[adg,if_neg (by decide)]
        simp (disch:=omega)only[go_sem,yH,AP.f212L0,hb,ln,b1,b2,f1,l0,k1]
      | true =>
        cases B2 with
        | false =>
          rw[ac7,if_neg (by decide)]
          simp (disch:=omega)only[go_sem,yH,AP.f212L0,hb,ln,b1,b2,f1,l0,k1,bj,fj1,lj,n2,cmp]
        | true =>
          rw[Bool.and_self,if_pos rfl]
          simp (disch:=omega)only[go_sem,yH,AP.f212L0,hb,ln,b1,b2,f1,l0,k1,bj,fj1,lj,n2,cmp]
   have hmay:BW (p.getLast?.map (·.1)) ((x::q).map (·.1))=(BJ (p.getLast?.map (·.1)) x.1&&BW (some x.1) (q.map (·.1))):=rfl
   rw[hmay]
   by_cases hok:BJ (p.getLast?.map (·.1)) x.1=true
   · rw[if_pos hok]at step
     rw[hok,adn]
     rcases ih with ⟨e',r1,r2⟩|⟨e',r1,r2,r3⟩
     · exact .inl ⟨e',vX step r1,r2⟩
     · exact .inr ⟨e',vX step r1,r2,r3⟩
   · have hok':BJ (p.getLast?.map (·.1)) x.1=false:=by simpa using hok
     rw[if_neg hok]at step
     rw[hok',adg]
     exact .inr ⟨_,wD step,rfl,rfl⟩
theorem SK (h:H) (v:AV) (l:List zq) (hvs:v.sc=true) (hn:l.length<1125899906842624) (rd:zZ 9 h v l.length (yR l)) (hv:∀x∈l,BU h x∧x.2.sc=true):aV AP.A 212 [.agg [v]] h=some (.bool (AZ (l.map (·.1))),h):=by
 obtain⟨h1,eh1⟩:∃g,g=h.eV.alloc [v]:=⟨_,rfl⟩
 have hx0:Ext h h1:=by rw[eh1];exact fun i c q=>((Ext.refl h.eV).alloc _) i c q
 have hn0:h.eV.next=h.next:=rfl
 have g1:h1.get h.next=some [v]:=by rw[eh1];exact yG rfl
 have Aq:=rd.mono fun i c q=>hx0 i c q
 have ln:=Aq.len
 unfold AZ
 rw[acV]
 by_cases c:l.length≤6
 · have c':¬(6:Int)<l.length:=by omega
   rw[dt c,Bool.and_true]
   rcases Px c h1 h.next g1 Aq (fun x hx=>⟨(hv x hx).1.mono hx0,(hv x hx).2⟩) l [] rfl with ⟨e',r1,r2⟩|⟨e',r1,r2,r3⟩
   · have r1':Lp AP.A [1,3] AP.f212L0 [(1,.aH h.next 0),(3,.int .i64 0)] h1=some (.exit 0,e',h1):=r1
     have r2':BW none (l.map (·.1))=true:=r2
     rw[r2']
     refine wN (fn:=AP.f212) (h2:=h1) (e:=[(2,.bool true)]) rfl rfl rfl ?_ rfl rfl
     clear rd Aq hv hx0 r1 r2 r2'
     simp (disch:=omega)only[go_sem,yH,AP.f212,hvs,hn0,←eh1,g1,ln,u9,r1']
   · have r1':Lp AP.A [1,3] AP.f212L0 [(1,.aH h.next 0),(3,.int .i64 0)] h1=some (.ret,e',h1):=r1
     have r3':BW none (l.map (·.1))=false:=r3
     rw[r3']
     refine wN (fn:=AP.f212) (h2:=h1) (e:=e') (vs:=[.bool false]) rfl rfl rfl ?_ (by simp only[AP.f212,dh,pB,r2];rfl) rfl
     clear rd Aq hv hx0 r1 r3 r3'
     simp (disch:=omega)only[go_sem,yH,AP.f212,hvs,hn0,←eh1,g1,ln,u9,r1']
 · have c':(6:Int)<l.length:=by omega
   rw[df c,ac7]
   refine wN (fn:=AP.f212) (h2:=h1) (e:=[(2,.bool false)]) rfl rfl rfl ?_ rfl rfl
   clear rd Aq hv hx0
   simp (disch:=omega)only[go_sem,yH,AP.f212,hvs,hn0,←eh1,g1,ln]
theorem OC {v:AV} {l:List zq} (h:H) (b:Nat) (hb:h.get b=some [v]) (rd:zZ 9 h v l.length (yR l)) (hm:AZ (l.map (·.1))=true):∀(q p:List zq),l=p++q→
 ∃e',Lp AP.A [1,3,4] AP.f213L0 [(1,.aH b 0),(3,.int .i64 (22+Gs (p.map (·.1)):Nat)),(4,.int .i64 p.length)] h=some (.exit 0,e',h)∧look e' 3=.int .i64 (Bl (l.map (·.1)):Nat)
 | [], p, hp => by
   rw[acU]at hp;subst hp
   have ln:=rd.len
   refine⟨[(1,.aH b 0),(3,.int .i64 (22+Gs (l.map (·.1)):Nat)),(4,.int .i64 l.length),(12,.bool false)],vW ?_,rfl⟩
   simp (disch:=omega)only[go_sem,yH,AP.f213L0,hb,ln]
 | x :: q, p, hp => by
   obtain⟨m1,m2,m3⟩:=zG hm
   have hx:l[p.length]?=some x:=by rw[hp];simp
   have hlen:l.length=p.length+(q.length+1):=by rw[hp];simp
   rw[acV]at m1
   obtain⟨_,_,c3⟩:=m2 x.1 (by rw[hp];simp)
   have c1:=A1 (m2 x.1 (by rw[hp];simp)).1
   have c2:=CL c3
   have ln:=rd.len
   obtain⟨ad,a1,a2⟩:=rd.SR
   have b1:=a1 p.length ⟨by omega,by omega⟩
   obtain⟨pe,_⟩:=a2 h (Ext.refl h) p.length x hx
   obtain⟨qq,f1,f2⟩:=pe.wc
   have l0:=f2 h (Ext.refl h) 0 _ rfl
   have l6:=f2 h (Ext.refl h) 6 _ rfl
   obtain⟨e',r1,r2⟩:=OC h b hb rd hm q (p++[x]) (by rw[hp];simp)
   have sz:Bl (l.map (·.1))=22+(Gs (p.map (·.1))+(SU x.1+Gs (q.map (·.1)))):=by unfold Bl;rw[hp,adk,HA,acW,Gs]
   have e1:22+Gs ((p++[x]).map (·.1))=22+Gs (p.map (·.1))+SU x.1:=by rw[adk,HA];simp [Gs];omega
   have n1:((p++[x]).length:Int)=(p.length:Int)+1:=by simp
   rw[e1,n1]at r1
   have se:SU x.1=128+2* x.1.name.size+x.1.packed.size:=rfl
   obtain⟨N,hN⟩:∃N,N=22+Gs (p.map (·.1)):=⟨_,rfl⟩
   rw[←hN]at r1 ⊢
   have hN2:N≤4096:=by omega
   have w:(N:Int)+76+2* (x.1.name.size:Int)+52+(x.1.packed.size:Int)=((N+SU x.1:Nat):Int):=by omega
   refine⟨e',vX ?_ r1,r2⟩
   clear r1 r2 e1 sz hN rd a1 a2 f2 pe m2 m3 hm hp n1
   simp (disch:=omega)only[go_sem,yH,AP.f213L0,hb,ln,b1,f1,l0,l6,w]
theorem OD (h:H) (v:AV) (l:List zq) (hvs:v.sc=true) (hn:l.length<1125899906842624) (rd:zZ 9 h v l.length (yR l)) (hv:∀x∈l,BU h x∧x.2.sc=true) (hm:AZ (l.map (·.1))=true):aV AP.A 213 [.agg [v]] h=some (.int .i64 (Bl (l.map (·.1)):Nat),h):=by
 obtain⟨h1,eh1⟩:∃g,g=h.eV.alloc [v]:=⟨_,rfl⟩
 have hx0:Ext h h1:=by rw[eh1];exact fun i c q=>((Ext.refl h.eV).alloc _) i c q
 have hn0:h.eV.next=h.next:=rfl
 have g1:h1.get h.next=some [v]:=by rw[eh1];exact yG rfl
 have Aq:=rd.mono fun i c q=>hx0 i c q
 have k1:=SK h1 v l hvs hn Aq (fun x hx=>⟨(hv x hx).1.mono hx0,(hv x hx).2⟩)
 rw[hm]at k1
 obtain⟨e',r1,r2⟩:=OC h1 h.next g1 Aq hm l [] rfl
 have r1':Lp AP.A [1,3,4] AP.f213L0 [(1,.aH h.next 0),(3,.int .i64 22),(4,.int .i64 0)] h1=some (.exit 0,e',h1):=r1
 clear r1 hm
 generalize Bl (l.map (·.1))=N at *
 refine wN (fn:=AP.f213) (h2:=h1) (e:=[(2,.int .i64 N)]) (vs:=[.int .i64 N]) rfl rfl rfl ?_ rfl rfl
 clear rd Aq hv hx0
 simp (disch:=omega)only[go_sem,yH,AP.f213,hvs,hn0,←eh1,g1,Bi,k1,u9,r1',r2]
theorem OI {v : AV} {l : List zq} (hl : l.length ≤ 6) (h : H) (b : Nat) (hb : h.get b = some [v]) (rd : zZ 9 h v l.length (yR l)) (hv : ∀ x ∈ l, BU h x ∧ x.2.sc = true) : ∀ (q p : List zq), l = p ++ q →
 (∃e',Lp AP.A [1,3] AP.f205L0 [(1,.aH b 0),(3,.int .i64 p.length)] h=some (.exit 0,e',h)∧(q.map (·.1)).all BT=true)∨
 (∃e',Lp AP.A [1,3] AP.f205L0 [(1,.aH b 0),(3,.int .i64 p.length)] h=some (.ret,e',h)∧look e' 2=.bool false∧(q.map (·.1)).all BT=false)
 | [], p, hp => by
   rw[acU]at hp;subst hp
   have ln:=rd.len
   refine .inl ⟨[(1,.aH b 0),(3,.int .i64 l.length),(16,.bool false)],vW ?_,rfl⟩
   simp (disch:=omega)only[go_sem,yH,AP.f205L0,hb,ln]
 | x :: q, p, hp => by
   have hlen:l.length=p.length+(q.length+1):=by rw[hp];simp
   have hx:l[p.length]?=some x:=by rw[hp];simp
   have ln:=rd.len
   obtain⟨ad,a1,a2⟩:=rd.SR
   have b1:=a1 p.length ⟨by omega,by omega⟩
   obtain⟨_,b2⟩:=a2 h (Ext.refl h) p.length x hx
   obtain⟨ok,sc⟩:=hv x (by rw[hp];simp)
   have k1:=Ts h x.1 x.2 sc ok
   have ih:=OI hl h b hb rd hv q (p++[x]) (by rw[hp];simp)
   have w1:((p++[x]).length:Int)=(p.length:Int)+1:=by simp
   rw[w1]at ih
   rw[acW,List.all_cons]
   cases hm:BT x.1 with
   | false =>
     rw[hm]at k1
     refine .inr ⟨[(2,.bool false)],wD ?_,rfl,rfl⟩
     clear ih rd a1 a2 hv hp ok
     generalize yO x.1 x.2=E at *
     simp (disch:=omega)only[go_sem,yH,AP.f205L0,hb,ln,b1,b2,k1]
   | true =>
     rw[hm]at k1
     rw[adn]
     have step:aP (aV AP.A) bL AP.f205L0 (aC [(1,.aH b 0),(3,.int .i64 p.length)] [1,3]) h=some (.normal,[(1,.aH b 0),(3,.int .i64 ((p.length:Int)+1))],h):=by
      clear ih rd a1 a2 hv hp ok
      generalize yO x.1 x.2=E at *
      simp (disch:=omega)only[go_sem,yH,AP.f205L0,hb,ln,b1,b2,k1]
     rcases ih with ⟨e',r1,r2⟩|⟨e',r1,r2,r3⟩
     · exact .inl ⟨e',vX step r1,r2⟩
     · exact .inr ⟨e',vX step r1,r2,r3⟩
theorem TA (h:H) (v:AV) (l:List zq) (hvs:v.sc=true) (hn:l.length<1125899906842624) (rd:zZ 9 h v l.length (yR l)) (hv:∀x∈l,BU h x∧x.2.sc=true):aV AP.A 205 [.agg [v]] h=some (.bool (Ai (l.map (·.1))),h):=by
 obtain⟨h1,eh1⟩:∃g,g=h.eV.alloc [v]:=⟨_,rfl⟩
 have hx0:Ext h h1:=by rw[eh1];exact fun i c q=>((Ext.refl h.eV).alloc _) i c q
 have hn0:h.eV.next=h.next:=rfl
 have g1:h1.get h.next=some [v]:=by rw[eh1];exact yG rfl
 have Aq:=rd.mono fun i c q=>hx0 i c q
 have hv1:∀x∈l,BU h1 x∧x.2.sc=true:=fun x hx=>⟨(hv x hx).1.mono hx0,(hv x hx).2⟩
 have k1:=SK h1 v l hvs hn Aq hv1
 unfold Ai
 cases hm:AZ (l.map (·.1))with
 | false =>
   rw[hm]at k1
   rw[adg]
   refine wN (fn:=AP.f205) (h2:=h1) (e:=[(2,.bool false)]) rfl rfl rfl ?_ rfl rfl
   clear rd Aq hv hv1 hx0
   simp (disch:=omega)only[go_sem,yH,AP.f205,hvs,hn0,←eh1,g1,Bi,k1]
 | true =>
   rw[hm]at k1
   rw[adn]
   have k2:=OD h1 v l hvs hn Aq hv1 hm
   obtain⟨m1,_,m3⟩:=zG hm
   rw[acV]at m1
   generalize Bl (l.map (·.1))=N at *
   rcases OI m1 h1 h.next g1 Aq hv1 l [] rfl with ⟨e',r1,r2⟩|⟨e',r1,r2,r3⟩
   · have r1':Lp AP.A [1,3] AP.f205L0 [(1,.aH h.next 0),(3,.int .i64 0)] h1=some (.exit 0,e',h1):=r1
     rw[r2]
     refine wN (fn:=AP.f205) (h2:=h1) (e:=[(2,.bool true)]) rfl rfl rfl ?_ rfl rfl
     clear rd Aq hv hv1 hx0 r1 r2
     simp (disch:=omega)only[go_sem,yH,AP.f205,hvs,hn0,←eh1,g1,Bi,k1,k2,u9,r1']
   · have r1':Lp AP.A [1,3] AP.f205L0 [(1,.aH h.next 0),(3,.int .i64 0)] h1=some (.ret,e',h1):=r1
     rw[r3]
     refine wN (fn:=AP.f205) (h2:=h1) (e:=e') (vs:=[.bool false]) rfl rfl rfl ?_ (by simp only[AP.f205,dh,pB,r2];rfl) rfl
     clear rd Aq hv hv1 hx0 r1 r3
     simp (disch:=omega)only[go_sem,yH,AP.f205,hvs,hn0,←eh1,g1,Bi,k1,k2,u9,r1']
instance:DecidableEq zu:=fun a b=>decidable_of_iff _ (N5 a b)
theorem Nx {A : bw} {f g : Nat} {fn gn : gG} (ef : A f = some fn) (eg : A g = some gn) (hp : fn.pure = true) (gp : gn.pure = false) (hb : fn.body = gn.body) (hn : fn.np = gn.np) (hr : fn.res = gn.res) {args : List AV} {h h' : H} {v v' : AV}
 (k:aV A g args h.eV=some (v,h')) (s:snap h'.get h.next 16 true v=some v'):aV A f args h=some (v',h):=by
 obtain⟨n,hn'⟩:=fO k
 cases n with
 |zero=>cases hn'
 | succ d =>
   refine oM (n:=d+1) ?_
   simp only[aX,ef,eg,xM,gE,hn,hb,hp,gp,if_true]at hn' ⊢
   split at hn'
   · rename_i c
     rw[if_pos c]
     have e0:(if(false:Bool)=true then h.eV.eV else h.eV)=h.eV:=rfl
     rw[e0]at hn'
     cases hx:aP (aX A d) (aN d) gn.body (params 0 args) h.eV with
     |none=>rw[hx]at hn';cases hn'
     | some r =>
       rw[hx]at hn'
       rw[xM]at hn' ⊢
       obtain⟨x,e,hh⟩:=r
       unfold fin at hn' ⊢
       cases x with
       |exit m=>cases hn'
       | normal =>
         simp only[hr,hp,gp,if_true]at hn' ⊢
         cases hq:dh e hh gn.res with
         |none=>rw[hq]at hn';cases hn'
         | some vs =>
           rw[hq,xM]at hn'
           have:=xF hn'
           obtain⟨rfl,rfl⟩:=xH this
           rw[xM]
           unfold iZ
           rw[s];rfl
       | ret =>
         simp only[hr,hp,gp,if_true]at hn' ⊢
         cases hq:dh e hh gn.res with
         |none=>rw[hq]at hn';cases hn'
         | some vs =>
           rw[hq,xM]at hn'
           have:=xF hn'
           obtain⟨rfl,rfl⟩:=xH this
           rw[xM]
           unfold iZ
           rw[s];rfl
   · cases hn'
theorem Q3 (h:H) (e:zu) (v:AV) (hv:v.sc=true) (ok:BU h (e,v)) (h0:0<e.vec.length) (hb:e.vec.length<20000000000000):aV AP.A 165 [.agg (yO e v)] h=some (.agg (yO e (zj e.vec)),h):=by
 obtain⟨h',v',k,q1,q2,q3,q4,q5,q6⟩:=Ti h.eV (xQ _) e v hv (ok.mono fun i c q=>q) hb
 rw[if_neg (by intro c;rw[c]at h0;simp at h0)]at q1
 subst q1
 refine Nx (fn:=AP.f165) (gn:=AP.f92) rfl rfl rfl rfl rfl rfl rfl k ?_
 have g:=q6 h0
 have s1:snap h'.get h.next 14 true (.aI (h.next+3) 0 e.vec.length 1)=some (zj e.vec):=by
  have o:yS 1 ⟨h'.next,h.next,h'.cT,h'.len⟩ (.aI (h.next+3) 0 e.vec.length 1) e.vec.length (ints e.vec):=⟨by rw[rY];omega,.inr ⟨h.next+3,rfl,g,by show h.next≤_;omega,h0⟩⟩
  have:=o.Ap (fl:=h.next) (m:=12) (t:=true) (xQ _)
  have e:CD 1 e.vec.length (ints e.vec)=zj e.vec:=by unfold CD zj;rw[if_neg (by omega)]
  rw[e]at this;exact this
 have e1:h.eV.next=h.next:=rfl
 rw[e1]
 show(gV (snap h'.get h.next 15 true) (yO e (.aI (h.next+3) 0 e.vec.length 1))).bind _=_
 have s1':snap h'.get h.next 15 true (.aI (h.next+3) 0 e.vec.length 1)=some (zj e.vec):=by
  have o:yS 1 ⟨h'.next,h.next,h'.cT,h'.len⟩ (.aI (h.next+3) 0 e.vec.length 1) e.vec.length (ints e.vec):=⟨by rw[rY];omega,.inr ⟨h.next+3,rfl,g,by show h.next≤_;omega,h0⟩⟩
  have:=o.Ap (fl:=h.next) (m:=13) (t:=true) (xQ _)
  have e:CD 1 e.vec.length (ints e.vec)=zj e.vec:=by unfold CD zj;rw[if_neg (by omega)]
  rw[e]at this;exact this
 have e2:gV (snap h'.get h.next 15 true) (yO e (.aI (h.next+3) 0 e.vec.length 1))=some (yO e (zj e.vec)):=by
  unfold yO
  simp only[gV,s1',xM]
  rfl
 rw[e2];rfl
def Yh (x:zq):zq:=(x.1,zj x.1.vec)
theorem Oo {v : AV} {l : List zq} (hl : l.length ≤ 6) (h0 : H) (b : Nat) (hb : h0.get b = some [v]) (rd : zZ 9 h0 v l.length (yR l)) (hv : ∀ x ∈ l, BU h0 x ∧ x.2.sc = true ∧ x.1.vec.length = 4) (P : Nat) (hP : h0.next ≤ P) (o2 : AV) : ∀ (q p : List zq), l = p ++ q → ∀ (h : H) (ov : AV), Ext h0 h → h.get P = some [ov] → h.floor ≤ h.next → h.floor ≤ P →
 yS 9 h ov p.length (yR (p.map Yh))→(∀j,ov.id?=some j→P<j)→
 ∃ e' h' ov', Lp AP.A [1, 2, 3, 4] AP.f215L0 [(1, .aH b 0), (2, o2), (3, .aH P 0), (4, .int .i64 p.length)] h = some (.exit 0, e', h') ∧ look e' 2 = o2 ∧ look e' 3 = .aH P 0 ∧
   Ext h0 h'∧h'.get P=some [ov']∧h'.floor=h.floor∧h.next≤h'.next∧yS 9 h' ov' l.length (yR (l.map Yh))∧∀j,ov'.id?=some j→P<j
 | [], p, hp, h, ov, hx, hg, hf, hfP, o, ho => by
   rw[acU]at hp;subst hp
   have gb:=hx _ _ hb
   have ln:=(rd.mono fun i c q=>hx i c q).len
   refine⟨[(1,.aH b 0),(2,o2),(3,.aH P 0),(4,.int .i64 l.length),(9,.bool false)],h,ov,vW ?_,rfl,rfl,hx,hg,rfl,xQ _,o,ho⟩
   simp (disch:=omega)only[go_sem,yH,AP.f215L0,gb,ln]
 | x :: q, p, hp, h, ov, hx, hg, hf, hfP, o, ho => by
   have gb:=hx _ _ hb
   have hlx:l[p.length]?=some x:=by rw[hp];simp
   have hlen:l.length=p.length+(q.length+1):=by rw[hp];simp
   have ln:=(rd.mono fun i c q=>hx i c q).len
   obtain⟨ad,a1,a2⟩:=rd.SR
   have b1:=a1 p.length ⟨by omega,by omega⟩
   obtain⟨_,b2⟩:=a2 h hx p.length x hlx
   obtain⟨ok,sc,v4⟩:=hv x (by rw[hp];simp)
   have k1:=Q3 h x.1 x.2 sc (ok.mono hx) (by omega) (by omega)
   have w1:((p++[x]).length:Int)=(p.length:Int)+1:=by simp
   obtain⟨E,hE⟩:∃E,E=yO x.1 (zj x.1.vec):=⟨_,rfl⟩
   have lE:E.length=9:=by rw[hE];rfl
   have cE:AV.aG E=true:=by rw[hE];exact Cu rfl
   have fE:setFrom Z9 0 E=E:=by rw[hE];rfl
   obtain⟨v',h',p1,p2,p3,p4,p5,p6⟩:=o.push hf (z:=104) (m:=1) (by omega) (by omega) E (by rw[lE]) cE (by simp [roomy];omega)
   have gP:h'.get P=some [ov]:=by rw[p5 P (fun q=>by have:=ho P q;omega) (h.lt _ _ hg)];exact hg
   have hw:=p2.sc
   have cw:=A4 hw
   have st:wP h' P 0 1 [v'] (some [ov])=some (h'.set P [v']):=by rw[xm (by rw[p3];exact hfP) (by simp) hw];rfl
   have ea:yR (p.map Yh)++E=yR ((p++[x]).map Yh):=by rw[adk,List.map_singleton,show Yh x=(x.1,zj x.1.vec)from rfl,NK,hE]
   have el:p.length+1=(p++[x]).length:=by simp
   rw[ea,el]at p2
   have hP':=h.lt _ _ hg
   obtain⟨e',h2,ov',r1,r2,r3,r6,r7,r8,r9,r10⟩:=Oo hl h0 b hb rd hv P hP o2 q (p++[x]) (by rw[hp];simp) (h'.set P [v']) v' (fun i c q=>by
    have:=h0.lt _ _ q
    rw[yE (by omega),p5 i (fun q2=>by have:=ho i q2;omega) (by omega)];exact hx i c q) (by rw[yM rfl,gP];rfl) (by simp [p3];omega) (by simp [p3];exact hfP) (p2.mono (by simp) fun i q=>by rw[yE];rw[p6]at q;have:=xF q;omega) (fun j q=>by rw[p6]at q;have:=xF q;omega)
   rw[w1]at r1
   refine⟨e',h2,ov',vX ?_ r1,r2,r3,r6,r7,by rw[r8];simp [p3],by simp at r9;omega,r10⟩
   rw[←hE]at k1
   clear r1 r2 r3 r6 r7 r8 r9 r10 rd hv a1 a2 o ea el p2 hE
   generalize yO x.1 x.2=F at *
   simp (disch:=omega)only[go_sem,yH,AP.f215L0,gb,ln,hg,b1,b2,k1,lE,cE,fE,p1,cw,gP,st]
theorem Tg (h:H) (hf:h.floor≤h.next) (v:AV) (l:List zq) (hvs:v.sc=true) (hl:l.length≤6) (rd:zZ 9 h v l.length (yR l)) (hv:∀x∈l,BU h x∧x.2.sc=true∧x.1.vec.length=4):
 ∃w h',aV AP.A 215 [.agg [v]] h=some (.agg [w],h')∧YK 9 h w h' l.length (yR (l.map Yh)):=by
 obtain⟨g1,eg1⟩:∃g,g=h.alloc [v]:=⟨_,rfl⟩
 obtain⟨g2,eg2⟩:∃g,g=g1.alloc [.aT]:=⟨_,rfl⟩
 obtain⟨g3,eg3⟩:∃g,g=g2.alloc [.aT]:=⟨_,rfl⟩
 have n1:g1.next=h.next+1:=by rw[eg1];simp
 have n2:g2.next=h.next+2:=by rw[eg2];simp [n1]
 have n3:g3.next=h.next+3:=by rw[eg3];simp [n2]
 have f3:g3.floor=h.floor:=by rw[eg3,eg2,eg1];simp
 have x2:Ext h g2:=by rw[eg2,eg1];exact((Ext.refl h).alloc _).alloc _
 have x23:Ext g2 g3:=by rw[eg3];exact(Ext.refl _).alloc _
 have z1:g2.get h.next=some [v]:=by rw[eg2,yN (by omega),eg1,yG rfl]
 have z2:g2.get (h.next+1)=some [.aT]:=by rw[eg2,yG (by omega)]
 have z3:g3.get (h.next+2)=some [.aT]:=by rw[eg3,yG (by omega)]
 obtain⟨e',h4,w,r1,r2,r3,r4,r5,r6,r7,r8,r9⟩:=Oo hl g2 h.next z1 (rd.mono fun i c q=>x2 i c q) (fun x hx=>⟨(hv x hx).1.mono x2,(hv x hx).2⟩) (h.next+2) (by omega) (.aH (h.next+1) 0) l [] rfl g3 .aT x23 z3 (by omega) (by omega) yS.nil (fun j q=>by cases q)
 have r1':Lp AP.A [1,2,3,4] AP.f215L0 [(1,.aH h.next 0),(2,.aH (h.next+1) 0),(3,.aH (h.next+2) 0),(4,.int .i64 0)] g3=some (.exit 0,e',h4):=r1
 have hw:=r8.sc
 have cw:=A4 hw
 have y2:=r4 _ _ z2
 obtain⟨g5,eg5⟩:∃g,g=h4.set (h.next+1) [w]:=⟨_,rfl⟩
 have st:wP h4 (h.next+1) 0 1 [w] (some [.aT])=some g5:=by rw[xm (by rw[r6,f3];omega) (by simp) hw,eg5];rfl
 have z5:g5.get (h.next+1)=some [w]:=by rw[eg5,yM rfl,y2];rfl
 refine⟨w,g5, ?_,⟨r8.mono (by rw[eg5];simp) (fun i q=>by have:=r9 i q;rw[eg5,yE (by omega)]),fun i c q=> ?_,by rw[eg5];simp [r6,f3],by rw[eg5];simp;omega,fun i q=>by have:=r9 i q;omega⟩⟩
 · refine wo (fn:=AP.f215) (h2:=g5) (e:=[(2,.aH (h.next+1) 0)]) (vs:=[.agg [w]]) rfl rfl rfl ?_ (by simp only[AP.f215,dh,pB,oW,tR,z5,vR];rfl)
   clear rd hv r1 r4 r8 r9 x2 x23
   simp (disch:=omega)only[go_sem,yH,AP.f215,hvs,←eg1,n1,←eg2,n2,←eg3,u9,r1',r2,r3,r5,Bi,y2,hw,cw,st]
 · have:=h.lt _ _ q
   rw[eg5,yE (by omega)];exact r4 _ _ (x2 _ _ q)
def zd (s:ByteArray):List zu→Nat×Bool
 |[]=>(0,false)
 |e::r=>if Op.bytesLess e.name.toList s.toList then((zd s r).1+1,(zd s r).2)else(0,e.name.toList==s.toList)
theorem O9 {v : AV} {l : List zq} (s : ByteArray) (hl : l.length < 1125899906842624) (h : H) (b : Nat) (hb : h.get b = some [v]) (rd : zZ 9 h v l.length (yR l)) : ∀ (q p : List zq), l = p ++ q →
 (∃e',Lp AP.A [1,2,6] AP.f208L0 [(1,.str s),(2,.aH b 0),(6,.int .i64 p.length)] h=some (.exit 0,e',h)∧look e' 2=.aH b 0∧zd s (q.map (·.1))=(q.length,false))∨
 (∃e',Lp AP.A [1,2,6] AP.f208L0 [(1,.str s),(2,.aH b 0),(6,.int .i64 p.length)] h=some (.ret,e',h)∧look e' 4=.int .i64 (p.length+(zd s (q.map (·.1))).1:Nat)∧look e' 5=.bool (zd s (q.map (·.1))).2)
 | [], p, hp => by
   rw[acU]at hp;subst hp
   have ln:=rd.len
   refine .inl ⟨[(1,.str s),(2,.aH b 0),(6,.int .i64 l.length),(11,.bool false)],vW ?_,rfl,rfl⟩
   simp (disch:=omega)only[go_sem,yH,AP.f208L0,hb,ln]
 | x :: q, p, hp => by
   have hlen:l.length=p.length+(q.length+1):=by rw[hp];simp
   have hx:l[p.length]?=some x:=by rw[hp];simp
   have ln:=rd.len
   obtain⟨ad,a1,a2⟩:=rd.SR
   have b1:=a1 p.length ⟨by omega,by omega⟩
   obtain⟨pe,b2⟩:=a2 h (Ext.refl h) p.length x hx
   obtain⟨qq,f1,f2⟩:=pe.wc
   have l0:=f2 h (Ext.refl h) 0 _ rfl
   have w1:((p++[x]).length:Int)=(p.length:Int)+1:=by simp
   have w2:(p++[x]).length=p.length+1:=by simp
   rw[acW,zd]
   cases hc:Op.bytesLess x.1.name.toList s.toList with
   | true =>
     have cmp:bH .geq (.str x.1.name) (.str s)=some (.bool false):=by
      show some (AV.bool (!(Op.bytesLess x.1.name.toList s.toList)))=_
      rw[hc];rfl
     have step:aP (aV AP.A) bL AP.f208L0 (aC [(1,.str s),(2,.aH b 0),(6,.int .i64 p.length)] [1,2,6]) h=some (.normal,[(1,.str s),(2,.aH b 0),(6,.int .i64 ((p.length:Int)+1))],h):=by
      clear rd a1 a2 pe f2 hp b2
      simp (disch:=omega)only[go_sem,yH,AP.f208L0,hb,ln,b1,f1,l0,cmp]
     rw[if_pos rfl]
     rcases O9 s hl h b hb rd q (p++[x]) (by rw[hp];simp)with ⟨e',r1,r2,r3⟩|⟨e',r1,r2,r3⟩
     · rw[w1]at r1
       exact .inl ⟨e',vX step r1,r2,by rw[r3];simp⟩
     · rw[w1]at r1
       refine .inr ⟨e',vX step r1,by rw[r2,w2];congr 2;omega,r3⟩
   | false =>
     have cmp:bH .geq (.str x.1.name) (.str s)=some (.bool true):=by
      show some (AV.bool (!(Op.bytesLess x.1.name.toList s.toList)))=_
      rw[hc];rfl
     have cm2:bH .eql (.str x.1.name) (.str s)=some (.bool (x.1.name.toList==s.toList)):=rfl
     rw[if_neg (by decide)]
     refine .inr ⟨[(4,.int .i64 p.length),(5,.bool (x.1.name.toList==s.toList))],wD ?_,rfl,rfl⟩
     clear rd a1 a2 pe f2 hp b2
     simp (disch:=omega)only[go_sem,yH,AP.f208L0,hb,ln,b1,f1,l0,cmp,cm2]
theorem TY (h:H) (v:AV) (l:List zq) (s:ByteArray) (hvs:v.sc=true) (hn:l.length<1125899906842624) (rd:zZ 9 h v l.length (yR l)):aV AP.A 208 [.agg [v],.str s] h=some (.cf [.int .i64 (zd s (l.map (·.1))).1,.bool (zd s (l.map (·.1))).2],h):=by
 obtain⟨h1,eh1⟩:∃g,g=h.eV.alloc [v]:=⟨_,rfl⟩
 have hx0:Ext h h1:=by rw[eh1];exact fun i c q=>((Ext.refl h.eV).alloc _) i c q
 have hn0:h.eV.next=h.next:=rfl
 have g1:h1.get h.next=some [v]:=by rw[eh1];exact yG rfl
 have Aq:=rd.mono fun i c q=>hx0 i c q
 have ln:=Aq.len
 rcases O9 s hn h1 h.next g1 Aq l [] rfl with ⟨e',r1,r2,r3⟩|⟨e',r1,r2,r3⟩
 · have r1':Lp AP.A [1,2,6] AP.f208L0 [(1,.str s),(2,.aH h.next 0),(6,.int .i64 0)] h1=some (.exit 0,e',h1):=r1
   rw[r3]
   refine wN (fn:=AP.f208) (h2:=h1) (e:=[(4,.int .i64 l.length),(5,.bool false)]) (vs:=[.int .i64 l.length,.bool false]) rfl rfl rfl ?_ rfl rfl
   clear rd Aq hx0 r1 r3
   simp (disch:=omega)only[go_sem,yH,AP.f208,hvs,hn0,←eh1,g1,ln,u9,r1',r2]
 · have r1':Lp AP.A [1,2,6] AP.f208L0 [(1,.str s),(2,.aH h.next 0),(6,.int .i64 0)] h1=some (.ret,e',h1):=r1
   rw[show([]:List zq).length+(zd s (l.map (·.1))).1=(zd s (l.map (·.1))).1 by simp]at r2
   generalize zd s (l.map (·.1))=P at *
   refine wN (fn:=AP.f208) (h2:=h1) (e:=e') (vs:=[.int .i64 P.1,.bool P.2]) rfl rfl rfl ?_ (by simp only[AP.f208,dh,pB,r2,r3];rfl) rfl
   clear rd Aq hx0 r1 r2 r3
   simp (disch:=omega)only[go_sem,yH,AP.f208,hvs,hn0,←eh1,g1,ln,u9,r1']
def BQ (l:List Int) (k:Nat):List Int:=l.set k (l.getD k 0+1)
theorem Ki (l:List Int) (k:Nat):(BQ l k).length=l.length:=by simp [BQ]
theorem Pn (h:H) (v:AV) (l:List Int) (rd:Rd h v (ints l)) (hl:Ek l=true) (node:Nat) (hn:node<4):
 aV AP.A 214 [v,.int .i64 node] h=some (if l.getD node 0=1048576 then .cf [.aT,.int .i64 1101]else .cf [zj (BQ l node),.int .i64 0],h):=by
 have hl':=hl
 simp only[Ek,zU,xR,ac6,adp]at hl'
 obtain⟨l4,lc⟩:=hl'
 have rdf:Rd h.eV v (ints l):=rd.mono fun i c q=>q
 have k1:=SH h.eV v l rdf (by omega)
 rw[hl]at k1
 obtain⟨x,hx⟩:∃x,l[node]?=some x:=⟨l[node]'(by omega),by simp⟩
 have gd:l.getD node 0=x:=by rw[acM,hx];rfl
 obtain⟨c1,c2⟩:=lc x (xV hx)
 obtain⟨ad,a1,a2⟩:=rdf.zL
 have b1:=a1 node ⟨by omega,by omega⟩
 have b2:=a2 h.eV (Ext.refl _) node x hx
 have n0:h.eV.next=h.next:=rfl
 have pI:(node:Int)<4:=by omega
 have pJ:¬(node:Int)<0:=by omega
 rw[gd]
 by_cases c:x=1048576
 · rw[if_pos c]
   subst c
   refine wN (fn:=AP.f214) (h2:=h.eV) (e:=[(4,.aT),(5,.int .i64 1101)]) (vs:=[.aT,.int .i64 1101]) rfl rfl rfl ?_ rfl rfl
   clear rd rdf a1 a2 lc hl
   simp (disch:=omega)only[go_sem,yH,AP.f214,k1,b1,b2]
 · rw[if_neg c]
   have r2:=rdf.T8
   rw[rY,l4]at r2
   have ap:=En r2 (xQ _) (by omega) (by omega) (z:=8) (by simp [roomy]) (DL l)
   obtain⟨g2,eg2⟩:∃g,g=((h.eV.alloc []).del h.eV.next).alloc (ints l):=⟨_,rfl⟩
   rw[←eg2,n0]at ap
   have zv:g2.get (h.next+1)=some (ints l):=by rw[eg2,yG (by simp)]
   have f2:g2.floor=h.next:=by rw[eg2];simp
   have ix:(ints l)[node]?=some (.int .i64 x):=vG hx
   have st0:(ints l).set node (.int .i64 (x+1))=ints (BQ l node):=by unfold BQ;rw[gd];simp [ints,I,List.map_set]
   obtain⟨g3,eg3⟩:∃g,g=g2.set (h.next+1) (ints (BQ l node)):=⟨_,rfl⟩
   have st:wP g2 (h.next+1) node 1 [.int .i64 (x+1)] (some (ints l))=some g3:=by rw[xm (by omega) (by rw[rY];omega) rfl,st0,eg3]
   have z3:g3.get (h.next+1)=some (ints (BQ l node)):=by rw[eg3,yM rfl,zv];rfl
   have il:=rY l
   have sl:=Ki l node
   refine wN (fn:=AP.f214) (h2:=g3) (e:=[(4,.aI (h.next+1) 0 4 1),(5,.int .i64 0)]) (vs:=[.aI (h.next+1) 0 4 1,.int .i64 0]) rfl rfl rfl ?_ rfl ?_
   · clear rd rdf a1 a2 lc hl r2 st0 z3 eg3 eg2 gd hx
     generalize ints l=IL at *
     generalize ints (BQ l node)=IM at *
     have nn:h.eV.next=h.next:=rfl
     simp (disch:=omega)only[go_sem,yH,AP.f214,k1,b1,b2,ap,nn,zv,ix,st]
   · have o:yS 1 g3 (.aI (h.next+1) 0 4 1) 4 (ints (BQ l node)):=⟨by rw[rY];omega,.inr ⟨_,rfl,z3,by rw[eg3];simp [f2],by omega⟩⟩
     have s:=o.Ap (fl:=h.next) (m:=13) (t:=true) (by rw[eg3];simp [f2])
     have e:CD 1 4 (ints (BQ l node))=zj (BQ l node):=by unfold CD zj;rw[sl,l4];rfl
     rw[e]at s
     show(gV (snap g3.get h.next 15 true) [.aI (h.next+1) 0 4 1,.int .i64 0]).bind _=_
     simp only[gV,s,xM]
     rfl
def Fu (o:Option zu):List Int:=match o with|some e=>e.vec|none=>[0,0,0,0]
def GV (o:Option zu):Int:=match o with|some e=>e.y0|none=>0
def Ba (o:Option zu) (node:Nat):Bool:=decide (GV o=1048576)||decide ((Fu o).getD node 0=1048576)
def A6 (o:Option zu) (node:Nat) (name:ByteArray):zu:=⟨name,false,BQ (Fu o) node,GV o+1,node,0,⟨#[]⟩,0,0⟩
theorem SP (h : H) (e : zu) (v : AV) (hv : v.sc = true) (ok : BU h (e, v)) (hh : zD e = true) (node : Nat) (hn : node < 4) (name : ByteArray) :
 aV AP.A 209 [.agg (yO e v),.bool true,.int .i64 node,.str name] h=some (if Ba (some e) node then .cf [.agg Z9,.int .i64 1605]else .cf [.agg (yO (A6 (some e) node name) (zj (A6 (some e) node name).vec)),.int .i64 0],h):=by
 obtain⟨l4,lc,sc,_⟩:=Ac hh
 obtain⟨h1,eh1⟩:∃g,g=h.eV.alloc (yO e v):=⟨_,rfl⟩
 obtain⟨h2,eh2⟩:∃g,g=h1.alloc Z9:=⟨_,rfl⟩
 obtain⟨h3,eh3⟩:∃g,g=h2.alloc (ints [0,0,0,0]):=⟨_,rfl⟩
 have n0:h.eV.next=h.next:=rfl
 have n1:h1.next=h.next+1:=by rw[eh1];simp
 have n2:h2.next=h.next+2:=by rw[eh2];simp [n1]
 have n3:h3.next=h.next+3:=by rw[eh3];simp [n2]
 have f3:h3.floor=h.next:=by rw[eh3,eh2,eh1];simp
 have x3:Ext h h3:=fun i c q=>by rw[eh3,eh2,eh1];exact((((Ext.refl h.eV).alloc _).alloc _).alloc _) i c q
 have g0:h3.get h.next=some (yO e v):=by rw[eh3,yN (by omega),eh2,yN (by omega),eh1,yG (by simp)]
 have g1:h3.get (h.next+1)=some Z9:=by rw[eh3,yN (by omega),eh2,yG (by omega)]
 have hvec:Ek e.vec=true:=by
  unfold zD at hh;rw[xR]at hh;exact hh.1
 have k1:=Pn h3 v e.vec (ok.vec.mono fun i c q=>x3 i c q) hvec node hn
 have c2:(yO e v)[2]?=some v:=rfl
 have c3:(yO e v)[3]?=some (.int .i64 e.y0):=rfl
 have e1:h.eV.alloc (yO e v)=h1:=eh1.symm
 have e2:h1.alloc [.str ⟨#[]⟩,.bool false,.aT,.int .i64 0,.int .i64 0,.int .i64 0,.str ⟨#[]⟩,.int .i64 0,.int .i64 0]=h2:=eh2.symm
 have e3:h2.alloc (A3 4 [.int .i64 0])=h3:=eh3.symm
 have lE:(yO e v).length=9:=rfl
 have sE:AV.aG (yO e v)=true:=by simp [yO,hv]
 have full:Ba (some e) node=(decide (e.y0=1048576)||decide (e.vec.getD node 0=1048576)):=rfl
 rw[full]
 by_cases d1:e.y0=1048576
 · rw[dt d1,Bool.true_or,if_pos rfl]
   obtain⟨h4,eh4⟩:∃g,g=h3.set (h.next+1) Z9:=⟨_,rfl⟩
   have st:wP h3 (h.next+1) 0 9 [.str ⟨#[]⟩,.bool false,.aT,.int .i64 0,.int .i64 0,.int .i64 0,.str ⟨#[]⟩,.int .i64 0,.int .i64 0] (some Z9)=some h4:=by rw[eh4];exact Aj (by omega) rfl rfl rfl
   have z4:h4.get (h.next+1)=some Z9:=by rw[eh4,yM rfl,g1];rfl
   refine wN (fn:=AP.f209) (h2:=h4) (e:=[(8,.aH (h.next+1) 0),(9,.int .i64 1605)]) (vs:=[.agg Z9,.int .i64 1605]) rfl rfl rfl ?_ (by simp only[AP.f209,dh,pB,oW,nu,tR,z4,vR];rfl) rfl
   clear k1 ok hvec lc x3 z4 eh4
   rw[d1]at c3
   generalize yO e v=E at *
   simp (disch:=omega)only[go_sem,yH,AP.f209,n0,lE,sE,e1,n1,e2,n2,e3,g0,c2,c3,g1,st]
 · rw [df d1, Bool.false_or]
   by_cases d2:e.vec.getD node 0=1048576
   · rw[dt d2,if_pos rfl]
     rw[if_pos d2]at k1
     obtain⟨h4,eh4⟩:∃g,g=h3.set (h.next+1) Z9:=⟨_,rfl⟩
     have st:wP h3 (h.next+1) 0 9 [.str ⟨#[]⟩,.bool false,.aT,.int .i64 0,.int .i64 0,.int .i64 0,.str ⟨#[]⟩,.int .i64 0,.int .i64 0] (some Z9)=some h4:=by rw[eh4];exact Aj (by omega) rfl rfl rfl
     have z4:h4.get (h.next+1)=some Z9:=by rw[eh4,yM rfl,g1];rfl
     refine wN (fn:=AP.f209) (h2:=h4) (e:=[(8,.aH (h.next+1) 0),(9,.int .i64 1605)]) (vs:=[.agg Z9,.int .i64 1605]) rfl rfl rfl ?_ (by simp only[AP.f209,dh,pB,oW,nu,tR,z4,vR];rfl) rfl
     clear ok hvec lc x3 z4 eh4
     generalize yO e v=E at *
     generalize e.y0=S at *
     simp (disch:=omega)only[go_sem,yH,AP.f209,n0,lE,sE,e1,n1,e2,n2,e3,g0,c2,c3,k1,g1,st]
   · rw[df d2,if_neg (by decide)]
     rw[if_neg d2]at k1
     obtain⟨W,hW⟩:∃W,W=yO (A6 (some e) node name) (zj (A6 (some e) node name).vec):=⟨_,rfl⟩
     rw[←hW]
     have hW':W=[.str name,.bool false,zj (BQ e.vec node),.int .i64 (e.y0+1),.int .i64 node,.int .i64 0,.str ⟨#[]⟩,.int .i64 0,.int .i64 0]:=hW
     obtain⟨V,hV⟩:∃V,V=zj (BQ e.vec node):=⟨_,rfl⟩
     rw[←hV]at k1 hW'
     have sV:V.sc=true:=by rw[hV];rfl
     have cV:=A4 sV
     obtain⟨W0,hW0⟩:∃W0,W0=[.str name,.bool false,V,.int .i64 1,.int .i64 node,.int .i64 0,.str ⟨#[]⟩,.int .i64 0,.int .i64 0]:=⟨_,rfl⟩
     have sW0:AV.aG W0=true:=by rw[hW0];simp [sV]
     have sW:AV.aG W=true:=by rw[hW'];simp [sV]
     obtain⟨h4,eh4⟩:∃g,g=h3.alloc Z9:=⟨_,rfl⟩
     obtain⟨h5,eh5⟩:∃g,g=h4.set (h.next+3) W0:=⟨_,rfl⟩
     obtain⟨h6,eh6⟩:∃g,g=h5.set (h.next+3) W:=⟨_,rfl⟩
     obtain⟨h7,eh7⟩:∃g,g=h6.set (h.next+1) W:=⟨_,rfl⟩
     have f4:h4.floor=h.next:=by rw[eh4];simp [f3]
     have z4:h4.get (h.next+3)=some Z9:=by rw[eh4,yG (by omega)]
     have z5:h5.get (h.next+3)=some W0:=by rw[eh5,yM rfl,z4];rfl
     have z6:h6.get (h.next+3)=some W:=by rw[eh6,yM rfl,z5];rfl
     have y6:h6.get (h.next+1)=some Z9:=by rw[eh6,yE (by omega),eh5,yE (by omega),eh4,yN (by omega)];exact g1
     have y5:h5.get h.next=some (yO e v):=by rw[eh5,yE (by omega),eh4,yN (by omega)];exact g0
     have z7:h7.get (h.next+1)=some W:=by rw[eh7,yM rfl,y6];rfl
     have e4:h3.alloc [.str ⟨#[]⟩,.bool false,.aT,.int .i64 0,.int .i64 0,.int .i64 0,.str ⟨#[]⟩,.int .i64 0,.int .i64 0]=h4:=eh4.symm
     have lW0:W0.length=9:=by rw[hW0];rfl
     have lW:W.length=9:=by rw[hW'];rfl
     have st5:wP h4 (h.next+3) 0 9 W0 (some Z9)=some h5:=by rw[eh5];exact Aj (by omega) lW0 rfl sW0
     have st6:wP h5 (h.next+3) 3 1 [.int .i64 (e.y0+1)] (some W0)=some h6:=by
      rw[xm (by rw[eh5];simp [f4]) (by omega) rfl,eh6,hW',hW0];rfl
     have rdW:jg true 9 W 0=some (.agg W):=by rw[hW'];rfl
     have st7:wP h6 (h.next+1) 0 9 W (some Z9)=some h7:=by rw[eh7];exact Aj (by rw[eh6,eh5];simp [f4]) lW rfl sW
     refine wN (fn:=AP.f209) (h2:=h7) (e:=[(8,.aH (h.next+1) 0),(9,.int .i64 0)]) (vs:=[.agg W,.int .i64 0]) rfl rfl rfl ?_ (by simp only[AP.f209,dh,pB,oW,nu,tR,z7,vR,rdW];rfl) (by rw[hW];rfl)
     clear ok hvec lc x3 hW hW' z7 eh7 eh6 eh5 eh4 hV
     rw[hW0]at st5
     generalize yO e v=E at *
     generalize e.y0=S at *
     simp (disch:=omega)only[go_sem,yH,AP.f209,n0,lE,sE,e1,n1,e2,n2,e3,n3,g0,c2,c3,k1,cV,sV,e4,z4,st5,y5,z5,st6,z6,rdW,y6,st7]
theorem wb' {n:Nat} (h:n<256):IntKind.wrap .u8 (n:Int)=n:=wb (by omega)
theorem Uj {a n:Nat} (hn:0<n):bH .rem (.int .i64 ((a:Nat):Int)) (.int .i64 (n:Int))=some (.int .i64 ((a%n:Nat):Int)):=by
 show(if(n:Int)=0 then none else some (AV.int .i64 ((a:Int).tmod n)))=_
 rw[if_neg (by omega),Int.tmod_eq_emod_of_nonneg (by omega)];rfl
theorem Fg:∀(l cs:List AV) (off:Nat),off+l.length≤cs.length→setFrom cs off l=cs.take off++(l++cs.drop (off+l.length))
 |[],cs,off,h=>by simp [setFrom]
 | v :: l, cs, off, h => by
   rw[acN]at h
   rw[setFrom,Fg l (cs.set off v) (off+1) (by rw[ac0];omega)]
   rw[List.take_set,List.drop_set_of_lt (by omega),acN,show off+1+l.length=off+(l.length+1)by omega]
   rw[List.take_succ_eq_append_getElem (by omega),List.set_append_right _ _ (by simp;omega)]
   simp [show min off cs.length=off by omega]
abbrev cE (e:zu) (v:AV) (n:ByteArray) (s:Int):List AV:=[.str n,.bool e.gone,v,.int .i64 s,.int .i64 e.node,.int .i64 e.method,.str e.packed,.int .i64 e.size,.int .i64 e.DZ]
def zO (bs:List Nat):List Nat:=BD bs 0 []
theorem Iy:∀(a b:List Nat) (i:Nat) (out:List Nat),BD (a++b) i out=BD b (i+a.length) (BD a i out)
 |[],b,i,out=>rfl
 | x :: a, b, i, out => by
   show BD (a++b) (i+1) (AE out i x)=_
   rw[Iy a b]
   show BD b (i+1+a.length) _=BD b (i+(a.length+1)) _
   rw[show i+1+a.length=i+(a.length+1)by omega];rfl
theorem Qk (bs:List Nat) (b:Nat):zO (bs++[b])=AE (zO bs) bs.length b:=by
 unfold zO;rw[Iy,xW];rfl
theorem ED (bs:List Nat):(zO bs).length=(bs.length+7)/8:=by
 have:∀(l:List Nat) (i:Nat) (out:List Nat),out.length=(i+7)/8→(BD l i out).length=(i+l.length+7)/8:=by
  intro l
  induction l with
  |nil=>intro i out h;exact h
  |cons x l ih=>intro i out h;rw[BD,ih (i+1) _ (by rw[Hb h]),acN];congr 1;omega
 have:=this bs 0 [] rfl
 rw[zO,this,xW]
structure Wr (h:H) (w:Nat) (bs:List Nat) (ov:AV):Prop where
 get:h.get w=some [ov,.int .i64 (bs.length:Nat)]
 own:yS 1 h ov (zO bs).length (Bt (zO bs))
 fl:h.floor≤w
 QG:h.floor≤h.next
 ne:ov.id?≠some w
 Uv:Oe (zO bs)
structure Lh (h:H) (w:Nat) (ov:AV) (h':H) (ov':AV):Prop where
 floor:h'.floor=h.floor
 next:h.next≤h'.next
 Ad:∀i,i<h.next→i≠w→ov.id?≠some i→h'.get i=h.get i
 ids:∀j,ov'.id?=some j→ov.id?=some j∨h.next≤j
theorem Lh.refl (h:H) (w:Nat) (ov:AV):Lh h w ov h ov:=⟨rfl,xQ _,fun _ _ _ _=>rfl,fun _ h=>.inl h⟩
theorem Lh.trans {h1 h2 h3:H} {w:Nat} {o1 o2 o3:AV} (a:Lh h1 w o1 h2 o2) (b:Lh h2 w o2 h3 o3):Lh h1 w o1 h3 o3:=
 ⟨by rw [b.floor, a.floor], yw a.next b.next, fun i h hw ho => by
   rw[b.Ad i (by have:=a.next;omega) hw (fun q=>by rcases a.ids i q with q|q;exact ho q;omega),a.Ad i h hw ho],
  fun j h=>by
   rcases b.ids j h with q|q
   · exact a.ids j q
   · exact .inr (yw a.next q)⟩
theorem Uf {b k:Nat} (hb:b≤1) (hk:k<8):rF .shl .i64 (b:Int) ((k:Nat):Int)=some (.int .i64 ((b* 2^k:Nat):Int)):=by
 unfold rF
 rw[if_neg (by omega)]
 simp only[IntKind.bits,adq,show min k 64=k by omega]
 have h1:2^k≤2^7:=acX (by omega) (by omega)
 have h2:b* 2^k≤1* 2^7:=adA hb h1
 have:(b:Int)* 2^k=((b* 2^k:Nat):Int):=by rw[Int.natCast_mul,Int.natCast_pow];rfl
 rw[this,wi (by omega)]
theorem YW {l:List Nat} {i x:Nat} (h:l[i]?=some x):(Bt l)[i]?=some (.int .u8 (x:Int)):=by simp [Bt,h]
theorem abO (l:List Nat) (i x:Nat):(Bt l).set i (.int .u8 (x:Int))=Bt (l.set i x):=by simp [Bt,List.map_set]
theorem YX (l:List Nat):(Bt l).length=l.length:=by simp [Bt]
theorem RU {g:H} {w id n b:Nat} {P:List Nat} {x:Nat} (hb:b≤1) (hw:g.get w=some [.aI id 0 (n/8+1) 1,.int .i64 n]) (hi:g.get id=some (Bt P)) (hl:P.length=n/8+1) (hx:P[n/8]?=some x) (hx8:x<256) (hne:id≠w) (hf:g.floor≤w) (hf2:g.floor≤id) (hn:n<1000000):
 ∃e',aP (aV AP.A) bL (QJ 1 AP.f57.body) [(0,.aH w 0),(1,.int .i64 b)] g=some (.normal,e',(g.set id (Bt (P.set (n/8) (x|||b* 2^(n%8))))).set w [.aI id 0 (n/8+1) 1,.int .i64 ((n:Int)+1)]):=by
 have c8:b* 2^(n%8)<256:=by
  have h1:2^(n%8)≤2^7:=acX (by omega) (by omega)
  have h2:b* 2^(n%8)≤1* 2^7:=adA hb h1
  omega
 have s1:=Uf hb (show n%8<8 by omega)
 have o1:=QY hx8 c8
 have w1:=wb' (n:=b* 2^(n%8)) c8
 have rm:=Uj (a:=n) (n:=8) (by omega)
 have rm':bH .rem (.int .i64 (n:Int)) (.int .i64 8)=some (.int .i64 ((n%8:Nat):Int)):=rm
 have w2:IntKind.wrap .i64 (((n/8+1:Nat):Int)-1)=((n/8:Nat):Int):=by rw[wi (by omega)];omega
 have bl:=YX P
 have gx:=YW hx
 have st:=abO P (n/8) (x|||b* 2^(n%8))
 have sgn:((n/8:Nat):Int).toNat=n/8:=by omega
 have gw2:(g.set id (Bt (P.set (n/8) (x|||b* 2^(n%8))))).get w=some [.aI id 0 (n/8+1) 1,.int .i64 n]:=by rw[yE (fun q=>hne q.symm),hw]
 generalize Bt P=BP at *
 generalize b* 2^(n%8)=Y at *
 generalize (x|||Y)=Z at *
 generalize Bt (P.set (n/8) Z)=BZ at *
 refine⟨?_, ?_⟩
 rotate_left
 simp (disch:=first|omega|(simp only[zX,acN,acP,xW,Nat.reduceAdd];first|done|omega|fail)|(simp (disch:=first|omega|(simp only[zX,acN,acP,xW,Nat.reduceAdd];first|done|omega|fail)|fail)only[zX,ES,acR,acN,acP,xW,Nat.reduceAdd];done)|fail)only[go_sem,yH,Fl,AP.f57,hw,hi,s1,o1,w1,rm',w2,bl,hl,gx,st,sgn,gw2]
 rfl
theorem HM (P:List Nat) (x:Nat):Bt (P++[x])=Bt P++[.int .u8 (x:Int)]:=by simp [Bt]
theorem RT {h : H} {w b : Nat} {bs : List Nat} {ov : AV} (wr : Wr h w bs ov) (hb : b ≤ 1) (hn : bs.length < 1000000) :
 ∃h' ov',aV AP.A 57 [.aH w 0,.int .i64 b] h=some (.cf [],h')∧Wr h' w (bs++[b]) ov'∧Lh h w ov h' ov':=by
 obtain⟨gw,ow,fl,QG,ne,Uv⟩:=wr
 obtain⟨n,en⟩:∃n,n=bs.length:=⟨_,rfl⟩
 rw[←en]at gw hn
 have pl:=ED bs
 rw[←en]at pl
 have pa:=Qk bs b
 rw[←en]at pa
 obtain⟨P,eP⟩:∃P,P=zO bs:=⟨_,rfl⟩
 rw[←eP]at ow Uv pa pl
 have wlt:=h.lt _ _ gw
 obtain ⟨g, ov', id, P', x, s1, hw, hi, hl, hx, hid, hne, hf, hf2, hflx, hP, hk, hx8, hids, hbt⟩ : ∃ g ov' id P' x, aP (aV AP.A) bL (at_ 0 AP.f57.body) [(0, .aH w 0), (1, .int .i64 b)] h = some (.normal, [(0, .aH w 0), (1, .int .i64 b)], g) ∧ g.get w = some [.aI id 0 (n / 8 + 1) 1, .int .i64 n] ∧ g.get id = some (Bt P') ∧ P'.length = n / 8 + 1 ∧ P'[n / 8]? = some x ∧ ov' = AV.aI id 0 (n / 8 + 1) 1 ∧ id ≠ w ∧ g.floor = h.floor ∧ h.floor ≤ id ∧ h.next ≤ g.next ∧ AE P n b = P'.set (n / 8) (x ||| b * 2 ^ (n % 8)) ∧ (∀ i, i < h.next → i ≠ w → ov.id? ≠ some i → g.get i = h.get i) ∧ x < 256 ∧ (ov.id? = some id ∨ h.next ≤ id) ∧ Oe P' := by
  have rm:bH .rem (.int .i64 (n:Int)) (.int .i64 8)=some (.int .i64 ((n%8:Nat):Int)):=Uj (a:=n) (n:=8) (by omega)
  by_cases c:n%8=0
  · have cz:((n%8:Nat):Int)=0:=by omega
    obtain⟨v',h',p1,p2,p3,p4,p5,p6⟩:=ow.push QG (z:=1) (m:=1) (by omega) (by omega) [.int .u8 0] rfl rfl (A9 (by omega))
    have gw1:h'.get w=some [ov,.int .i64 n]:=by rw[p5 w ne wlt,gw]
    have e1:=p2.1
    rcases p2.2 with ⟨_,q⟩|⟨id,q1,q2,q3,q4⟩
    · omega
    · have hk:P.length+1=n/8+1:=by omega
      rw[hk]at q1
      have qid:id=h.next+1:=by rw[q1]at p6;exact xF p6
      refine⟨h'.set w [v',.int .i64 n],v',id,P++[0],0, ?_, ?_, ?_, ?_, ?_,q1,by omega,by simp [p3],by omega, ?_, ?_, ?_,by omega,.inr (by omega), ?_⟩
      · rw[q1]
        rw[q1]at p1
        have fl':h'.floor≤w:=by omega
        simp (disch:=omega)only[go_sem,yH,AP.f57,Ar,gw,gw1,rm,cz,p1,fl',yM,yE]
      · rw[yM rfl,gw1,q1];rfl
      · rw[yE (by omega),q2,HM];rfl
      · simp;omega
      · rw[ac4 (by omega),show n/8-P.length=0 by omega];rfl
      · simp;omega
      · unfold AE;rw[if_pos c];dsimp only;rw[acM,ac4 (by omega),show n/8-P.length=0 by omega];rfl
      · intro i hi hiw hio
        rw[yE hiw,p5 i hio hi]
      · intro y hy
        rcases ac9.1 hy with q|q
        · exact Uv y q
        · simp at q;omega
  · have cz:¬((n%8:Nat):Int)=0:=by omega
    rcases ow.2 with ⟨_,q⟩|⟨id,q1,q2,q3,q4⟩
    · omega
    · have hk:P.length=n/8+1:=by omega
      rw[hk]at q1
      obtain⟨x,hx⟩:∃x,P[n/8]?=some x:=⟨_,acQ (by omega)⟩
      have hneq:id≠w:=fun q=>ne (by rw[q1,q];rfl)
      refine⟨h,ov,id,P,x, ?_,by rw[gw,q1],q2,hk,hx,q1,hneq,rfl,q3,xQ _, ?_,fun _ _ _ _=>rfl,Uv x (xV hx),.inl (by rw[q1];rfl),Uv⟩
      · simp (disch:=first|omega|(simp only[zX,acN,acP,xW,Nat.reduceAdd];first|done|omega|fail)|(simp (disch:=first|omega|(simp only[zX,acN,acP,xW,Nat.reduceAdd];first|done|omega|fail)|fail)only[zX,ES,acR,acN,acP,xW,Nat.reduceAdd];done)|fail)only[go_sem,yH,Fl,AP.f57,gw,rm,cz]
      · unfold AE;rw[if_neg c];dsimp only;rw[acM,hx];rfl
 obtain⟨e',s2⟩:=RU hb hw hi hl hx hx8 hne (by omega) (by omega) hn
 have cs:aV AP.A 57 [.aH w 0,.int .i64 b] h=some (.cf [],(g.set id (Bt (P'.set (n/8) (x|||b* 2^(n%8))))).set w [.aI id 0 (n/8+1) 1,.int .i64 ((n:Int)+1)]):=by
  refine zr (fn:=AP.f57) (e:=e') (vs:=[]) rfl rfl rfl ?_ rfl
  have hb:AP.f57.body=.seq (at_ 0 AP.f57.body) (QJ 1 AP.f57.body):=rfl
  rw[hb,uT]
  have s1':aP (aV AP.A) bL (at_ 0 AP.f57.body) (params 0 [.aH w 0,.int .i64 b]) h=some (.normal,[(0,.aH w 0),(1,.int .i64 b)],g):=s1
  rw[s1',vB,s2]
 rw[←hP]at cs
 have ol:(AE P n b).length=n/8+1:=by rw[hP,ac0,hl]
 refine⟨_,ov',cs,⟨?_, ?_, ?_, ?_, ?_, ?_⟩, ?_, ?_, ?_, ?_⟩
 · rw[yM rfl,yE hne.symm,hw,hid,yy,←en];rfl
 · rw[pa,hid]
   exact⟨by simp [Bt,ol],.inr ⟨id,by rw[ol],by rw[yE hne,yM rfl,hi];rfl,by simpa [hf]using hf2,by omega⟩⟩
 · simpa [hf]using fl
 · simp;omega
 · rw[hid];exact fun q=>hne (xF q)
 · rw[pa];exact Ha hb Uv
 · simp [hf]
 · simpa using hflx
 · intro i hi1 hi2 hi3
   have:i≠id:=by
    rcases hids with q|q
    · intro q2;exact hi3 (by rw[q,q2])
    · omega
   rw[yE hi2,yE this,hk i hi1 hi2 hi3]
 · intro j hj
   rw[hid]at hj
   obtain rfl:=xF hj
   exact hids
def ID (v:Nat):Nat→Nat→List Nat
 |_,0=>[]
 |i,m+1=>v/2^i%2::ID v (i+1) m
def zf (v n:Nat):List Nat:=ID v 0 n
def CK (v:Nat):Nat→List Nat
 |0=>[]
 |m+1=>v/2^m%2::CK v m
theorem zy (v:Nat):∀m i,(ID v i m).length=m
 |0,_=>rfl
 |m+1,i=>by simp [ID,zy v m]
theorem zN (v:Nat):∀m,(CK v m).length=m
 |0=>rfl
 |m+1=>by simp [CK,zN v m]
theorem Lj {n:Nat} (h:n<1000000000):bits .and .i64 (n:Int) 1=((n%2:Nat):Int):=by
 have:=Jn (n:Int) 1 (by omega)
 exact this.trans (by omega)
theorem Kw (w v n:Nat) (hv:v<65536) (hn:n≤16):∀(m i:Nat) (h:H) (bs:List Nat) (ov:AV),i+m=n→Wr h w bs ov→bs.length+m<1000000→
 ∃e' h' ov',Lp AP.A [0,1,2,7] AP.f33L0 [(0,.aH w 0),(1,.int .i64 v),(2,.int .i64 n),(7,.int .i64 i)] h=some (.exit 0,e',h')∧Wr h' w (bs++ID v i m) ov'∧Lh h w ov h' ov'
 | 0, i, h, bs, ov, hi, wr, hb => by
   obtain rfl:i=n:=by omega
   refine⟨[(0,.aH w 0),(1,.int .i64 v),(2,.int .i64 i),(7,.int .i64 i),(35,.bool false)],h,ov,vW ?_,by simpa [ID]using wr,Lh.refl h w ov⟩
   simp (disch:=omega)only[go_sem,yH,AP.f33L0]
 | m + 1, i, h, bs, ov, hi, wr, hb => by
   have q:=Nat.div_le_self v (2^i)
   obtain⟨h1,o1,k1,wr1,f1⟩:=RT wr (b:=v/2^i%2) (by omega) (by omega)
   obtain⟨e',h',ov',r1,r2,r3⟩:=Kw w v n hv hn m (i+1) h1 _ o1 (by omega) wr1 (by simp;omega)
   have n1:((i+1:Nat):Int)=(i:Int)+1:=by omega
   have s1:=IX (a:=v) (s:=i) (by omega)
   have a1:=Lj (n:=v/2^i) (by omega)
   rw[acY]at r2
   refine⟨e',h',ov',vX ?_ r1,r2,f1.trans r3⟩
   rw[n1]
   simp (disch:=omega)only[go_sem,yH,AP.f33L0,s1,a1,k1]
theorem CU {h:H} {w:Nat} {bs:List Nat} {ov:AV} (wr:Wr h w bs ov) (v n:Nat) (hn:n≤16) (hv:v<2^n) (hb:bs.length+n≤65536):
 ∃h' ov',aV AP.A 33 [.aH w 0,.int .i64 v,.int .i64 n] h=some (.int .i64 0,h')∧Wr h' w (bs++zf v n) ov'∧Lh h w ov h' ov':=by
 have hp:2^n≤2^16:=acX (by omega) hn
 obtain⟨e',h',ov',r1,r2,r3⟩:=Kw w v n (by omega) hn n 0 h bs ov (by omega) wr (by omega)
 have r1':Lp AP.A [0,1,2,7] AP.f33L0 [(0,.aH w 0),(1,.int .i64 v),(2,.int .i64 n),(7,.int .i64 0)] h=some (.exit 0,e',h'):=r1
 clear r1
 have gw:=wr.get
 have s1:rF .shl .i64 1 (n:Int)=some (.int .i64 ((2^n:Nat):Int)):=by
  have:=Bq (a:=1) (s:=n) (by omega) (by omega)
  rwa [Nat.one_mul]at this
 refine⟨h',ov',wo (fn:=AP.f33) (e:=[(6,.int .i64 0)]) (vs:=[.int .i64 0]) rfl rfl rfl ?_ rfl,r2,r3⟩
 generalize 2^n=N at *
 simp (disch:=omega)only[go_sem,yH,AP.f33,u9,r1',gw,s1]
theorem Jf (w v:Nat) (A:List AV) (hA:A[1]?=some (.int .i64 v)) (hA2:A.length=2) (c:Nat) (hv:v<65536):∀(m:Nat) (h:H) (bs:List Nat) (ov:AV),m≤15→Wr h w bs ov→bs.length+m<1000000→h.get c=some A→c≠w→ov.id?≠some c→
 ∃e' h' ov',Lp AP.A [0,3,5] AP.f35L0 [(0,.aH w 0),(3,.aH c 0),(5,.int .i64 ((m:Int)-1))] h=some (.exit 0,e',h')∧Wr h' w (bs++CK v m) ov'∧Lh h w ov h' ov'
 | 0, h, bs, ov, hm, wr, hb, hc, hcw, hco => by
   refine⟨[(0,.aH w 0),(3,.aH c 0),(5,.int .i64 (-1)),(41,.bool false)],h,ov,vW ?_,by simpa [CK]using wr,Lh.refl h w ov⟩
   simp (disch:=omega)only[go_sem,yH,AP.f35L0]
 | m + 1, h, bs, ov, hm, wr, hb, hc, hcw, hco => by
   have q:=Nat.div_le_self v (2^m)
   obtain⟨h1,o1,k1,wr1,f1⟩:=RT wr (b:=v/2^m%2) (by omega) (by omega)
   have hcl:=h.lt _ _ hc
   obtain⟨e',h',ov',r1,r2,r3⟩:=Jf w v A hA hA2 c hv m h1 _ o1 (by omega) wr1 (by simp;omega) (by rw[f1.Ad c hcl hcw hco,hc]) hcw (fun q=>by rcases f1.ids c q with q|q;exact hco q;omega)
   have n1:((m+1:Nat):Int)-1=(m:Int):=by omega
   have s1:=IX (a:=v) (s:=m) (by omega)
   have a1:=Lj (n:=v/2^m) (by omega)
   rw[acY]at r2
   refine⟨e',h',ov',vX ?_ r1,r2,f1.trans r3⟩
   rw[n1]
   simp (disch:=omega)only[go_sem,yH,AP.f35L0,s1,a1,k1,hc,hA,hA2]
theorem Gu {h:H} {w:Nat} {bs:List Nat} {ov:AV} (wr:Wr h w bs ov) (v n:Nat) (hn0:1≤n) (hn:n≤15) (hv:v<2^n) (hb:bs.length+n≤65536):
 ∃h' ov',aV AP.A 35 [.aH w 0,.agg [.int .i64 n,.int .i64 v]] h=some (.int .i64 0,h')∧Wr h' w (bs++CK v n) ov'∧Lh h w ov h' ov':=by
 have hp:2^n≤2^15:=acX (by omega) hn
 obtain⟨g,eg⟩:∃g,g=h.alloc [.int .i64 n,.int .i64 v]:=⟨_,rfl⟩
 have hw:=h.lt _ _ wr.get
 have frA:∀i,i<h.next→g.get i=h.get i:=fun i hi=>by rw[eg,yN (by omega)]
 have wr1:Wr g w bs ov:=⟨by rw[frA w hw,wr.get],wr.own.mono (by rw[eg];simp) (fun i q=>frA i (wr.own.lt q).2),by rw[eg];simpa using wr.fl,by rw[eg];have:=wr.QG;simp;omega,wr.ne,wr.Uv⟩
 have gc:g.get h.next=some [.int .i64 n,.int .i64 v]:=by rw[eg,yG rfl]
 obtain⟨e',h',ov',r1,r2,r3⟩:=Jf w v _ rfl rfl h.next (by omega) n g bs ov hn wr1 (by omega) gc (by omega) (fun q=>by have:=(wr.own.lt q).2;omega)
 have gw:=wr1.get
 have s1:rF .shl .i64 1 (n:Int)=some (.int .i64 ((2^n:Nat):Int)):=by
  have:=Bq (a:=1) (s:=n) (by omega) (by omega)
  rwa [Nat.one_mul]at this
 refine⟨h',ov',wo (fn:=AP.f35) (e:=[(4,.int .i64 0)]) (vs:=[.int .i64 0]) rfl rfl rfl ?_ rfl,r2,⟨by rw[r3.floor,eg];simp,by have:=r3.next;rw[eg]at this;simp at this;omega,fun i h1 h2 h3=>by rw[r3.Ad i (by rw[eg];simp;omega) h2 h3,frA i h1],fun j hj=>by
  rcases r3.ids j hj with q|q
  · exact .inl q
  · rw[eg]at q;simp at q;exact .inr (by omega)⟩⟩
 generalize 2^n=N at *
 simp (disch:=omega)only[go_sem,yH,AP.f35,u9,←eg,r1,gw,gc,s1]
theorem Lb {h:H} {w:Nat} {bs:List Nat} {ov:AV} (wr:Wr h w bs ov):aV AP.A 37 [.aH w 0] h=some (.str (bytesOf (zO bs)),h):=by
 have gw:=wr.get
 have b:=HG wr.own
 refine wo (fn:=AP.f37) (e:=[(2,.str (bytesOf (zO bs)))]) (vs:=[.str (bytesOf (zO bs))]) rfl rfl rfl ?_ rfl
 simp (disch:=omega)only[go_sem,yH,AP.f37,gw,b]
def y8 (o:Option (Nat×Nat)):Nat:=(o.getD (0,0)).1
def AL (o:Option (Nat×Nat)):Nat:=(o.getD (0,0)).2
def EN (f:Nat→Option (Nat×Nat)) (k:Nat):Nat→Nat
 |0=>0
 |s+1=>if y8 (f (s+1))≤k then s+1 else EN f k s
def Au (k:Nat):Nat:=EN lenOf k 285
def Dj (k:Nat):Nat:=AL (lenOf (Au k))
def DW (k:Nat):Nat:=k-y8 (lenOf (Au k))
def AM (k:Nat):Nat:=EN yZ k 29
def Dc (k:Nat):Nat:=AL (yZ (AM k))
def DV (k:Nat):Nat:=k-y8 (yZ (AM k))
theorem E8 {s:Nat} (h1:257≤s) (h2:s≤285):∃a b,lenOf s=some (a,b):=by
 unfold lenOf;rw[if_neg (by omega)];split;exact⟨_,_,rfl⟩;split<;>exact⟨_,_,rfl⟩
theorem D9 {s:Nat} (h2:s≤29):∃a b,yZ s=some (a,b):=by
 unfold yZ;rw[if_neg (by omega)];split<;>exact⟨_,_,rfl⟩
theorem OT:∀s,257≤s→s<285→y8 (lenOf (s+1))≤y8 (lenOf s)+2^AL (lenOf s):=by
 intro s h1 h2
 have:∀s<285,257≤s→y8 (lenOf (s+1))≤y8 (lenOf s)+2^AL (lenOf s):=by decide+kernel
 exact this s h2 h1
theorem LS:∀s,s<29→y8 (yZ (s+1))≤y8 (yZ s)+2^AL (yZ s):=by decide+kernel
theorem Dm {k : Nat} (h1 : 3 ≤ k) (h2 : k ≤ 258) : 257 ≤ Au k ∧ Au k ≤ 285 ∧ y8 (lenOf (Au k)) ≤ k ∧ k < y8 (lenOf (Au k)) + 2 ^ AL (lenOf (Au k)) := by
 have key:∀n s,s=257+n→s≤285→(s=285∨k<y8 (lenOf (s+1)))→257≤EN lenOf k s∧EN lenOf k s≤285∧y8 (lenOf (EN lenOf k s))≤k∧k<y8 (lenOf (EN lenOf k s))+2^AL (lenOf (EN lenOf k s)):=by
  intro n
  induction n with
  | zero =>
    intro s hs h hk
    obtain rfl:s=257:=hs
    have e:EN lenOf k 257=257:=by rw[EN,if_pos (show y8 (lenOf (256+1))≤k from h1)]
    have g:=OT 257 (by omega) (by omega)
    rw[e]
    refine⟨by omega,by omega,h1, ?_⟩
    rcases hk with q|q
    · omega
    · omega
  | succ n ih =>
    intro s hs h hk
    obtain⟨s,rfl⟩:∃t,s=t+1:=⟨s-1,by omega⟩
    by_cases c:y8 (lenOf (s+1))≤k
    · rw [EN, if_pos c]
      refine⟨by omega,by omega,c, ?_⟩
      rcases hk with q|q
      · obtain rfl:s=284:=by omega
        have:y8 (lenOf (284+1))=258:=rfl
        have:0<2^AL (lenOf (284+1)):=Nat.pow_pos (by omega)
        omega
      · by_cases c2:s+1=285
        · obtain rfl:s=284:=by omega
          have:y8 (lenOf (284+1))=258:=rfl
          have:0<2^AL (lenOf (284+1)):=Nat.pow_pos (by omega)
          omega
        · have:=OT (s+1) (by omega) (by omega);omega
    · rw[EN,if_neg c]
      exact ih s (by omega) (by omega) (.inr (by omega))
 exact key 28 285 (by omega) (by omega) (.inl rfl)
theorem De {k : Nat} (h1 : 1 ≤ k) (h2 : k ≤ 32768) : AM k ≤ 29 ∧ y8 (yZ (AM k)) ≤ k ∧ k < y8 (yZ (AM k)) + 2 ^ AL (yZ (AM k)) := by
 have l0:y8 (yZ 0)=1:=rfl
 have key:∀s,s≤29→(s=29∨k<y8 (yZ (s+1)))→EN yZ k s≤29∧y8 (yZ (EN yZ k s))≤k∧k<y8 (yZ (EN yZ k s))+2^AL (yZ (EN yZ k s)):=by
  intro s
  induction s with
  | zero =>
    intro h hk
    rw[EN]
    have g:=LS 0 (by omega)
    refine⟨by omega,by omega, ?_⟩
    rcases hk with q|q<;>omega
  | succ s ih =>
    intro h hk
    by_cases c:y8 (yZ (s+1))≤k
    · rw[EN,if_pos c]
      refine⟨by omega,c, ?_⟩
      by_cases c2:s+1=29
      · obtain rfl:s=28:=by omega
        have a1:y8 (yZ (28+1))=24577:=rfl
        have a2:2^AL (yZ (28+1))=8192:=rfl
        omega
      · have:=LS (s+1) (by omega)
        rcases hk with q|q<;>omega
    · rw[EN,if_neg c]
      exact ih (by omega) (.inr (by omega))
 exact key 29 (by omega) (.inl rfl)
theorem Qa (k:Nat) (h1:3≤k) (h2:k≤258) (g:H) (id:Nat) (hf:g.floor≤id) (hfl:g.floor≤g.next) (hg:g.get id=some [.int .i64 0,.int .i64 0,.int .i64 0]):∀n s:Nat,s=257+n→s≤285→
 Lp AP.A [0,2,4] AP.f28L0 [(0,.int .i64 k),(2,.aH id 0),(4,.int .i64 s)] g=some (.ret,[(2,.aH id 0),(3,.int .i64 0)],g.set id [.int .i64 (EN lenOf k s:Nat),.int .i64 (AL (lenOf (EN lenOf k s)):Nat),.int .i64 ((k-y8 (lenOf (EN lenOf k s)):Nat):Int)]):=by
 intro n
 induction n with
 | zero =>
   intro s hs h
   obtain rfl:s=257:=hs
   have e:EN lenOf k 257=257:=by rw[EN,if_pos (show y8 (lenOf (256+1))≤k from h1)]
   have l1:y8 (lenOf 257)=3:=rfl
   have b1:AL (lenOf 257)=0:=rfl
   have kk:aV AP.A 50 [.int .i64 257] g=_:=Ip g 257 (by omega)
   have tt:C6 (lenOf 257)=.cf [.int .i64 3,.int .i64 0,.int .i64 0]:=rfl
   rw[tt]at kk
   rw[e,l1,b1]
   have n1:((k-3:Nat):Int)=(k:Int)-3:=by omega
   rw[n1]
   refine wD ?_
   simp (disch:=first|omega|(simp only[zX,acN,acP,xW,Nat.reduceAdd];first|done|omega|fail)|(simp (disch:=first|omega|(simp only[zX,acN,acP,xW,Nat.reduceAdd];first|done|omega|fail)|fail)only[zX,ES,acR,acN,acP,xW,Nat.reduceAdd];done)|fail)only[go_sem,yH,Fl,AP.f28L0,kk,hg]
 | succ n ih =>
   intro s hs h
   obtain⟨s,rfl⟩:∃t,s=t+1:=⟨s-1,by omega⟩
   obtain⟨a,b,hab⟩:=E8 (s:=s+1) (by omega) h
   have kk:=Ip g (s+1) (by omega)
   rw[hab]at kk
   simp only[I,C6]at kk
   have la:y8 (lenOf (s+1))=a:=by rw[hab];rfl
   have lb:AL (lenOf (s+1))=b:=by rw[hab];rfl
   have bd:=F7 hab
   by_cases c1:a≤k
   · rw[EN,la,if_pos c1,la,lb]
     have n1:((k-a:Nat):Int)=(k:Int)-(a:Int):=by omega
     rw[n1]
     refine wD ?_
     simp (disch:=first|omega|(simp only[zX,acN,acP,xW,Nat.reduceAdd];first|done|omega|fail)|(simp (disch:=first|omega|(simp only[zX,acN,acP,xW,Nat.reduceAdd];first|done|omega|fail)|fail)only[zX,ES,acR,acN,acP,xW,Nat.reduceAdd];done)|fail)only[go_sem,yH,Fl,AP.f28L0,kk,hg]
   · rw[EN,la,if_neg c1]
     have r1:=ih s (by omega) (by omega)
     have n1:((s+1:Nat):Int)-1=(s:Int):=by omega
     refine vX (e':=[(0,.int .i64 k),(2,.aH id 0),(4,.int .i64 s)]) ?_ r1
     simp (disch:=first|omega|(simp only[zX,acN,acP,xW,Nat.reduceAdd];first|done|omega|fail)|(simp (disch:=first|omega|(simp only[zX,acN,acP,xW,Nat.reduceAdd];first|done|omega|fail)|fail)only[zX,ES,acR,acN,acP,xW,Nat.reduceAdd];done)|fail)only[go_sem,yH,Fl,AP.f28L0,kk,n1]
theorem Mo (h:H) (k:Nat) (h1:3≤k) (h2:k≤258):aV AP.A 28 [.int .i64 k] h=some (.cf [.agg [.int .i64 (Au k:Nat),.int .i64 (Dj k:Nat),.int .i64 (DW k:Nat)],.int .i64 0],h):=by
 have r1:=Qa k h1 h2 (h.eV.alloc [.int .i64 0,.int .i64 0,.int .i64 0]) h.next (by simp) (by simp) (by rw[yG (by simp)]) 28 285 (by omega) (by omega)
 have r1':Lp AP.A [0,2,4] AP.f28L0 [(0,.int .i64 k),(2,.aH h.next 0),(4,.int .i64 285)] (h.eV.alloc [.int .i64 0,.int .i64 0,.int .i64 0])=some (.ret,[(2,.aH h.next 0),(3,.int .i64 0)],(h.eV.alloc [.int .i64 0,.int .i64 0,.int .i64 0]).set h.next [.int .i64 (Au k:Nat),.int .i64 (Dj k:Nat),.int .i64 (DW k:Nat)]):=r1
 clear r1
 generalize Au k=S at *
 generalize Dj k=B at *
 generalize DW k=V at *
 refine wN (fn:=AP.f28) (h2:=(h.eV.alloc [.int .i64 0,.int .i64 0,.int .i64 0]).set h.next [.int .i64 S,.int .i64 B,.int .i64 V]) (e:=[(2,.aH h.next 0),(3,.int .i64 0)]) (vs:=[.agg [.int .i64 S,.int .i64 B,.int .i64 V],.int .i64 0]) rfl rfl rfl ?_ ?_ ?_
 · simp (disch:=first|omega|(simp only[zX,acN,acP,xW,Nat.reduceAdd];first|done|omega|fail)|(simp (disch:=first|omega|(simp only[zX,acN,acP,xW,Nat.reduceAdd];first|done|omega|fail)|fail)only[zX,ES,acR,acN,acP,xW,Nat.reduceAdd];done)|fail)only[go_sem,yH,Fl,AP.f28,u9,r1']
 · simp (disch:=first|omega|(simp only[zX,acN,acP,xW,Nat.reduceAdd];first|done|omega|fail)|(simp (disch:=first|omega|(simp only[zX,acN,acP,xW,Nat.reduceAdd];first|done|omega|fail)|fail)only[zX,ES,acR,acN,acP,xW,Nat.reduceAdd];done)|fail)only[go_sem,yH,Fl,AP.f28,dh,pB];rfl
 · rfl
theorem NG (k:Nat) (h1:1≤k) (h2:k≤32768) (g:H) (id:Nat) (hf:g.floor≤id) (hfl:g.floor≤g.next) (hg:g.get id=some [.int .i64 0,.int .i64 0,.int .i64 0]):∀n s:Nat,s=n→s≤29→
 Lp AP.A [0,2,4] AP.f29L0 [(0,.int .i64 k),(2,.aH id 0),(4,.int .i64 s)] g=some (.ret,[(2,.aH id 0),(3,.int .i64 0)],g.set id [.int .i64 (EN yZ k s:Nat),.int .i64 (AL (yZ (EN yZ k s)):Nat),.int .i64 ((k-y8 (yZ (EN yZ k s)):Nat):Int)]):=by
 intro n
 induction n with
 | zero =>
   intro s hs h
   obtain rfl:s=0:=hs
   have e:EN yZ k 0=0:=rfl
   have l1:y8 (yZ 0)=1:=rfl
   have b1:AL (yZ 0)=0:=rfl
   have kk:aV AP.A 51 [.int .i64 0] g=_:=GC g 0 (by omega)
   have tt:C6 (yZ 0)=.cf [.int .i64 1,.int .i64 0,.int .i64 0]:=rfl
   rw[tt]at kk
   rw[e,l1,b1]
   have n1:((k-1:Nat):Int)=(k:Int)-1:=by omega
   rw[n1]
   refine wD ?_
   simp (disch:=first|omega|(simp only[zX,acN,acP,xW,Nat.reduceAdd];first|done|omega|fail)|(simp (disch:=first|omega|(simp only[zX,acN,acP,xW,Nat.reduceAdd];first|done|omega|fail)|fail)only[zX,ES,acR,acN,acP,xW,Nat.reduceAdd];done)|fail)only[go_sem,yH,Fl,AP.f29L0,kk,hg]
 | succ n ih =>
   intro s hs h
   obtain⟨s,rfl⟩:∃t,s=t+1:=⟨s-1,by omega⟩
   obtain⟨a,b,hab⟩:=D9 (s:=s+1) h
   have kk:=GC g (s+1) (by omega)
   rw[hab]at kk
   simp only[I,C6]at kk
   have la:y8 (yZ (s+1))=a:=by rw[hab];rfl
   have lb:AL (yZ (s+1))=b:=by rw[hab];rfl
   have bd:=Eo hab
   by_cases c1:a≤k
   · rw[EN,la,if_pos c1,la,lb]
     have n1:((k-a:Nat):Int)=(k:Int)-(a:Int):=by omega
     rw[n1]
     refine wD ?_
     simp (disch:=first|omega|(simp only[zX,acN,acP,xW,Nat.reduceAdd];first|done|omega|fail)|(simp (disch:=first|omega|(simp only[zX,acN,acP,xW,Nat.reduceAdd];first|done|omega|fail)|fail)only[zX,ES,acR,acN,acP,xW,Nat.reduceAdd];done)|fail)only[go_sem,yH,Fl,AP.f29L0,kk,hg]
   · rw[EN,la,if_neg c1]
     have r1:=ih s (by omega) (by omega)
     have n1:((s+1:Nat):Int)-1=(s:Int):=by omega
     refine vX (e':=[(0,.int .i64 k),(2,.aH id 0),(4,.int .i64 s)]) ?_ r1
     simp (disch:=first|omega|(simp only[zX,acN,acP,xW,Nat.reduceAdd];first|done|omega|fail)|(simp (disch:=first|omega|(simp only[zX,acN,acP,xW,Nat.reduceAdd];first|done|omega|fail)|fail)only[zX,ES,acR,acN,acP,xW,Nat.reduceAdd];done)|fail)only[go_sem,yH,Fl,AP.f29L0,kk,n1]
theorem Rc (h:H) (k:Nat) (h1:1≤k) (h2:k≤32768):aV AP.A 29 [.int .i64 k] h=some (.cf [.agg [.int .i64 (AM k:Nat),.int .i64 (Dc k:Nat),.int .i64 (DV k:Nat)],.int .i64 0],h):=by
 have r1:=NG k h1 h2 (h.eV.alloc [.int .i64 0,.int .i64 0,.int .i64 0]) h.next (by simp) (by simp) (by rw[yG (by simp)]) 29 29 (by omega) (by omega)
 have r1':Lp AP.A [0,2,4] AP.f29L0 [(0,.int .i64 k),(2,.aH h.next 0),(4,.int .i64 29)] (h.eV.alloc [.int .i64 0,.int .i64 0,.int .i64 0])=some (.ret,[(2,.aH h.next 0),(3,.int .i64 0)],(h.eV.alloc [.int .i64 0,.int .i64 0,.int .i64 0]).set h.next [.int .i64 (AM k:Nat),.int .i64 (Dc k:Nat),.int .i64 (DV k:Nat)]):=r1
 clear r1
 generalize AM k=S at *
 generalize Dc k=B at *
 generalize DV k=V at *
 refine wN (fn:=AP.f29) (h2:=(h.eV.alloc [.int .i64 0,.int .i64 0,.int .i64 0]).set h.next [.int .i64 S,.int .i64 B,.int .i64 V]) (e:=[(2,.aH h.next 0),(3,.int .i64 0)]) (vs:=[.agg [.int .i64 S,.int .i64 B,.int .i64 V],.int .i64 0]) rfl rfl rfl ?_ ?_ ?_
 · simp (disch:=first|omega|(simp only[zX,acN,acP,xW,Nat.reduceAdd];first|done|omega|fail)|(simp (disch:=first|omega|(simp only[zX,acN,acP,xW,Nat.reduceAdd];first|done|omega|fail)|fail)only[zX,ES,acR,acN,acP,xW,Nat.reduceAdd];done)|fail)only[go_sem,yH,Fl,AP.f29,u9,r1']
 · simp (disch:=first|omega|(simp only[zX,acN,acP,xW,Nat.reduceAdd];first|done|omega|fail)|(simp (disch:=first|omega|(simp only[zX,acN,acP,xW,Nat.reduceAdd];first|done|omega|fail)|fail)only[zX,ES,acR,acN,acP,xW,Nat.reduceAdd];done)|fail)only[go_sem,yH,Fl,AP.f29,dh,pB];rfl
 · rfl
theorem YF (h:H) (v:AV) (ts:List Tok) (hn:ts.length<1000000000) (rd:zZ 3 h v ts.length (zS ts)):aV AP.A 69 [v] h=some (.bool (zh 0 ts),h):=by
 have Aq:zZ 3 h.eV v ts.length (zS ts):=rd.mono fun i c q=>q
 have hfl:h.eV.floor≤h.eV.next:=by simp
 rcases Kk hn h.eV Aq ts [] 0 h.eV rfl (by omega) (Ext.refl _) (xQ _) hfl with ⟨e',h',r1,r2⟩|⟨e',h',r1,r2,r3⟩
 · have r1':Lp AP.A [0,3,4] AP.f69L0 [(0,v),(3,.int .i64 0),(4,.int .i64 0)] h.eV=some (.exit 0,e',h'):=r1
   rw[r2]
   refine wN (fn:=AP.f69) (h2:=h') (e:=[(2,.bool true)]) rfl rfl rfl ?_ rfl rfl
   simp (disch:=omega)only[go_sem,yH,AP.f69,u9,r1']
 · have r1':Lp AP.A [0,3,4] AP.f69L0 [(0,v),(3,.int .i64 0),(4,.int .i64 0)] h.eV=some (.ret,e',h'):=r1
   rw[r3]
   obtain⟨e2,he2⟩:∃e2,aP (aV AP.A) bL AP.f69.body (params 0 [v]) h.eV=some (.ret,e2,h')∧look e2 2=.bool false:=by
    refine⟨e', ?_,r2⟩
    simp (disch:=omega)only[go_sem,yH,AP.f69,u9,r1']
   refine wN (fn:=AP.f69) (h2:=h') (e:=e2) (vs:=[.bool false]) rfl rfl rfl he2.1 ?_ rfl
   simp only[AP.f69,dh,pB,he2.2];rfl
def Nj (d:Nat):Nat→List Nat→List Nat
 |0,o=>o
 |n+1,o=>Nj d n (o++[o.getD (o.length-d) 0])
theorem Hu (d:Nat):∀n o,(Nj d n o).length=o.length+n
 |0,o=>rfl
 |n+1,o=>by rw[Nj,Hu d n];simp;omega
theorem Ov (d:Nat):∀n o,Oe o→Oe (Nj d n o)
 |0,o,h=>h
 | n + 1, o, h => by
   refine Ov d n _ fun x hx=> ?_
   rcases ac9.1 hx with q|q
   · exact h x q
   · simp only[List.mem_singleton]at q
     subst q
     rw[acM]
     cases hg:o[o.length-d]? with
     |none=>simp
     |some y=>exact h y (xV hg)
def zK (o:List Nat) (t:Tok):List Nat:=if t.len=0 then o++[t.lit.toNat]else Nj t.zm.toNat t.len.toNat o
def CA:List Tok→List Nat→List Nat
 |[],o=>o
 |t::r,o=>CA r (zK o t)
theorem LL {v:AV} {ts:List Tok} (hn:ts.length<1000000000) (h0:H) (rd:zZ 3 h0 v ts.length (zS ts)) (i:Nat) (t:Tok) (ht:ts[i]?=some t) (L D:Nat) (hL:t.len=L) (hD:t.zm=D) (hLb:L≤258) (hD1:1≤D):∀(m j:Nat) (out:List Nat) (h:H) (ov:AV),j+m=L→D≤out.length→out.length+m≤10000→Oe out→Ext h0 h→h0.next≤h.floor→h.floor≤h.next→yS 1 h ov out.length (Bt out)→
 ∃h' ov',Lp AP.A [0,4,5,6] AP.f55L0 [(0,v),(4,ov),(5,.int .i64 i),(6,.int .i64 j)] h=some (.exit 2,[(0,v),(4,ov'),(5,.int .i64 i),(6,.int .i64 L),(37,.bool false)],h')∧Ext h0 h'∧h'.floor=h.floor∧h'.floor≤h'.next∧yS 1 h' ov' (Nj D m out).length (Bt (Nj D m out))
 | 0, j, out, h, ov, hj, hDo, hs, hb, hx, hf, hfn, ow => by
   obtain rfl:j=L:=by omega
   obtain⟨ad,a1,a2,a3⟩:=rd.Qw
   have hi:i<ts.length:=(xL.1 ht).1
   have hI:(0:Int)≤(i:Int)∧(i:Int)<ts.length:=⟨by omega,by omega⟩
   have b1:=a1 _ hI
   have b2:=a2 i 0 1 hI
   obtain⟨_,b3,_,_⟩:=a3 h hx _ _ ht
   rw[hL]at b3
   clear a1 a2 a3
   refine⟨h,ov,vW ?_,hx,rfl,hfn,ow⟩
   simp (disch:=omega)only[go_sem,yH,AP.f55L0,b1,b2,b3]
 | m + 1, j, out, h, ov, hj, hDo, hs, hb, hx, hf, hfn, ow => by
   obtain⟨ad,a1,a2,a3⟩:=rd.Qw
   have hi:i<ts.length:=(xL.1 ht).1
   have hI:(0:Int)≤(i:Int)∧(i:Int)<ts.length:=⟨by omega,by omega⟩
   have b1:=a1 _ hI
   have b2:=a2 i 0 1 hI
   have b2':=a2 i 0 2 hI
   obtain⟨_,b3,b4,_⟩:=a3 h hx _ _ ht
   rw[hL]at b3
   rw[hD]at b4
   clear a1 a2 a3
   rcases ow.2 with ⟨_,q⟩|⟨id,q1,q2,q3,q4⟩
   · omega
   obtain⟨x,hxx⟩:∃x,out[out.length-D]?=some x:=⟨_,acQ (by omega)⟩
   have gx:=YW hxx
   have gd:out.getD (out.length-D) 0=x:=by rw[acM,hxx];rfl
   obtain⟨v',h',p1,p2,p3,p4,p5,p6⟩:=ow.push hfn (z:=1) (m:=1) (by omega) (by omega) [.int .u8 x] rfl rfl (A9 (by omega))
   have x8:=hb x (xV hxx)
   have hxn:Ext h0 h':=fun k c hk=>by
    have:=h0.lt _ _ hk
    rw[p5 k (fun e=>by rw[q1]at e;have:=xF e;omega) (by omega),hx k c hk]
   have ow2:yS 1 h' v' (out++[x]).length (Bt (out++[x])):=by rw[HM,yy];exact p2
   obtain⟨h2,ov',r1,r2,r3,r4,r5⟩:=LL hn h0 rd i t ht L D hL hD hLb hD1 m (j+1) (out++[x]) h' v' (by omega) (by simp;omega) (by simp;omega) (fun y hy=>by
    rcases ac9.1 hy with q|q
    · exact hb y q
    · simp at q;omega) hxn (by omega) (by omega) ow2
   have n1:((j+1:Nat):Int)=(j:Int)+1:=by omega
   have n2:(out.length:Int)-(D:Int)=((out.length-D:Nat):Int):=by omega
   have bl:=YX out
   rw[Nj,gd]
   refine⟨h2,ov',vX ?_ r1,r2,by omega,r4,r5⟩
   rw[n1]
   subst q1
   clear r5 hb x8 ow2 r1 r2 hx hxn
   generalize Bt out=BO at *
   simp (disch:=omega)only[go_sem,yH,AP.f55L0,b1,b2,b2',b3,b4,n2,q2,gx,bl,p1]
theorem HW {v : AV} {ts : List Tok} (hn : ts.length < 1000000000) (h0 : H) (rd : zZ 3 h0 v ts.length (zS ts)) : ∀ (q p : List Tok) (out : List Nat) (h : H) (ov : AV), ts = p ++ q → zh out.length q = true → out.length ≤ 8192 → Oe out → Ext h0 h → h0.next ≤ h.floor → h.floor ≤ h.next → yS 1 h ov out.length (Bt out) →
 ∃e' h' ov',Lp AP.A [0,4,5] AP.f55L1 [(0,v),(4,ov),(5,.int .i64 p.length)] h=some (.exit 0,e',h')∧look e' 4=ov'∧h'.floor=h.floor∧yS 1 h' ov' (CA q out).length (Bt (CA q out))∧(CA q out).length≤8192∧Oe (CA q out)
 | [], p, out, h, ov, hp, hm, hs, hb, hx, hf, hfn, ow => by
   rw[acU]at hp;subst hp
   have ln:=rd.len
   refine⟨[(0,v),(4,ov),(5,.int .i64 ts.length),(13,.bool false)],h,ov,vW ?_,rfl,rfl,ow,hs,hb⟩
   simp (disch:=omega)only[go_sem,yH,AP.f55L1,ln]
 | t :: q, p, out, h, ov, hp, hm, hs, hb, hx, hf, hfn, ow => by
   have ln:=rd.len
   have hlen:ts.length=p.length+(q.length+1):=by rw[hp];simp
   have ht:ts[p.length]?=some t:=by rw[hp];simp
   obtain⟨ad,a1,a2,a3⟩:=rd.Qw
   have hI:(0:Int)≤(p.length:Int)∧(p.length:Int)<ts.length:=⟨by omega,by omega⟩
   have b1:=a1 _ hI
   have b2:=a2 p.length 0 1 hI
   have b2':=a2 p.length 0 0 hI
   obtain⟨b3,b4,_,_⟩:=a3 h hx _ _ ht
   rw[zh]at hm
   have pl:p.length<ts.length:=by omega
   cases hst:AG out.length t with
   |none=>rw[hst]at hm;cases hm
   | some s' =>
     rw[hst]at hm
     simp only at hm
     by_cases k:8192<s'
     · rw[if_pos k]at hm;cases hm
     rw[if_neg k]at hm
     unfold AG at hst
     have n1:(((p++[t]).length:Nat):Int)=(p.length:Int)+1:=by simp
     by_cases c0:t.len=0
     · rw[if_pos c0]at hst
       by_cases c:t.lit<0∨255<t.lit∨t.zm≠0
       · rw[if_pos c]at hst;cases hst
       rw[if_neg c]at hst
       obtain rfl:=xF hst
       obtain⟨x,hxl⟩:∃x:Nat,t.lit=x:=acS (by omega)
       have es:zK out t=out++[x]:=by unfold zK;rw[if_pos c0,hxl];rfl
       have hx8:x<256:=by omega
       obtain⟨v',h',p1,p2,p3,p4,p5,p6⟩:=ow.push hfn (z:=1) (m:=1) (by omega) (by omega) [.int .u8 x] rfl rfl (A9 (by omega))
       have hxn:Ext h0 h':=fun k c hk=>by
        have:=h0.lt _ _ hk
        rw[p5 k (fun e=>by have:=ow.lt e;omega) (by omega),hx k c hk]
       have ow2:yS 1 h' v' (out++[x]).length (Bt (out++[x])):=by rw[HM,yy];exact p2
       have hx3:Ext h0 h':=hxn
       obtain⟨b3',b4',_,_⟩:=a3 h' hxn _ _ ht
       rw[hxl]at b3
       rw[c0]at b4 b4'
       have wx:=wb' (n:=x) hx8
       clear a1 a2 a3
       obtain⟨e',h2,ov',r1,r2,r3,r4,r5,r6⟩:=HW hn h0 rd q (p++[t]) (out++[x]) h' v' (by rw[hp];simp) (by rw[←hm];simp) (by simp;omega) (fun y hy=>by
        rcases ac9.1 hy with q|q
        · exact hb y q
        · simp at q;omega) hxn (by omega) (by omega) ow2
       have L0:Lp AP.A [0,4,5,6] AP.f55L0 [(0,v),(4,v'),(5,.int .i64 p.length),(6,.int .i64 0)] h'=some (.exit 2,[(0,v),(4,v'),(5,.int .i64 p.length),(6,.int .i64 0),(37,.bool false)],h'):=by
        refine vW ?_
        simp (disch:=omega)only[go_sem,yH,AP.f55L0,b1,b2,b4']
       rw[CA,es]
       refine⟨e',h2,ov',vX ?_ r1,r2,by omega,r4,r5,r6⟩
       rw[n1]
       clear r1 r2 r4 r5 r6 hm hp hx hxn hx3 hb hst c
       simp (disch:=omega)only[go_sem,yH,AP.f55L1,ln,b1,b2,b2',b3,b4,wx,p1,u9,L0]
     · rw[if_neg c0]at hst
       by_cases c:t.len<3∨258<t.len∨t.zm<1∨32768<t.zm∨(out.length:Int)<t.zm∨t.lit≠0
       · rw[if_pos c]at hst;cases hst
       rw[if_neg c]at hst
       obtain rfl:=xF hst
       obtain⟨L,hL⟩:∃x:Nat,t.len=x:=acS (by omega)
       obtain⟨D,hD⟩:∃x:Nat,t.zm=x:=acS (by omega)
       have es:zK out t=Nj D L out:=by unfold zK;rw[if_neg c0,hL,hD];rfl
       have cl:=Hu D L out
       have cb:=Ov D L out hb
       obtain⟨h',v',L0,s1,s2,s3,s4⟩:=LL hn h0 rd p.length t ht L D hL hD (by omega) (by omega) L 0 out h ov (by omega) (by omega) (by omega) hb hx hf hfn ow
       have L0':Lp AP.A [0,4,5,6] AP.f55L0 [(0,v),(4,ov),(5,.int .i64 p.length),(6,.int .i64 0)] h=_:=L0
       obtain⟨e',h2,ov',r1,r2,r3,r4,r5,r6⟩:=HW hn h0 rd q (p++[t]) (Nj D L out) h' v' (by rw[hp];simp) (by rw[←hm,cl,hL];simp) (by omega) cb s1 (by omega) s3 s4
       rw[CA,es]
       refine⟨e',h2,ov',vX ?_ r1,r2,by omega,r4,r5,r6⟩
       rw[n1]
       have c0':¬(L:Int)=0:=by omega
       rw[hL]at b4
       clear r1 r2 r4 r5 r6 hm hp hx hb hst c c0 L0 s4 cb es a1 a2 a3
       simp (disch:=omega)only[go_sem,yH,AP.f55L1,ln,b1,b2,b2',b4,u9,L0',c0']
def Ep (ts:List Tok):Option ByteArray:=if zh 0 ts=true then some (bytesOf (CA ts []))else none
def WB:Option ByteArray→AV
 |some t=>.cf [.str t,.int .i64 0]
 |none=>.cf [.str ⟨#[]⟩,.int .i64 500]
theorem Ri (h:H) (v:AV) (ts:List Tok) (hn:ts.length<1000000000) (rd:zZ 3 h v ts.length (zS ts)):aV AP.A 55 [v] h=some (WB (Ep ts),h)∧∀t,Ep ts=some t→t.size≤8192:=by
 have k1:∀g:H,g=h.eV→aV AP.A 69 [v] g=some (.bool (zh 0 ts),g):=fun g e=>by subst e;exact YF h.eV v ts hn (rd.mono fun i c q=>q)
 unfold Ep
 by_cases hm:zh 0 ts=true
 · rw[if_pos hm]
   have Aq:zZ 3 h.eV v ts.length (zS ts):=rd.mono fun i c q=>q
   obtain⟨e',h',ov',r1,r2,r3,r4,r5,r6⟩:=HW hn h.eV Aq ts [] [] h.eV .aT rfl hm (by simp) (fun _ h=>by simp at h) (Ext.refl _) (by simp) (by simp) yS.nil
   have r1':Lp AP.A [0,4,5] AP.f55L1 [(0,v),(4,.aT),(5,.int .i64 0)] h.eV=some (.exit 0,e',h'):=r1
   have b:=HG r4
   have k:=k1 _ rfl
   rw[hm]at k
   refine⟨?_,fun t ht=> ?_⟩
   · generalize bytesOf (CA ts [])=B at *
     refine wN (fn:=AP.f55) (h2:=h') (e:=[(2,.str B),(3,.int .i64 0)]) rfl rfl rfl ?_ rfl rfl
     clear r1 r4 r5 r6 Aq rd k1
     simp (disch:=omega)only[go_sem,yH,AP.f55,k,u9,r1',r2,b]
   · obtain rfl:=xF ht
     rw[ze];omega
 · rw[if_neg hm]
   have k:=k1 _ rfl
   rw[Bool.eq_false_iff.2 hm]at k
   refine⟨?_,fun t ht=>by cases ht⟩
   refine wN (fn:=AP.f55) (h2:=h.eV) (e:=[(2,.str ⟨#[]⟩),(3,.int .i64 500)]) rfl rfl rfl ?_ rfl rfl
   clear rd k1
   simp (disch:=omega)only[go_sem,yH,AP.f55,k]
def PU (ts:List Tok):Bool:=match Ep ts with
 |some t=>decide (t.size≤300)
 |none=>false
theorem UA (h:H) (v:AV) (ts:List Tok) (hn:ts.length<1000000000) (rd:zZ 3 h v ts.length (zS ts)):aV AP.A 27 [v] h=some (.bool (PU ts),h):=by
 obtain⟨k,kl⟩:=Ri h.eV v ts hn (rd.mono fun i c q=>q)
 unfold PU
 cases he:Ep ts with
 | none =>
   rw[he]at k
   simp only[WB]at k
   refine wN (fn:=AP.f27) (h2:=h.eV) (e:=[(2,.bool false)]) rfl rfl rfl ?_ rfl rfl
   clear rd kl
   simp (disch:=omega)only[go_sem,yH,AP.f27,k]
 | some t =>
   rw[he]at k
   have:=kl t he
   simp only[WB]at k
   refine wN (fn:=AP.f27) (h2:=h.eV) (e:=[(2,.bool (decide (t.size≤300)))]) rfl rfl rfl ?_ rfl rfl
   clear rd kl
   by_cases c:t.size≤300
   · simp (disch:=omega)only[go_sem,yH,AP.f27,k,acO c]
   · simp (disch:=omega)only[go_sem,yH,AP.f27,k,acL c]
theorem Hy {p q:Prop} [Decidable p] [Decidable q] {α:Type} {a b:α} (h:p↔q):(if p then a else b)=if q then a else b:=by
 by_cases c:p
 · rw[if_pos c,if_pos (h.1 c)]
 · rw[if_neg c,if_neg (fun x=>c (h.2 x))]
def Ax (p:Int×Int):List AV:=[.int .i64 p.1,.int .i64 p.2]
theorem Dq (p:Int×Int):(Ax p).length=2:=rfl
theorem NR {α:Type} {C:α→List AV} {n:Nat} (hC:∀x,(C x).length=n):∀(l:List α) (i:Nat) (x:α),i<l.length→setFrom (l.flatMap C) (i* n) (C x)=(l.set i x).flatMap C
 |[],i,x,h=>by simp at h
 | y :: l, 0, x, h => by
   have:=Ct (C y) (C x) [] (l.flatMap C) (by rw[hC,hC])
   simpa using this
 | y :: l, i + 1, x, h => by
   have ih:=NR hC l i x (by simpa using h)
   rw[acT,List.set_cons_succ,acT,←ih]
   have e:=E3 hC l
   have:i<l.length:=by simpa using h
   have hi:i* n+n≤l.length* n:=by
    have:=xU n (show i+1≤l.length from this)
    rwa [Nat.succ_mul]at this
   have hs:(i+1)* n=n+i* n:=by rw[Nat.succ_mul];omega
   rw[Fg _ _ _ (by rw[yy,hC,hC,e,hs];omega),Fg _ _ _ (by rw[hC,e];omega),hs,hC]
   rw[List.take_append,List.drop_append,hC]
   rw[yo (by rw[hC];omega),List.drop_of_length_le (by rw[hC];omega)]
   rw[show n+i* n-n=i* n by omega,show n+i* n+n-n=i* n+n by omega]
   simp
def EM (l:List Int) (i:Nat):Int×Int:=if 1≤l.getD i 0 then(l.getD i 0,yJ l (l.getD i 0).toNat+Ah (l.take i) (l.getD i 0).toNat)else(0,0)
def yF (l:List Int):List (Int×Int):=(List.range l.length).map (EM l)
def Af (l:List Int) (b i:Nat):List (Int×Int):=(List.range l.length).map fun j=>if 1≤l.getD j 0∧(l.getD j 0<b∨(l.getD j 0=b∧j<i))then EM l j else(0,0)
theorem Gy (l:List Int) (b i:Nat):(Af l b i).length=l.length:=by simp [Af]
theorem PN {l:List Int} {b i:Nat} (hi:i<l.length) (hb:1≤b) (hl:l.getD i 0=(b:Int)):(Af l b i).set i ((b:Int),yJ l b+Ah (l.take i) b)=Af l b (i+1):=by
 apply List.ext_getElem?
 intro j
 rw[ac3]
 by_cases e:i=j
 · subst e
   rw[if_pos rfl,if_pos (by rw[Gy];exact hi)]
   simp only[Af,ya,adw hi,acR]
   rw[if_pos ⟨by omega,.inr ⟨hl,by omega⟩⟩,EM,if_pos (by omega),hl];rfl
 · rw[if_neg e]
   simp only[Af,ya]
   by_cases hj:j<l.length
   · rw[adw hj]
     simp only[acR]
     exact adu some (Hy (by omega))
   · rw[ac1 (by simp;omega)];rfl
theorem Nz {l:List Int} {b i:Nat} (hl:¬l.getD i 0=(b:Int)):Af l b (i+1)=Af l b i:=by
 unfold Af
 refine adm fun j hj=> ?_
 by_cases e:j=i
 · subst e
   exact Hy (by omega)
 · exact Hy (by omega)
theorem NA (l:List Int) (b:Nat):Af l (b+1) 0=Af l b l.length:=by
 unfold Af
 refine adm fun j hj=> ?_
 have hj':j<l.length:=adB.1 hj
 exact Hy (by omega)
theorem PM {l:List Int} (hr:∀y∈l,0≤y∧y<16):Af l 16 0=yF l:=by
 unfold Af yF
 refine adm fun j hj=> ?_
 have hj':j<l.length:=adB.1 hj
 have hm:=hr (l.getD j 0) (by rw[acM,acQ hj'];simp)
 by_cases c:1≤l.getD j 0
 · rw[if_pos ⟨c,.inl (by omega)⟩]
 · rw[if_neg (fun q=>c q.1),EM,if_neg c]
theorem NB (l:List Int):Af l 1 0=List.replicate l.length (0,0):=by
 unfold Af
 have:(List.range l.length).map (fun j=>if 1≤l.getD j 0∧(l.getD j 0<(1:Nat)∨(l.getD j 0=(1:Nat)∧j<0))then EM l j else((0:Int),(0:Int)))=(List.range l.length).map (fun _=>((0:Int),(0:Int))):=by
  refine adm fun j hj=> ?_
  rw[if_neg (by omega)]
 rw[this,List.map_const',List.length_range]
theorem EL {l:List Int} {i:Nat} (hi:i<l.length) (b:Nat) (hb:1≤b):Ah (l.take (i+1)) b=Ah (l.take i) b+if l.getD i 0=(b:Int)then 1 else 0:=by
 have e:l.take (i+1)=l.take i++[l.getD i 0]:=by
  rw[List.take_add_one,acQ hi,acM,acQ hi];rfl
 rw[e,D6]
 congr 1
 by_cases c:l.getD i 0=(b:Int)
 · rw[if_pos ⟨by omega,c⟩,if_pos c]
 · rw[if_neg (fun q=>c q.2),if_neg c]
theorem HT {x : AV} {l : List Int} (hl : l.length < 1000) (h0 : H) (rd : Rd h0 x (ints l)) (id b : Nat) (hid : h0.next ≤ id) (hb1 : 1 ≤ b) (hb : b ≤ 15) : ∀ (m i : Nat) (h : H), i + m = l.length → Ext h0 h → h.floor ≤ id → h.get id = some ((Af l b i).flatMap Ax) →
 ∃h',Lp AP.A [0,5,6,7,8] AP.f34L0 [(0,x),(5,.aI id 0 l.length 2),(6,.int .i64 (yJ l b+Ah (l.take i) b)),(7,.int .i64 b),(8,.int .i64 i)] h=some (.exit 2,[(0,x),(5,.aI id 0 l.length 2),(6,.int .i64 (yJ l b+Ah l b)),(7,.int .i64 b),(8,.int .i64 l.length),(30,.bool false)],h')∧Ext h0 h'∧h'.floor=h.floor∧h'.get id=some ((Af l b l.length).flatMap Ax)
 | 0, i, h, hi, hx, hf, hg => by
   obtain rfl:i=l.length:=by omega
   have ln:=rd.len
   rw[rY]at ln
   simp only[I]at ln
   rw[List.take_length]
   refine⟨h,vW ?_,hx,rfl,hg⟩
   simp (disch:=omega)only[go_sem,yH,AP.f34L0,ln]
 | m + 1, i, h, hi, hx, hf, hg => by
   have ln:=rd.len
   rw[rY]at ln
   simp only[I]at ln
   have hil:i<l.length:=by omega
   obtain⟨ad,a1,a2⟩:=rd.zL
   have b1:=a1 i ⟨by omega,by omega⟩
   have lg:l[i]?=some (l.getD i 0):=by rw[acM,acQ hil];rfl
   have b2:=a2 h hx i _ lg
   have n1:((i+1:Nat):Int)=(i:Int)+1:=by omega
   have ct:=EL hil b hb1
   have fb:=Df (l:=l) (by omega) b
   have pw:=Dr hb
   have cl:=DE (l.take i) b
   have tl:=List.length_take_le i l
   generalize hy:l.getD i 0=y at *
   by_cases c:y=(b:Int)
   · have st:wP h id (i* 2) 2 [.int .i64 (b:Int),.int .i64 (yJ l b+Ah (l.take i) b)] (some ((Af l b i).flatMap Ax))=some (h.set id ((Af l b (i+1)).flatMap Ax)):=by
      rw[Pm,←PN hil hb1 (hy.trans c),←NR Dq _ _ _ (by rw[Gy];exact hil)]
      have:=E3 Dq (Af l b i)
      rw[Gy]at this
      simp only[this,hf,acN,acP,decide_true,AV.aG,AV.sc,Bool.and_true,adn,show i* 2+2≤l.length* 2 by omega]
      rfl
     rw[if_pos c]at ct
     have g2:(h.set id ((Af l b (i+1)).flatMap Ax)).get id=some ((Af l b (i+1)).flatMap Ax):=by rw[yM rfl,hg];rfl
     obtain⟨h',r1,r2,r3,r4⟩:=HT hl h0 rd id b hid hb1 hb m (i+1) _ (by omega) (hx.set hid _) (by simpa using hf) g2
     have e1:yJ l b+(Ah (l.take i) b:Int)+1=yJ l b+(Ah (l.take (i+1)) b:Nat):=by rw[ct];omega
     refine⟨h',vX ?_ r1,r2,by rw[r3];simp,r4⟩
     rw[←e1,n1]
     subst c
     clear r1 r2 r3 r4 g2 ct e1 hx
     generalize yJ l b=F at *
     generalize Ah (l.take i) b=K at *
     generalize (Af l b i).flatMap Ax=CS at *
     generalize (Af l b (i+1)).flatMap Ax=CS2 at *
     simp (disch:=omega)only[go_sem,yH,AP.f34L0,ln,b1,b2,hg,st]
   · rw[if_neg c,adC]at ct
     obtain⟨h',r1,r2,r3,r4⟩:=HT hl h0 rd id b hid hb1 hb m (i+1) h (by omega) hx hf (by rw[Nz (fun q=>c (hy.symm.trans q))];exact hg)
     rw[ct]at r1
     refine⟨h',vX ?_ r1,r2,r3,r4⟩
     rw[n1]
     generalize yJ l b=F at *
     generalize Ah (l.take i) b=K at *
     simp (disch:=omega)only[go_sem,yH,AP.f34L0,ln,b1,b2]
theorem LN {x:AV} {l:List Int} (hl:l.length<1000) (h0:H) (rd:Rd h0 x (ints l)) (id:Nat) (hid:h0.next≤id):∀(m b:Nat) (h:H) (F:Int),b+m=16→1≤b→F+F=yJ l b→Ext h0 h→h.floor≤id→h.get id=some ((Af l b 0).flatMap Ax)→
 ∃e' h',Lp AP.A [0,5,6,7] AP.f34L1 [(0,x),(5,.aI id 0 l.length 2),(6,.int .i64 F),(7,.int .i64 b)] h=some (.exit 0,e',h')∧look e' 5=.aI id 0 l.length 2∧h'.floor=h.floor∧h'.get id=some ((Af l 16 0).flatMap Ax)
 | 0, b, h, F, hb, hb1, hF, hx, hf, hg => by
   obtain rfl:b=16:=by omega
   refine⟨[(0,x),(5,.aI id 0 l.length 2),(6,.int .i64 F),(7,.int .i64 16),(22,.bool false)],h,vW ?_,rfl,rfl,hg⟩
   simp (disch:=omega)only[go_sem,yH,AP.f34L1]
 | m + 1, b, h, F, hb, hb1, hF, hx, hf, hg => by
   obtain⟨h1,q1,q2,q3,q4⟩:=HT hl h0 rd id b hid hb1 (by omega) l.length 0 h (by omega) hx hf hg
   rw[←NA]at q4
   have c0:Ah (l.take 0) b=0:=by rw[List.take_zero];exact KJ b
   rw[c0]at q1
   have fb:=Df (l:=l) (by omega) b
   have pw:=Dr (m:=b) (by omega)
   have q1':Lp AP.A [0,5,6,7,8] AP.f34L0 [(0,x),(5,.aI id 0 l.length 2),(6,.int .i64 (yJ l b)),(7,.int .i64 b),(8,.int .i64 0)] h=some (.exit 2,[(0,x),(5,.aI id 0 l.length 2),(6,.int .i64 (yJ l b+Ah l b)),(7,.int .i64 b),(8,.int .i64 l.length),(30,.bool false)],h1):=by
    have e:(yJ l b+((0:Nat):Int))=yJ l b:=by omega
    rw[e]at q1;exact q1
   obtain⟨e',h',r1,r2,r3,r4⟩:=LN hl h0 rd id hid m (b+1) h1 (yJ l b+Ah l b) (by omega) (by omega) (by rw[yJ];omega) q2 (by omega) q4
   have n1:((b+1:Nat):Int)=(b:Int)+1:=by omega
   have n2:2* F=yJ l b:=by omega
   have hFb:0≤F∧F<100000000000:=by omega
   refine⟨e',h',vX ?_ r1,r2,by omega,r4⟩
   rw[n1]
   clear q1 r1 r2 r3 r4 q4 hx rd
   generalize yJ l b=G at *
   simp (disch:=omega)only[go_sem,yH,AP.f34L1,n2,u9,q1']
theorem Fe:∀E:List (Int×Int),E.flatMap Ax=ints (E.flatMap fun p=>[p.1,p.2])
 |[]=>rfl
 |p::E=>by rw[acT,acT,rX,Fe E];rfl
theorem He:∀n,A3 n [.int .i64 0,.int .i64 0]=(List.replicate n ((0:Int),(0:Int))).flatMap Ax
 |0=>rfl
 | n + 1 => by
   have:=He n
   unfold A3 at *
   rw[eK,this,List.replicate_succ,acT];rfl
def HP (l:List Int):AV:=CD 2 l.length ((yF l).flatMap Ax)
theorem FN (h:H) (x:AV) (l:List Int) (h1:1≤l.length) (hl:l.length<1000) (rd:Rd h x (ints l)) (hc:yV l=0∨yV l=302):aV AP.A 34 [x] h=some (.cf [HP l,.int .i64 0],h):=by
 have k:=FD h.eV x l (by omega) (rd.mono (yQ h))
 simp only[I]at k
 have hr:∀y∈l,0≤y∧y<16:=by
  refine GK ?_
  unfold yV at hc
  by_cases q:Fc l=false
  · rw[if_pos q]at hc;omega
  · simpa using q
 have Aq:Rd h.eV x (ints l):=rd.mono (yQ h)
 obtain⟨g,eg⟩:∃g,g=h.eV.alloc (A3 l.length [.int .i64 0,.int .i64 0]):=⟨_,rfl⟩
 have hn:h.eV.next=h.next:=rfl
 have ex:Ext h.eV g:=by rw[eg];exact(Ext.refl _).alloc _
 have gg:g.get h.next=some ((Af l 1 0).flatMap Ax):=by rw[eg,yG (by simp),He,NB]
 obtain⟨e',h',r1,r2,r3,r4⟩:=LN hl h.eV Aq h.next (by simp) 15 1 g 0 (by omega) (by omega) (by simp [yJ,Ah]) ex (by rw[eg];simp) gg
 have r1':Lp AP.A [0,5,6,7] AP.f34L1 [(0,x),(5,.aI h.next 0 l.length 2),(6,.int .i64 0),(7,.int .i64 1)] g=some (.exit 0,e',h'):=r1
 have ln:=rd.len
 rw[rY]at ln
 simp only[I]at ln
 rw[PM hr]at r4
 have ce:(yF l).length=l.length:=by simp [yF]
 have ow:yS 2 h' (.aI h.next 0 l.length 2) l.length ((yF l).flatMap Ax):=⟨by rw[E3 Dq,ce],.inr ⟨h.next,rfl,r4,by rw[r3,eg];simp,by omega⟩⟩
 have kk:(¬yV l=0∧¬yV l=302)=False:=by simp;omega
 refine wN (fn:=AP.f34) (h2:=h') (e:=[(2,.aI h.next 0 l.length 2),(3,.int .i64 0)]) (vs:=[.aI h.next 0 l.length 2,.int .i64 0]) rfl rfl rfl ?_ rfl ?_
 · clear r1 r4 ow rd Aq hr kk gg ex
   rcases hc with q|q
   · rw[q]at k
     simp (disch:=omega)only[go_sem,yH,AP.f34,k,ln,←eg,hn,u9,r1',r2]
   · rw[q]at k
     simp (disch:=omega)only[go_sem,yH,AP.f34,k,ln,←eg,hn,u9,r1',r2]
 · have o':=ow
   rw[Fe]at o'
   have s1:=o'.Ap (fl:=h.next) (m:=13) (t:=true) (by rw[r3,eg];simp)
   show(gV (snap h'.get h.next 15 true) [.aI h.next 0 l.length 2,.int .i64 0]).bind _=_
   simp only[gV,s1,xM]
   rw[←Fe];rfl
def zJ (l:List Int) (least:Nat):Nat→Nat
 |0=>least
 |i+1=>if i+1≤least then least else if 0<l.getD i 0 then i+1 else zJ l least i
theorem Kr {x : AV} {l : List Int} (hl : l.length < 1000) (h : H) (rd : Rd h x (ints l)) (k : Nat) (hk : k < 1000) : ∀ i : Nat, i ≤ l.length →
 (∃e',Lp AP.A [0,1,5] AP.f31L0 [(0,x),(1,.int .i64 k),(5,.int .i64 i)] h=some (.exit 0,e',h)∧look e' 1=.int .i64 k∧zJ l k i=k)∨
 Lp AP.A [0,1,5] AP.f31L0 [(0,x),(1,.int .i64 k),(5,.int .i64 i)] h=some (.ret,[(4,.int .i64 (zJ l k i:Nat))],h)
 | 0, hi => by
   refine .inl ⟨[(0,x),(1,.int .i64 k),(5,.int .i64 0),(10,.bool false)],vW ?_,rfl,rfl⟩
   simp (disch:=omega)only[go_sem,yH,AP.f31L0]
 | i + 1, hi => by
   by_cases c:i+1≤k
   · refine .inl ⟨[(0,x),(1,.int .i64 k),(5,.int .i64 (i+1:Nat)),(10,.bool false)],vW ?_,rfl,by rw[zJ,if_pos c]⟩
     simp (disch:=omega)only[go_sem,yH,AP.f31L0]
   · obtain⟨ad,a1,a2⟩:=rd.zL
     have b1:=a1 i ⟨by omega,by omega⟩
     have lg:l[i]?=some (l.getD i 0):=by rw[acM,acQ (by omega)];rfl
     have b2:=a2 h (Ext.refl h) i _ lg
     have n1:((i+1:Nat):Int)-1=(i:Int):=by omega
     rw[zJ,if_neg c]
     generalize hy:l.getD i 0=y at *
     by_cases c2:0<y
     · rw[if_pos c2]
       refine .inr (wD ?_)
       simp (disch:=omega)only[go_sem,yH,AP.f31L0,n1,b1,b2]
     · rw[if_neg c2]
       have step:aP (aV AP.A) bL AP.f31L0 (aC [(0,x),(1,.int .i64 k),(5,.int .i64 (i+1:Nat))] [0,1,5]) h=some (.normal,[(0,x),(1,.int .i64 k),(5,.int .i64 i)],h):=by
        simp (disch:=omega)only[go_sem,yH,AP.f31L0,n1,b1,b2]
       rcases Kr hl h rd k hk i (by omega)with ⟨e',r1,r2,r3⟩|r1
       · exact .inl ⟨e',vX step r1,r2,r3⟩
       · exact .inr (vX step r1)
theorem Od (h:H) (x:AV) (l:List Int) (hl:l.length<1000) (rd:Rd h x (ints l)) (k:Nat) (hk:k<1000):aV AP.A 31 [x,.int .i64 k] h=some (.int .i64 (zJ l k l.length:Nat),h):=by
 have ln:=rd.len
 rw[rY]at ln
 simp only[I]at ln
 have Aq:Rd h.eV x (ints l):=rd.mono (yQ h)
 rcases Kr hl h.eV Aq k hk l.length (xQ _)with ⟨e',r1,r2,r3⟩|r1
 · rw[r3]
   refine wN (fn:=AP.f31) (h2:=h.eV) (e:=[(4,.int .i64 k)]) rfl rfl rfl ?_ rfl rfl
   simp (disch:=omega)only[go_sem,yH,AP.f31,ln,u9,r1,r2]
 · refine wN (fn:=AP.f31) (h2:=h.eV) (e:=[(4,.int .i64 (zJ l k l.length:Nat))]) rfl rfl rfl ?_ rfl rfl
   generalize zJ l k l.length=U at *
   simp (disch:=omega)only[go_sem,yH,AP.f31,ln,u9,r1]
theorem yS.join {n:Nat} {h:H} {v:AV} {k:Nat} {cs:List AV} (o:yS n h v k cs) (hfn:h.floor≤h.next) {z m:Nat} (hn:0<n) {w:AV} {bs:List AV} (hs:aW h n w=some (m,bs)) (hb:bs.length=m* n) (hc:AV.aG bs=true) (hr:roomy z (k+m)=true):
 ∃v' h',mR h n z v w=some (v',h')∧yS n h' v' (k+m) (cs++bs)∧h'.floor=h.floor∧h.next≤h'.next∧(∀i,v.id?≠some i→i<h.next→h'.get i=h.get i)∧∀j,v'.id?=some j→v.id?=some j∨j=h.next:=by
 by_cases c:m=0
 · subst c
   have e:bs=[]:=ada (by omega)
   subst e
   refine⟨v,h, ?_,by rw[acU];exact o,rfl,xQ _,fun _ _ _=>rfl,fun j q=>.inl q⟩
   unfold mR
   rw[hs,xM]
   rcases o.2 with ⟨rfl,_⟩|⟨id,rfl,_⟩
   · rfl
   · unfold eR;rw[if_pos rfl]
 · obtain⟨v',h',p1,p2,p3,p4,p5,p6⟩:=o.app hfn (z:=z) (Nat.pos_of_ne_zero c) hn bs hb hc hr
   refine⟨v',h', ?_,p2,p3,p4,fun i q1 q2=>p5 i q1 (by omega),fun j q=>.inr ?_⟩
   · unfold mR;rw[hs,xM];exact p1
   · rw[p6]at q;exact(xF q).symm
theorem yS.hi {h:H} {w:AV} {k n:Nat} {cs:List AV} (o:yS n h w k cs) (hn:0<n) {m:Nat} (hm:m≤k):∃u,uZ h n w none (some (.int .i64 m)) none=some u∧aW h n u=some (m,cs.take (m* n))∧u.sc=true:=by
 obtain⟨l,⟨rfl,rfl⟩|⟨id,rfl,hg,hf,hk⟩⟩:=o
 · obtain rfl:m=0:=by omega
   obtain rfl:cs=[]:=ada (by omega)
   exact⟨.aT,rfl,by simp [aW],rfl⟩
 · have d:(cs.length-0)/n=k:=by rw[l,Nat.sub_zero,Nat.mul_div_cancel _ hn]
   refine⟨.aI id 0 m n, ?_, ?_,rfl⟩
   · have:=abB (h:=h) (n:=n) (p:=id) (o:=0) (k:=k) (m:=m) hg hn (by omega) ⟨by omega,by rw[d];simpa using hm⟩
     rw[this];rfl
   · simp only[aW,if_true,hg,xM,xW,ac8]
     rw[if_pos (by rw[l];exact xU _ hm)]
theorem yS.lo {h : H} {w : AV} {k n : Nat} {cs : List AV} (o : yS n h w k cs) (hn : 0 < n) {m : Nat} (hm : m ≤ k) : ∃ u, uZ h n w (some (.int .i64 m)) none none = some u ∧ aW h n u = some (k - m, cs.drop (m * n)) ∧ u.sc = true := by
 obtain⟨l,⟨rfl,rfl⟩|⟨id,rfl,hg,hf,hk⟩⟩:=o
 · obtain rfl:m=0:=by omega
   obtain rfl:cs=[]:=ada (by omega)
   exact⟨.aT,rfl,by simp [aW],rfl⟩
 · have d:cs.length/n=k:=by rw[l,Nat.mul_div_cancel _ hn]
   have mk:=xU n hm
   refine⟨.aI id (0+m* n) (k-m) n, ?_, ?_,rfl⟩
   · simp only[uZ,hn,and_self,if_true,hg,xM,aF,Nat.sub_zero,d]
     rw[if_pos ⟨by omega,xQ _⟩]
     have h3:mu (.int .i64 m) k=some m:=by
      simp only[mu,pS,xM]
      rw[if_pos]
      · rfl
      · omega
     simp [h3]
   · simp only[aW,if_true,hg,xM,xW]
     have e:m* n+(k-m)* n=k* n:=by rw[←yq];congr 1;omega
     rw[if_pos (by omega)]
     rw[yo]
     rw[List.length_drop];omega
def CN (e:zu):zq:=(e,zj e.vec)
theorem abv (l:List zq):l.map Yh=(l.map (·.1)).map CN:=by rw[adz];rfl
def AU (L:List zu) (at':Nat) (there:Bool) (e:zu):List zu:=if there then L.set at' e else L.take at'++e::L.drop at'
theorem UC (L:List zu):AV.aG (yR (L.map CN))=true:=LW fun x hx=>by obtain⟨e,_,rfl⟩:=ac2.1 hx;rfl
theorem MS (g:Nat→Option (List AV)) (fl m:Nat) (t:Bool):∀L:List zu,gV (snap g fl (m+1) t) (yR (L.map CN))=some (yR (L.map CN))
 |[]=>rfl
 | e :: L => by
   show gV (snap g fl (m+1) t) (.str e.name:: .bool e.gone::zj e.vec:: .int .i64 e.y0:: .int .i64 e.node:: .int .i64 e.method:: .str e.packed:: .int .i64 e.size:: .int .i64 e.DZ::yR (L.map CN))=_
   have ih:=MS g fl m t L
   have a:∀v,v=AV.str e.name∨v=.bool e.gone∨v=zj e.vec∨v=.int .i64 e.y0∨v=.int .i64 e.node∨v=.int .i64 e.method∨v=.str e.packed∨v=.int .i64 e.size∨v=.int .i64 e.DZ→snap g fl (m+1) t v=some v:=by
    rintro v (rfl|rfl|rfl|rfl|rfl|rfl|rfl|rfl|rfl)<;>rfl
   simp only[gV,a _ (.inl rfl),a _ (.inr (.inl rfl)),a _ (.inr (.inr (.inl rfl))),a _ (.inr (.inr (.inr (.inl rfl)))),a _ (.inr (.inr (.inr (.inr (.inl rfl))))),a _ (.inr (.inr (.inr (.inr (.inr (.inl rfl)))))),a _ (.inr (.inr (.inr (.inr (.inr (.inr (.inl rfl))))))),a _ (.inr (.inr (.inr (.inr (.inr (.inr (.inr (.inl rfl)))))))),a _ (.inr (.inr (.inr (.inr (.inr (.inr (.inr (.inr rfl)))))))),ih,xM]
   rfl
def Ec (L:List zu):AV:=CD 9 L.length (yR (L.map CN))
theorem OK (L:List zu):(Ec L).sc=true:=by unfold Ec CD;split<;>rfl
theorem OJ (g:H) (L:List zu):zZ 9 g (Ec L) (L.map CN).length (yR (L.map CN)):=by
 have:=IG (n:=9) (k:=L.length) (h:=g) (cs:=yR (L.map CN)) (by rw[BK,acV])
 rw[acV];exact this
theorem TC (g:H) {L:List zu} (h:Ai L=true):∀x∈L.map CN,BU g x∧x.2.sc=true:=fun x hx=>by
 obtain⟨e,he,rfl⟩:=ac2.1 hx
 unfold Ai at h
 rw[xR]at h
 obtain⟨_,m2,_⟩:=zG h.1
 obtain⟨t1,t2,t3⟩:=m2 e he
 have a:=A1 t1
 have b:=CL t3
 have c:=(Ac t2).1
 exact⟨⟨Bf g e.vec,by show e.vec.length<_;omega,by show e.name.size<_;omega,by show e.packed.size<_;omega⟩,rfl⟩
theorem yS.IZ {h:H} {v:AV} {L:List zu} {fl m:Nat} {t:Bool} (o:yS 9 h v L.length (yR (L.map CN))) (hf:fl≤h.floor):snap h.get fl (m+2) t v=some (Ec L):=by
 unfold Ec CD
 obtain⟨q0,⟨q1,q2⟩|⟨j,q1,q2,q3,q4⟩⟩:=o
 · rw[q1,q2];rfl
 · rw[q1,if_neg (by omega)]
   show(if j<fl then _ else _)=_
   rw[if_neg (by omega),q2,xM,if_pos (by omega),ac8,yo (by omega),MS]
   rfl
theorem Md {α:Type} {C:α→List AV} {n:Nat} (hC:∀x,(C x).length=n):∀(l:List α) (k:Nat),(l.flatMap C).take (k* n)=(l.take k).flatMap C
 |[],k=>by simp
 |x::l,0=>by simp
 | x :: l, k + 1 => by
   rw[acT,xY,acT,List.take_append,hC,yo (by rw[hC,yq];omega),show(k+1)* n-n=k* n by rw[yq];omega,Md hC l k]
theorem Mc {α:Type} {C:α→List AV} {n:Nat} (hC:∀x,(C x).length=n):∀(l:List α) (k:Nat),(l.flatMap C).drop (k* n)=(l.drop k).flatMap C
 |[],k=>by simp
 |x::l,0=>by simp
 | x :: l, k + 1 => by
   rw[acT,List.drop_succ_cons,List.drop_append,hC,List.drop_of_length_le (by rw[hC,yq];omega),adt,show(k+1)* n-n=k* n by rw[yq];omega,Mc hC l k]
theorem YJ (h:H) (v:AV) (l:List zq) (hvs:v.sc=true) (hl:l.length≤6) (rd:zZ 9 h v l.length (yR l)) (hv:∀x∈l,BU h x∧x.2.sc=true∧x.1.vec.length=4) (k:Nat) (there:Bool) (hk:k≤l.length) (hk2:there=true→k<l.length) (e:zu):
 aV AP.A 210 [.agg [v],.int .i64 k,.bool there,.agg (yO e (zj e.vec))] h=some (.agg [Ec (AU (l.map (·.1)) k there e)],h):=by
 obtain⟨E,hE⟩:∃E,E=yO e (zj e.vec):=⟨_,rfl⟩
 have lE:E.length=9:=by rw[hE];rfl
 have cE:AV.aG E=true:=by rw[hE];exact Cu rfl
 have fE:setFrom Z9 0 E=E:=by rw[hE];rfl
 have rE:jg true 9 E 0=some (.agg E):=by rw[hE];rfl
 rw[←hE]
 obtain⟨h1,eh1⟩:∃g,g=h.eV.alloc [v]:=⟨_,rfl⟩
 obtain⟨h2,eh2⟩:∃g,g=h1.alloc E:=⟨_,rfl⟩
 obtain⟨h3,eh3⟩:∃g,g=h2.alloc [.aT]:=⟨_,rfl⟩
 have n0:h.eV.next=h.next:=rfl
 have n1:h1.next=h.next+1:=by rw[eh1];simp
 have n2:h2.next=h.next+2:=by rw[eh2];simp [n1]
 have n3:h3.next=h.next+3:=by rw[eh3];simp [n2]
 have f3:h3.floor=h.next:=by rw[eh3,eh2,eh1];simp
 have x3:Ext h h3:=fun i c q=>by rw[eh3,eh2,eh1];exact((((Ext.refl h.eV).alloc _).alloc _).alloc _) i c q
 have z0:h3.get h.next=some [v]:=by rw[eh3,yN (by omega),eh2,yN (by omega),eh1];exact yG rfl
 have z1:h3.get (h.next+1)=some E:=by rw[eh3,yN (by omega),eh2,yG (by omega)]
 have z2:h3.get (h.next+2)=some [.aT]:=by rw[eh3,yG (by omega)]
 obtain⟨w,h4,k1,gen⟩:=Tg h3 (by omega) v l hvs hl (rd.mono fun i c q=>x3 i c q) (fun x hx=>⟨(hv x hx).1.mono x3,(hv x hx).2⟩)
 rw[abv]at gen
 obtain⟨L,hL⟩:∃L,L=l.map (·.1):=⟨_,rfl⟩
 have lL:L.length=l.length:=by rw[hL,acV]
 rw[←hL]at gen ⊢
 have f4:=gen.fl
 have n4:=gen.nx
 have o4:=gen.own
 have sw:=o4.sc
 have cw:=A4 sw
 obtain⟨Q,hQ⟩:∃Q,Q=h4.next:=⟨_,rfl⟩
 obtain⟨h5,eh5⟩:∃g,g=h4.alloc [.aT]:=⟨_,rfl⟩
 obtain⟨h6,eh6⟩:∃g,g=h5.set Q [w]:=⟨_,rfl⟩
 have n5:h5.next=Q+1:=by rw[eh5];simp [hQ]
 have n6:h6.next=Q+1:=by rw[eh6];simp [n5]
 have f6:h6.floor=h.next:=by rw[eh6,eh5];simp [f4,f3]
 have z5:h5.get Q=some [.aT]:=by rw[eh5,yG hQ]
 have st6:wP h5 Q 0 1 [w] (some [.aT])=some h6:=by rw[xm (by rw[eh5];simp;omega) (by simp) sw,eh6];rfl
 have low6:∀i,i<Q→h6.get i=h4.get i:=fun i hi=>by rw[eh6,yE (by omega),eh5,yN (by omega)]
 have zQ:h6.get Q=some [w]:=by rw[eh6,yM rfl,z5];rfl
 have y1:h6.get (h.next+1)=some E:=by rw[low6 _ (by omega)];exact gen.ext _ _ z1
 have y2:h6.get (h.next+2)=some [.aT]:=by rw[low6 _ (by omega)];exact gen.ext _ _ z2
 have wQ:∀i,w.id?=some i→h3.next≤i∧i<Q:=fun i q=>⟨gen.ge i q,by rw[hQ];exact(o4.lt q).2⟩
 have o6:yS 9 h6 w l.length (yR (L.map CN)):=o4.mono (by rw[f6,f4,f3]) fun i q=>low6 i (wQ i q).2
 have e1:h.eV.alloc [v]=h1:=eh1.symm
 have e2:h1.alloc E=h2:=eh2.symm
 have e3:h2.alloc [.aT]=h3:=eh3.symm
 have e5:h4.alloc [.aT]=h5:=eh5.symm
 have Q4:h4.next=Q:=hQ.symm
 cases there with
 | true =>
   have hk':=hk2 rfl
   obtain⟨hlen,⟨q1,q2⟩|⟨id,q1,q2,q3,q4⟩⟩:=o6
   · omega
   obtain⟨h7,eh7⟩:∃g,g=h6.set id (yR ((L.set k e).map CN)):=⟨_,rfl⟩
   obtain⟨h8,eh8⟩:∃g,g=h7.set (h.next+2) [w]:=⟨_,rfl⟩
   have hid:=wQ id (by rw[q1];rfl)
   have fs:setFrom (yR (L.map CN)) (k* 9) E=yR ((L.set k e).map CN):=by
    have:=NR CX (L.map CN) k (CN e) (by rw[acV,lL];exact hk')
    rw[List.map_set,hE];exact this
   have b1:ik 9 w (.int .i64 k)=some (.aH id (k* 9)):=by
    rw[q1,NV,U4 ⟨by omega,by omega⟩]
    show some (AV.aH id (0+(k:Int).toNat* 9))=_
    rw[Cx,xW]
   have st7:wP h6 id (k* 9) 9 E (some (yR (L.map CN)))=some h7:=by
    simp only[wP,xM]
    rw[if_pos ⟨q3,lE,by omega,cE⟩,fs,eh7]
   have zQ7:h7.get Q=some [w]:=by rw[eh7,yE (by omega)];exact zQ
   have y27:h7.get (h.next+2)=some [.aT]:=by rw[eh7,yE (by omega)];exact y2
   have st8:wP h7 (h.next+2) 0 1 [w] (some [.aT])=some h8:=by rw[xm (by rw[eh7];simp;omega) (by simp) sw,eh8];rfl
   have z8:h8.get (h.next+2)=some [w]:=by rw[eh8,yM rfl,y27];rfl
   have wl:AU L k true e=L.set k e:=rfl
   rw[wl]
   have o8:yS 9 h8 w (L.set k e).length (yR ((L.set k e).map CN)):=⟨by rw[BK,acV],.inr ⟨id,by rw[ac0,lL];exact q1,by rw[eh8,yE (by omega),eh7,yM rfl,q2];rfl,by rw[eh8,eh7];simp;omega,by rw[ac0];omega⟩⟩
   refine wN (fn:=AP.f210) (h2:=h8) (e:=[(8,.aH (h.next+2) 0)]) (vs:=[.agg [w]]) rfl rfl rfl ?_ (by simp only[AP.f210,dh,pB,oW,nu,tR,z8,vR];rfl) ?_
   · clear rd hv o4 gen o8 fs fE hE hL x3 low6 wQ q1
     generalize yR ((L.set k e).map CN)=Z at *
     generalize yR (L.map CN)=Y at *
     simp (disch:=omega)only[go_sem,yH,AP.f210,hvs,n0,e1,n1,e2,n2,e3,lE,cE,z0,Bi,k1,Q4,e5,z5,cw,st6,zQ,b1,y1,rE,q2,st7,zQ7,y27,st8]
   · have s:=o8.IZ (fl:=h.next) (m:=12) (t:=true) (by rw[eh8,eh7];simp;omega)
     show(gV (snap h8.get h.next 15 true) [w]).bind _=_
     have s':=o8.IZ (fl:=h.next) (m:=13) (t:=true) (by rw[eh8,eh7];simp;omega)
     simp only[gV,s',xM]
 | false =>
   obtain⟨P,hP⟩:∃P,P=h6.next:=⟨_,rfl⟩
   have hPQ:P=Q+1:=by omega
   obtain⟨h7,eh7⟩:∃g,g=h6.alloc [.aT]:=⟨_,rfl⟩
   have e7:h6.alloc [.aT]=h7:=eh7.symm
   have n7:h7.next=P+1:=by rw[eh7];simp [hP]
   have f7:h7.floor=h.next:=by rw[eh7];simp [f6]
   have low7:∀i,i<P→h7.get i=h6.get i:=fun i hi=>by rw[eh7,yN (by omega)]
   have zP7:h7.get P=some [.aT]:=by rw[eh7,yG hP]
   have zQ7:h7.get Q=some [w]:=by rw[low7 _ (by omega)];exact zQ
   have o7:yS 9 h7 w l.length (yR (L.map CN)):=o6.mono (by rw[f7,f6]) fun i q=>low7 i (by have:=wQ i q;omega)
   obtain⟨u,u1,u2,u3⟩:=o7.hi (by omega) hk
   rw[show yR (L.map CN)=(L.map CN).flatMap QF from rfl,Md CX,←List.map_take,show((L.take k).map CN).flatMap QF=yR ((L.take k).map CN)from rfl]at u2
   obtain⟨v1,h8,p1,p2,p3,p4,p5,p6⟩:=(yS.nil:yS 9 h7 .aT 0 []).join (z:=104) (by omega) (by omega) u2 (by rw[BK,acV,adl];omega) (UC _) (by simp [roomy];omega)
   have i1:∀j,v1.id?=some j→j=P+1:=fun j q=>by
    rcases p6 j q with q|q
    · cases q
    · omega
   rw[adt,xW]at p2
   have s1:=p2.sc
   have c1:=A4 s1
   have zP8:h8.get P=some [.aT]:=by rw[p5 P (by simp [AV.id?]) (by omega)];exact zP7
   obtain⟨h9,eh9⟩:∃g,g=h8.set P [v1]:=⟨_,rfl⟩
   have st9:wP h8 P 0 1 [v1] (some [.aT])=some h9:=by rw[xm (by rw[p3,f7];omega) (by simp) s1,eh9];rfl
   have zP9:h9.get P=some [v1]:=by rw[eh9,yM rfl,zP8];rfl
   have low9:∀i,i<P→h9.get i=h6.get i:=fun i hi=>by rw[eh9,yE (by omega),p5 i (by simp [AV.id?]) (by omega),low7 i hi]
   have n9:P+1≤h9.next:=by rw[eh9];simp;omega
   have f9:h9.floor=h.next:=by rw[eh9];simp [p3,f7]
   have o9:yS 9 h9 v1 k (yR ((L.take k).map CN)):=p2.mono (by rw[eh9];simp) fun i q=>by rw[eh9,yE (by have:=i1 i q;omega)]
   obtain⟨v2,h10,r1,r2,r3,r4,r5,r6⟩:=o9.push (by omega) (z:=104) (m:=1) (by omega) (by omega) E (by rw[lE]) cE (by simp [roomy];omega)
   have s2:=r2.sc
   have c2:=A4 s2
   have low10:∀i,i<P→h10.get i=h6.get i:=fun i hi=>by rw[r5 i (fun q=>by have:=i1 i q;omega) (by omega),low9 i hi]
   have zP10:h10.get P=some [v1]:=by rw[r5 P (fun q=>by have:=i1 P q;omega) (by omega)];exact zP9
   obtain⟨h11,eh11⟩:∃g,g=h10.set P [v2]:=⟨_,rfl⟩
   have st11:wP h10 P 0 1 [v2] (some [v1])=some h11:=by rw[xm (by rw[r3,f9];omega) (by simp) s2,eh11];rfl
   have zP11:h11.get P=some [v2]:=by rw[eh11,yM rfl,zP10];rfl
   have low11:∀i,i<P→h11.get i=h6.get i:=fun i hi=>by rw[eh11,yE (by omega),low10 i hi]
   have f11:h11.floor=h.next:=by rw[eh11];simp [r3,f9]
   have n11:P+2≤h11.next:=by rw[eh11];simp;omega
   have o11:yS 9 h11 v2 (k+1) (yR ((L.take k).map CN)++E):=r2.mono (by rw[eh11];simp) fun i q=>by rw[eh11,yE (by rw[r6]at q;have:=xF q;omega)]
   have w11:yS 9 h11 w l.length (yR (L.map CN)):=o6.mono (by rw[f11,f6]) fun i q=>low11 i (by have:=wQ i q;omega)
   obtain⟨u',t1,t2,t3⟩:=w11.lo (by omega) hk
   rw[show yR (L.map CN)=(L.map CN).flatMap QF from rfl,Mc CX,←List.map_drop,show((L.drop k).map CN).flatMap QF=yR ((L.drop k).map CN)from rfl]at t2
   obtain⟨v3,h12,m1,m2,m3,m4,m5,m6⟩:=o11.join (z:=104) (by omega) (by omega) t2 (by rw[BK,acV,List.length_drop];omega) (UC _) (by simp [roomy];omega)
   have i3:∀j,v3.id?=some j→P<j:=fun j q=>by
    rcases m6 j q with q|q
    · rw[r6]at q;have:=xF q;omega
    · omega
   have s3:=m2.sc
   have c3:=A4 s3
   have zP12:h12.get P=some [v2]:=by rw[m5 P (fun q=>by rw[r6]at q;have:=xF q;omega) (by omega)];exact zP11
   have low12:∀i,i<P→h12.get i=h6.get i:=fun i hi=>by rw[m5 i (fun q=>by rw[r6]at q;have:=xF q;omega) (by omega),low11 i hi]
   obtain⟨h13,eh13⟩:∃g,g=h12.set P [v3]:=⟨_,rfl⟩
   obtain⟨h14,eh14⟩:∃g,g=h13.set (h.next+2) [v3]:=⟨_,rfl⟩
   have st13:wP h12 P 0 1 [v3] (some [v2])=some h13:=by rw[xm (by rw[m3,f11];omega) (by simp) s3,eh13];rfl
   have zP13:h13.get P=some [v3]:=by rw[eh13,yM rfl,zP12];rfl
   have y13:h13.get (h.next+2)=some [.aT]:=by rw[eh13,yE (by omega),low12 _ (by omega)];exact y2
   have st14:wP h13 (h.next+2) 0 1 [v3] (some [.aT])=some h14:=by rw[xm (by rw[eh13];simp;omega) (by simp) s3,eh14];rfl
   have z14:h14.get (h.next+2)=some [v3]:=by rw[eh14,yM rfl,y13];rfl
   have wl:AU L k false e=L.take k++e::L.drop k:=rfl
   have lw:(AU L k false e).length=k+1+(l.length-k):=by rw[wl];simp;omega
   have cw':yR ((L.take k).map CN)++E++yR ((L.drop k).map CN)=yR ((AU L k false e).map CN):=by rw[wl,hE];simp [yR,QF,CN]
   have o14:yS 9 h14 v3 (AU L k false e).length (yR ((AU L k false e).map CN)):=by
    rw[lw,←cw']
    exact m2.mono (by rw[eh14,eh13];simp) fun i q=>by have:=i3 i q;rw[eh14,yE (by omega),eh13,yE (by omega)]
   have y9:h9.get Q=some [w]:=by rw[low9 _ (by omega)];exact zQ
   have y11:h11.get Q=some [w]:=by rw[low11 _ (by omega)];exact zQ
   have y91:h9.get (h.next+1)=some E:=by rw[low9 _ (by omega)];exact y1
   refine wN (fn:=AP.f210) (h2:=h14) (e:=[(8,.aH (h.next+2) 0)]) (vs:=[.agg [v3]]) rfl rfl rfl ?_ (by simp only[AP.f210,dh,pB,oW,nu,tR,z14,vR];rfl) ?_
   · have P6:h6.next=P:=hP.symm
     clear rd hv o4 gen o14 hE hL x3 low6 wQ o6 low7 o7 u2 p2 i1 low9 o9 r2 low10 low11 o11 w11 t2 m2 i3 low12 cw' wl lw hk2
     generalize yR (L.map CN)=Y at *
     simp (disch:=omega)only[go_sem,yH,AP.f210,hvs,n0,e1,n1,e2,n2,e3,lE,cE,fE,z0,Bi,k1,Q4,e5,z5,cw,st6,e7,P6,zP7,zQ7,u1,p1,zP8,c1,st9,zP9,y91,rE,r1,zP10,c2,st11,zP11,y11,t1,m1,zP12,c3,st13,zP13,y13,st14]
   · have s':=o14.IZ (fl:=h.next) (m:=13) (t:=true) (by rw[eh14,eh13];simp;omega)
     show(gV (snap h14.get h.next 15 true) [v3]).bind _=_
     simp only[gV,s',xM]
structure WX (h0 h:H) (w:Nat) (bs:List Nat) (ov:AV):Prop where
 wr:Wr h w bs ov
 ext:Ext h0 h
 lw:h0.next≤w
 ln:h0.next≤h.next
 lo:∀j,ov.id?=some j→h0.next≤j
theorem WX.step {h0 h h':H} {w:Nat} {bs bs':List Nat} {ov ov':AV} (x:WX h0 h w bs ov) (wr:Wr h' w bs' ov') (f:Lh h w ov h' ov'):WX h0 h' w bs' ov':=
 ⟨wr,fun i c hi=>by
  have:=h0.lt _ _ hi
  have:=x.ln
  have:=x.lw
  rw[f.Ad i (by omega) (by omega) (fun q=>by have:=x.lo i q;omega),x.ext i c hi],x.lw,by have:=f.next;have:=x.ln;omega,fun j hj=>by
  rcases f.ids j hj with q|q
  · exact x.lo j q
  · have:=x.ln;omega⟩
theorem WX.turn {h0 h h':H} {w:Nat} {bs:List Nat} {ov:AV} (x:WX h0 h w bs ov) (hf:h'.floor=h.floor) (hn:h.next≤h'.next) (hk:∀i,i<h.next→h'.get i=h.get i):WX h0 h' w bs ov:=
 ⟨⟨by rw [hk w (h.lt _ _ x.wr.get), x.wr.get], x.wr.own.mono hf fun i q => hk i (x.wr.own.lt q).2, by rw [hf]; exact x.wr.fl, by rw [hf]; exact yw x.wr.QG hn, x.wr.ne, x.wr.Uv⟩,
   fun i c hi=>by have:=h0.lt _ _ hi;have:=x.ln;rw[hk i (by omega),x.ext i c hi],x.lw,yw x.ln hn,x.lo⟩
def Iw (E:List (Int×Int)) (s:Nat):Prop:=∃n v:Nat,E[s]?=some ((n:Int),(v:Int))∧1≤n∧n≤15∧v<2^n
def yW (E:List (Int×Int)) (s:Nat):List Nat:=CK (E.getD s (0,0)).2.toNat (E.getD s (0,0)).1.toNat
theorem Iw.bits {E:List (Int×Int)} {s:Nat} (o:Iw E s):∃n v:Nat,E[s]?=some ((n:Int),(v:Int))∧1≤n∧n≤15∧v<2^n∧yW E s=CK v n:=by
 obtain⟨n,v,h,h1,h2,h3⟩:=o
 refine⟨n,v,h,h1,h2,h3, ?_⟩
 unfold yW
 rw[acM,h];rfl
theorem Iw.lt {E:List (Int×Int)} {s:Nat} (o:Iw E s):s<E.length:=by
 obtain⟨n,v,h,_⟩:=o
 exact(xL.1 h).1
theorem zZ.O8 {h:H} {v:AV} {E:List (Int×Int)} (r:zZ 2 h v E.length (E.flatMap Ax)):∃ad:Int→AV,
 (∀i:Int,0≤i∧i<E.length→ik 2 v (.int .i64 i)=some (ad i))∧
 ∀g:H,Ext h g→∀(i:Nat) (p:Int×Int),E[i]?=some p→cq true 2 (ad i) g=some (.agg [.int .i64 p.1,.int .i64 p.2]):=by
 obtain⟨ad,a1,a2,_,a3⟩:=r.at_
 refine⟨fun i=>ad i 0,a1,fun g hg i t ht=> ?_⟩
 obtain⟨b1,b2⟩:=a3 g hg
 have hi:i<E.length:=(xL.1 ht).1
 have hI:(0:Int)≤(i:Int)∧(i:Int)<E.length:=⟨by omega,by omega⟩
 have ti:((i:Int)).toNat=i:=by omega
 rw[b2 i hI,ti,Hv Dq ht];rfl
def zC (E D:List (Int×Int)) (t:Tok):List Nat:=
 if t.len=0 then yW E t.lit.toNat
 else yW E (Au t.len.toNat)++(zf (DW t.len.toNat) (Dj t.len.toNat)++(yW D (AM t.zm.toNat)++zf (DV t.zm.toNat) (Dc t.zm.toNat)))
def Az (E D:List (Int×Int)) (ts:List Tok):List Nat:=ts.flatMap (zC E D)
def QH (E D:List (Int×Int)) (t:Tok):Prop:=
 (t.len=0∧0≤t.lit∧Iw E t.lit.toNat)∨(3≤t.len∧t.len≤258∧1≤t.zm∧t.zm≤32768∧Iw E (Au t.len.toNat)∧Iw D (AM t.zm.toNat))
theorem KQ {k:Nat} (h1:3≤k) (h2:k≤258):Dj k≤5∧DW k<2^Dj k:=by
 obtain⟨a1,a2,a3,a4⟩:=Dm h1 h2
 obtain⟨a,b,hab⟩:=E8 a1 a2
 have:=F7 hab
 refine⟨by unfold Dj;rw[hab];show b≤5;omega, ?_⟩
 unfold DW Dj;omega
theorem KK {k:Nat} (h1:1≤k) (h2:k≤32768):Dc k≤13∧DV k<2^Dc k:=by
 obtain⟨a2,a3,a4⟩:=De h1 h2
 obtain⟨a,b,hab⟩:=D9 a2
 have:=Eo hab
 refine⟨by unfold Dc;rw[hab];show b≤13;omega, ?_⟩
 unfold DV Dc;omega
theorem Hn {E D:List (Int×Int)} {t:Tok} (o:QH E D t):(zC E D t).length≤48:=by
 rcases o with ⟨h1,h2,h3⟩|⟨h1,h2,h3,h4,h5,h6⟩
 · obtain⟨n,v,_,q1,q2,q3,q4⟩:=h3.bits
   rw[zC,if_pos h1,q4,zN];omega
 · obtain⟨n,v,_,q1,q2,q3,q4⟩:=h5.bits
   obtain⟨n',v',_,q1',q2',q3',q4'⟩:=h6.bits
   have l:=KQ (k:=t.len.toNat) (by omega) (by omega)
   have d:=KK (k:=t.zm.toNat) (by omega) (by omega)
   rw[zC,if_neg (by omega),q4,q4']
   simp only[yy,zN,zf,zy];omega
theorem Qy {v lv dv:AV} {ts:List Tok} {E D:List (Int×Int)} (hn:ts.length<1000000) (h0:H) (rd:zZ 3 h0 v ts.length (zS ts)) (rl:zZ 2 h0 lv E.length (E.flatMap Ax)) (rx:zZ 2 h0 dv D.length (D.flatMap Ax)) (w i:Nat) (t:Tok) (ht:ts[i]?=some t) (o:QH E D t) (h:H) (bs:List Nat) (ov:AV) (x:WX h0 h w bs ov) (hb:bs.length+48≤65000):
 ∃h' ov',aP (aV AP.A) bL AP.f36L0 (aC [(0,.aH w 0),(1,v),(2,lv),(3,dv),(8,.int .i64 i)] [0,1,2,3,8]) h=some (.normal,[(0,.aH w 0),(1,v),(2,lv),(3,dv),(8,.int .i64 (i+1:Nat))],h')∧WX h0 h' w (bs++zC E D t) ov':=by
 have ln:=rd.len
 obtain⟨ad,a1,a2,a3⟩:=rd.Qw
 have hi:i<ts.length:=(xL.1 ht).1
 have hI:(0:Int)≤(i:Int)∧(i:Int)<ts.length:=⟨by omega,by omega⟩
 have b1:=a1 _ hI
 have b2:=a2 i 0 1 hI
 have b20:=a2 i 0 0 hI
 have b22:=a2 i 0 2 hI
 obtain⟨b3,b4,b5,_⟩:=a3 h x.ext _ _ ht
 obtain⟨le,l1,l2⟩:=rl.O8
 have n1:((i+1:Nat):Int)=(i:Int)+1:=by omega
 rcases o with ⟨c0,h2,h3⟩|⟨h1,h2,h3,h4,h5,h6⟩
 · obtain⟨y,hy⟩:∃y:Nat,t.lit=y:=acS h2
   have yt:t.lit.toNat=y:=by omega
   have yl:=h3.lt
   obtain⟨n,c,q0,q1,q2,q3,q4⟩:=h3.bits
   rw[yt]at q0 q4 yl
   have e1:=l1 y ⟨by omega,by omega⟩
   have e2:=l2 h x.ext _ _ q0
   obtain⟨h',ov',k1,k2,k3⟩:=Gu x.wr c n q1 q2 q3 (by omega)
   rw[hy]at b3
   rw[c0]at b4
   refine⟨h',ov', ?_, ?_⟩
   · rw[n1]
     clear rd rl rx a1 a2 a3 l1 l2 x k2 k3 q4 b5 h3 ht q3
     simp (disch:=omega)only[go_sem,yH,AP.f36L0,ln,b1,b2,b20,b3,b4,e1,e2,k1]
   · rw[zC,if_pos c0,yt,q4]
     exact x.step k2 k3
 · obtain⟨L,hL⟩:∃y:Nat,t.len=y:=acS (by omega)
   obtain⟨K,hK⟩:∃y:Nat,t.zm=y:=acS (by omega)
   have Lt:t.len.toNat=L:=by omega
   have Kt:t.zm.toNat=K:=by omega
   rw[Lt]at h5
   rw[Kt]at h6
   have lb:=KQ (k:=L) (by omega) (by omega)
   have db:=KK (k:=K) (by omega) (by omega)
   obtain⟨de,d1,d2⟩:=rx.O8
   have ll:=h5.lt
   have dl:=h6.lt
   obtain⟨n,c,q0,q1,q2,q3,q4⟩:=h5.bits
   obtain⟨n',c',p0,p1,p2,p3,p4⟩:=h6.bits
   have kl:∀g:H,aV AP.A 28 [.int .i64 L] g=_:=fun g=>Mo g L (by omega) (by omega)
   have kd:∀g:H,aV AP.A 29 [.int .i64 K] g=_:=fun g=>Rc g K (by omega) (by omega)
   have e1:=l1 (Au L) ⟨by omega,by omega⟩
   have f1:=d1 (AM K) ⟨by omega,by omega⟩
   obtain⟨h1',eh1⟩:∃g,g=(h.alloc [.int .i64 0,.int .i64 0,.int .i64 0]).set h.next [.int .i64 (Au L:Nat),.int .i64 (Dj L:Nat),.int .i64 (DW L:Nat)]:=⟨_,rfl⟩
   have x1:WX h0 h1' w bs ov:=x.turn (by rw[eh1];simp) (by rw[eh1];simp) fun j hj=>by rw[eh1,yE (by omega),yN (by omega)]
   have g1:h1'.get h.next=some [.int .i64 (Au L:Nat),.int .i64 (Dj L:Nat),.int .i64 (DW L:Nat)]:=by rw[eh1,yM rfl,yG rfl];rfl
   have nx1:h1'.next=h.next+1:=by rw[eh1];simp
   have e2:=l2 h1' x1.ext _ _ q0
   obtain⟨h2',o2,k1,k2,k3⟩:=Gu x1.wr c n q1 q2 q3 (by omega)
   have x2:=x1.step k2 k3
   have hw:=h.lt _ _ x.wr.get
   have hon:ov.id?≠some h.next:=fun q=>by have:=(x.wr.own.lt q).2;omega
   have g2:h2'.get h.next=_:=(k3.Ad h.next (by omega) (by omega) hon).trans g1
   obtain⟨h3',o3,k4,k5,k6⟩:=CU x2.wr (DW L) (Dj L) (by omega) lb.2 (by simp [zN];omega)
   have x3:=x2.step k5 k6
   have nx3:h1'.next≤h3'.next:=yw k3.next k6.next
   obtain⟨_,_,b5',_⟩:=a3 h3' x3.ext _ _ ht
   obtain⟨h4,eh4⟩:∃g,g=(h3'.alloc [.int .i64 0,.int .i64 0,.int .i64 0]).set h3'.next [.int .i64 (AM K:Nat),.int .i64 (Dc K:Nat),.int .i64 (DV K:Nat)]:=⟨_,rfl⟩
   have x4:WX h0 h4 w _ o3:=x3.turn (h':=h4) (by rw[eh4];simp) (by rw[eh4];simp) fun j hj=>by rw[eh4,yE (by omega),yN (by omega)]
   have g4:h4.get h3'.next=some [.int .i64 (AM K:Nat),.int .i64 (Dc K:Nat),.int .i64 (DV K:Nat)]:=by rw[eh4,yM rfl,yG rfl];rfl
   have f2:=d2 h4 x4.ext _ _ p0
   obtain⟨h5',o5,m1,m2,m3⟩:=Gu x4.wr c' n' p1 p2 p3 (by simp [zN,zf,zy];omega)
   have x5:=x4.step m2 m3
   have hw3:=h3'.lt _ _ x3.wr.get
   have hon3:o3.id?≠some h3'.next:=fun q=>by have:=(x3.wr.own.lt q).2;omega
   have g5:h5'.get h3'.next=_:=(m3.Ad h3'.next (by rw[eh4];simp) (by omega) hon3).trans g4
   obtain⟨h6',o6,m4,m5,m6⟩:=CU x5.wr (DV K) (Dc K) (by omega) db.2 (by simp [zN,zf,zy];omega)
   have x6:=x5.step m5 m6
   rw[hL]at b4
   rw[hK]at b5'
   have fl1:h.floor≤h.next:=x.wr.QG
   have fl3:h3'.floor≤h3'.next:=x3.wr.QG
   have cL:¬(L:Int)=0:=by omega
   refine⟨h6',o6, ?_, ?_⟩
   · rw[n1]
     clear rd rl rx a1 a2 a3 l1 l2 d1 d2 x x1 x2 x3 x4 x5 x6 k2 k3 k5 k6 m2 m3 m5 m6 q4 p4 b5 h5 h6 ht b3 hon hon3 lb db p3 q3 hI hb
     generalize Au L=S at *
     generalize Dj L=B at *
     generalize DW L=V at *
     generalize AM K=S' at *
     generalize Dc K=B' at *
     generalize DV K=V' at *
     simp (disch:=omega)only[go_sem,yH,AP.f36L0,ln,b1,b2,b22,b4,b5',e1,e2,f1,f2,kl,kd,cL,←eh1,←eh4,g1,g2,g4,g5,k1,k4,m1,m4]
   · rw[zC,if_neg (by omega),Lt,Kt,q4,p4]
     rw[acY,acY,acY]at x6
     exact x6
theorem Kl {E D:List (Int×Int)}:∀{ts:List Tok},(∀t∈ts,QH E D t)→(Az E D ts).length≤48* ts.length
 |[],_=>by simp [Az]
 | t :: ts, h => by
   have a:=Hn (h t (by simp))
   have b:=Kl (E:=E) (D:=D) (ts:=ts) fun u hu=>h u (by simp [hu])
   unfold Az at *
   simp only[acT,yy,acN];omega
theorem Kn {v lv dv:AV} {ts:List Tok} {E D:List (Int×Int)} (hn:ts.length<1000000) (h0:H) (rd:zZ 3 h0 v ts.length (zS ts)) (rl:zZ 2 h0 lv E.length (E.flatMap Ax)) (rx:zZ 2 h0 dv D.length (D.flatMap Ax)) (ok:∀t∈ts,QH E D t) (w:Nat):∀(q p:List Tok) (bs:List Nat) (h:H) (ov:AV),ts=p++q→WX h0 h w bs ov→bs.length+48* q.length≤65000→
 ∃e' h' ov',Lp AP.A [0,1,2,3,8] AP.f36L0 [(0,.aH w 0),(1,v),(2,lv),(3,dv),(8,.int .i64 p.length)] h=some (.exit 0,e',h')∧look e' 0=.aH w 0∧look e' 2=lv∧WX h0 h' w (bs++Az E D q) ov'
 | [], p, bs, h, ov, hp, x, hb => by
   rw[acU]at hp;subst hp
   have ln:=rd.len
   refine⟨[(0,.aH w 0),(1,v),(2,lv),(3,dv),(8,.int .i64 ts.length),(16,.bool false)],h,ov,vW ?_,rfl,rfl,by simpa [Az]using x⟩
   simp (disch:=omega)only[go_sem,yH,AP.f36L0,ln]
 | t :: q, p, bs, h, ov, hp, x, hb => by
   have ht:ts[p.length]?=some t:=by rw[hp];simp
   have o:=ok t (xV ht)
   have tl:=Hn o
   simp only[acN]at hb
   obtain⟨h1,o1,s1,x1⟩:=Qy hn h0 rd rl rx w p.length t ht o h bs ov x (by omega)
   have hlen:(((p++[t]).length:Nat):Int)=((p.length+1:Nat):Int):=by simp
   obtain⟨e',h',ov',r1,r2,r3,r4⟩:=Kn hn h0 rd rl rx ok w q (p++[t]) _ h1 o1 (by rw[hp];simp) x1 (by simp;omega)
   rw[hlen]at r1
   refine⟨e',h',ov',vX s1 r1,r2,r3, ?_⟩
   have e:bs++Az E D (t::q)=bs++zC E D t++Az E D q:=by unfold Az;rw[acT,acY]
   rw[e];exact r4
theorem SF {v lv dv:AV} {ts:List Tok} {E D:List (Int×Int)} (hn:ts.length<1000000) (h0:H) (rd:zZ 3 h0 v ts.length (zS ts)) (rl:zZ 2 h0 lv E.length (E.flatMap Ax)) (rx:zZ 2 h0 dv D.length (D.flatMap Ax)) (ok:∀t∈ts,QH E D t) (o256:Iw E 256) (w:Nat) (bs:List Nat) (h:H) (ov:AV) (x:WX h0 h w bs ov) (hb:bs.length+48* ts.length≤65000):
 ∃h' ov',aV AP.A 36 [.aH w 0,v,lv,dv] h=some (.cf [],h')∧WX h0 h' w (bs++(Az E D ts++yW E 256)) ov':=by
 obtain⟨e',h1,o1,r1,r2,r3,x1⟩:=Kn hn h0 rd rl rx ok w ts [] bs h ov rfl x hb
 have r1':Lp AP.A [0,1,2,3,8] AP.f36L0 [(0,.aH w 0),(1,v),(2,lv),(3,dv),(8,.int .i64 0)] h=some (.exit 0,e',h1):=r1
 obtain⟨n,c,q0,q1,q2,q3,q4⟩:=o256.bits
 obtain⟨le,l1,l2⟩:=rl.O8
 have ll:=o256.lt
 have e1:=l1 256 ⟨by omega,by omega⟩
 have e2:cq true 2 (le 256) h1=_:=l2 h1 x1.ext _ _ q0
 have tb:=Kl ok
 obtain⟨h',ov',k1,k2,k3⟩:=Gu x1.wr c n q1 q2 q3 (by rw[yy];omega)
 have x2:=x1.step k2 k3
 rw[←q4,acY]at x2
 obtain⟨e2',he⟩:∃e2',aP (aV AP.A) bL AP.f36.body (params 0 [.aH w 0,v,lv,dv]) h=some (.normal,e2',h'):=by
  clear rd rl rx x x1 k2 k3 x2 q4 l1 l2 ok o256 r1
  refine⟨?_, ?_⟩
  rotate_left
  · simp (disch:=omega)only[go_sem,yH,AP.f36,u9,r1',r2,r3,e1,e2,k1]
    rfl
 exact⟨h',ov',zr (fn:=AP.f36) (e:=e2') (vs:=[]) rfl rfl rfl he rfl,x2⟩
structure Ro (h:H) (f:Nat) (vs:List AV) (cs:List (List AV)):Prop where
 get:h.get f=some vs
 own:∀(i:Nat) (v:AV) (c:List AV),vs[i]?=some v→cs[i]?=some c→yS 1 h v c.length c
 len:vs.length=cs.length
 ne:∀(i:Nat) (v:AV),vs[i]?=some v→v.id?≠some f
 OA:∀(i j:Nat) (v u:AV),i≠j→vs[i]?=some v→vs[j]?=some u→∀id,v.id?=some id→u.id?≠some id
 fl:h.floor≤f
 QG:h.floor≤h.next
structure Lo (h h':H):Prop where
 floor:h'.floor=h.floor
 next:h.next≤h'.next
 Ad:∀i,i<h.floor→h'.get i=h.get i
theorem Lo.refl (h:H):Lo h h:=⟨rfl,xQ _,fun _ _=>rfl⟩
theorem Lo.trans {a b c:H} (x:Lo a b) (y:Lo b c):Lo a c:=⟨y.floor.trans x.floor,yw x.next y.next,fun i hi=>(y.Ad i (by rw[x.floor];exact hi)).trans (x.Ad i hi)⟩
theorem Ext.lo {h0 a b:H} (x:Ext h0 a) (y:Lo a b) (hf:a.floor=h0.next):Ext h0 b:=fun i c hi=>by
 rw[y.Ad i (by rw[hf];exact h0.lt _ _ hi),x i c hi]
theorem Ro.push {h : H} {f : Nat} {vs : List AV} {cs : List (List AV)} (r : Ro h f vs cs) (k : Nat) {v : AV} {c : List AV} (hv : vs[k]? = some v) (hc : cs[k]? = some c) (x : AV) (sc : x.sc = true) {z : Nat} (hz : roomy z (c.length + 1) = true) :
 ∃v' h1,mR (h.alloc [x]) 1 z v (.aI h.next 0 1 1)=some (v',h1)∧h1.get f=some vs∧h1.floor=h.floor∧Ro (h1.set f (vs.set k v')) f (vs.set k v') (cs.set k (c++[x]))∧Lo h (h1.set f (vs.set k v')):=by
 have o:=r.own k v c hv hc
 have hfl:=h.lt _ _ r.get
 obtain⟨v',h1,p1,p2,p3,p4,p5,p6⟩:=o.push r.QG (z:=z) (m:=1) (by omega) (by omega) [x] rfl (by simp [AV.aG,sc]) hz
 have hk:k<vs.length:=(xL.1 hv).1
 have gf:h1.get f=some vs:=by rw[p5 f (r.ne k v hv) hfl,r.get]
 have key:∀(i:Nat) (u:AV),(vs.set k v')[i]?=some u→(i=k∧u=v')∨(i≠k∧vs[i]?=some u):=by
  intro i u hu
  by_cases e:k=i
  · subst e
    rw[ac3,if_pos rfl,if_pos hk]at hu
    exact .inl ⟨rfl,(xF hu).symm⟩
  · rw[ac3,if_neg e]at hu
    exact .inr ⟨fun q=>e q.symm,hu⟩
 have jG:∀(i:Nat) (u:AV),vs[i]?=some u→∀id,u.id?=some id→id<h.next:=by
  intro i u hu id hid
  have hi:i<cs.length:=by rw[←r.len];exact(xL.1 hu).1
  exact((r.own i u _ hu (acQ hi)).lt hid).2
 refine⟨v',h1,p1,gf,p3,⟨?_, ?_, ?_, ?_, ?_, ?_, ?_⟩,⟨by simp [p3],by simp;omega, ?_⟩⟩
 · rw[yM rfl,gf];rfl
 · intro i u d hu hd
   rcases key i u hu with ⟨rfl,rfl⟩|⟨hne,hu⟩
   · rw[ac3,if_pos rfl,if_pos (by rw[←r.len];exact hk)]at hd
     obtain rfl:=xF hd
     have:(c++[x]).length=c.length+1:=by simp
     rw[this]
     exact p2.mono (by simp) fun j hj=>by rw[yE];rw[p6]at hj;have:=xF hj;omega
   · rw[ac3,if_neg (fun q=>hne q.symm)]at hd
     exact(r.own i u d hu hd).mono (by simp [p3]) fun j hj=>by
      rw[yE (fun q=>r.ne i u hu (by rw[hj,q])),p5 j (fun q=>r.OA i k u v hne hu hv j hj q) (jG i u hu j hj)]
 · simp [r.len]
 · intro i u hu
   rcases key i u hu with ⟨rfl,rfl⟩|⟨hne,hu⟩
   · rw[p6];intro q;have:=xF q;omega
   · exact r.ne i u hu
 · intro i j u w hij hu hw id hid
   rcases key i u hu with ⟨e1,e2⟩|⟨hne,hu2⟩
   · rcases key j w hw with ⟨e3,e4⟩|⟨hne2,hw2⟩
     · exact absurd (e1.trans e3.symm) hij
     · intro q;have:=jG j w hw2 id q;rw[e2,p6]at hid;have:=xF hid;omega
   · rcases key j w hw with ⟨e3,e4⟩|⟨hne2,hw2⟩
     · intro q;have:=jG i u hu2 id hid;rw[e4,p6]at q;have:=xF q;omega
     · exact r.OA i j u w hij hu2 hw2 id hid
 · simpa [p3]using r.fl
 · simp [p3];have:=r.QG;omega
 · intro i hi
   have:=r.fl
   rw[yE (by omega),p5 i (fun q=>by have:=(o.lt q).1;omega) (by have:=r.QG;omega)]
theorem Ro.put {h:H} {f:Nat} {vs:List AV} {cs:List (List AV)} (r:Ro h f vs cs) (k i:Nat) {v:AV} {c:List AV} (hv:vs[k]?=some v) (hc:cs[k]?=some c) (x:AV) (sc:x.sc=true) (hi:i<c.length):
 ∃id,v=.aI id 0 c.length 1∧h.get id=some c∧h.floor≤id∧id≠f∧(∀(j:Nat) (u:AV),j≠k→vs[j]?=some u→u.id?≠some id)∧Ro (h.set id (c.set i x)) f vs (cs.set k (c.set i x))∧Lo h (h.set id (c.set i x)):=by
 have o:=r.own k v c hv hc
 rcases o.2 with ⟨_,q⟩|⟨id,q1,q2,q3,q4⟩
 · omega
 have hid:v.id?=some id:=by rw[q1];rfl
 have hne:id≠f:=fun q=>r.ne k v hv (by rw[hid,q])
 have hk:k<vs.length:=(xL.1 hv).1
 refine⟨id,q1,q2,q3,hne,fun j u hj hu q=>r.OA j k u v hj hu hv id q hid,⟨?_, ?_, ?_,r.ne,r.OA,by simpa using r.fl,by simpa using r.QG⟩,⟨by simp,by simp,fun j hj=>by rw[yE (by omega)]⟩⟩
 · rw[yE hne.symm,r.get]
 · intro j u d hu hd
   by_cases e:k=j
   · subst e
     rw[hv]at hu
     obtain rfl:=xF hu
     rw[ac3,if_pos rfl,if_pos (by rw[←r.len];exact hk)]at hd
     obtain rfl:=xF hd
     have lc:(c.set i x).length=c.length:=ac0
     rw[lc]
     exact⟨by omega,.inr ⟨id,q1,by rw[yM rfl,q2];rfl,by simpa using q3,q4⟩⟩
   · rw[ac3,if_neg e]at hd
     exact(r.own j u d hu hd).mono (by simp) fun m hm=>by rw[yE];intro q;subst q;exact r.OA j k u v (fun q=>e q.symm) hu hv m hm hid
 · simp [r.len]
def Jt (F:List Bool):List AV:=F.map .bool
theorem Fx (F:List Bool):(Jt F).length=F.length:=by simp [Jt]
theorem Ta {F:List Bool} {i:Nat} {b:Bool} (h:F[i]?=some b):(Jt F)[i]?=some (.bool b):=by simp [Jt,h]
abbrev UB (W U:List Int) (F:List Bool):List (List AV):=[ints W,ints U,Jt F]
theorem yS.cells {n:Nat} {h:H} {v:AV} {k:Nat} {cs:List AV} (o:yS n h v k cs):v.cells=[v]:=by
 rcases o.2 with ⟨e,_⟩|⟨id,e,_⟩<;>rw[e]<;>rfl
theorem Rj {h:H} {f:Nat} {W U:List Int} {F:List Bool} {wv uv fv:AV} (r:Ro h f [wv,uv,fv] (UB W U F)) (x:Int) (hl:W.length<100000∧U.length<100000∧F.length<100000):
 ∃h' wv' uv' fv',aV AP.A 70 [.aH f 0,.int .i64 x] h=some (.cf [],h')∧Ro h' f [wv',uv',fv'] (UB (W++[x]) (U++[-1]) (F++[true]))∧Lo h h':=by
 have rz:∀n z,n<100000→1≤z→z≤8→roomy z (n+1)=true:=fun n z h1 h2 h3=>A9 ⟨h2,by
  have:(n+1+(n+1)/4+512)* z≤1000000* 8:=adA (by omega) h3
  omega⟩
 obtain⟨v1,h1,a1,a2,a3,a4,a5⟩:=r.push 0 rfl rfl (.int .i64 x) rfl (z:=8) (rz _ _ (by rw[rY];exact hl.1) (by omega) (by omega))
 simp only[List.set_cons_zero]at a4 a5
 obtain⟨g1,eg1⟩:∃g,g=h1.set f [v1,uv,fv]:=⟨_,rfl⟩
 rw[←eg1]at a4 a5
 obtain⟨v2,h2,b1,b2,b3,b4,b5⟩:=a4.push 1 rfl rfl (.int .i64 (-1)) rfl (z:=8) (rz _ _ (by rw[rY];exact hl.2.1) (by omega) (by omega))
 simp only[List.set_cons_succ,List.set_cons_zero]at b4 b5
 obtain⟨g2,eg2⟩:∃g,g=h2.set f [v1,v2,fv]:=⟨_,rfl⟩
 rw[←eg2]at b4 b5
 obtain⟨v3,h3,c1,c2,c3,c4,c5⟩:=b4.push 2 rfl rfl (.bool true) rfl (z:=1) (rz _ _ (by rw[Fx];exact hl.2.2) (by omega) (by omega))
 simp only[List.set_cons_succ,List.set_cons_zero]at c4 c5
 obtain⟨g3,eg3⟩:∃g,g=h3.set f [v1,v2,v3]:=⟨_,rfl⟩
 rw[←eg3]at c4 c5
 have e:UB (W++[x]) (U++[-1]) (F++[true])=[ints W++[.int .i64 x],ints U++[.int .i64 (-1)],Jt F++[.bool true]]:=by
  unfold UB Jt;rw[rX,rX,adk];rfl
 have gf:=r.get
 have gf1:=a4.get
 have gf2:=b4.get
 have f1:h1.floor≤f:=by have:=r.fl;omega
 have f2:h2.floor≤f:=by have:=a4.fl;omega
 have f3:h3.floor≤f:=by have:=b4.fl;omega
 have k1:=(a4.own 0 _ _ rfl rfl).cells
 have k2:=(b4.own 1 _ _ rfl rfl).cells
 have k3:=(c4.own 2 _ _ rfl rfl).cells
 have s1:v1.sc=true:=(a4.own 0 _ _ rfl rfl).sc
 have s2:v2.sc=true:=(b4.own 1 _ _ rfl rfl).sc
 have s3:v3.sc=true:=(c4.own 2 _ _ rfl rfl).sc
 refine⟨g3,v1,v2,v3,zr (fn:=AP.f70) (e:=[]) (vs:=[]) rfl rfl rfl ?_ rfl,by rw[e];exact c4,a5.trans (b5.trans c5)⟩
 clear a4 a5 b4 b5 c4 c5 r e rz
 simp (disch:=omega)only[go_sem,yH,AP.f70,gf,gf1,gf2,a1,a2,b1,b2,c1,c2,s1,s2,s3,k1,k2,k3,f1,f2,f3,←eg1,←eg2,←eg3]
def Ae (W:List Int) (F:List Bool):Nat→Nat→Int→Int
 |0,_,a=>a
 |m+1,i,a=>Ae W F m (i+1) (if F.getD i false=true∧(a<0∨W.getD i 0<W.getD a.toNat 0)then i else a)
theorem E5 {W:List Int} {F:List Bool} {n:Nat}:∀(m i:Nat) (a:Int),i+m=n→(a= -1∨(0≤a∧a<n))→(Ae W F m i a= -1∨(0≤Ae W F m i a∧Ae W F m i a<n))
 |0,i,a,_,h=>h
 | m + 1, i, a, hi, h => by
   rw[Ae]
   refine E5 m (i+1) _ (by omega) ?_
   split
   · right;omega
   · exact h
theorem G4 {h : H} {f iw ifr n : Nat} {uv : AV} {W : List Int} {F : List Bool} (gf : h.get f = some [.aI iw 0 n 1, uv, .aI ifr 0 n 1]) (gw : h.get iw = some (ints W)) (gb : h.get ifr = some (Jt F)) (hW : W.length = n) (hF : F.length = n) (hn : n < 100000) : ∀ (m i : Nat) (a : Int), i + m = n → (a = -1 ∨ (0 ≤ a ∧ a < n)) →
 Lp AP.A [0,3,4] AP.f71L0 [(0,.aH f 0),(3,.int .i64 a),(4,.int .i64 i)] h=some (.exit 0,[(0,.aH f 0),(3,.int .i64 (Ae W F m i a)),(4,.int .i64 n),(11,.bool false)],h)
 | 0, i, a, hi, ha => by
   obtain rfl:i=n:=by omega
   refine vW ?_
   rw[Ae]
   simp (disch:=omega)only[go_sem,yH,AP.f71L0,gf]
 | m + 1, i, a, hi, ha => by
   have lw:(ints W).length=n:=by rw[rY,hW]
   have lb:(Jt F).length=n:=by rw[Fx,hF]
   have n1:((i+1:Nat):Int)=(i:Int)+1:=by omega
   obtain⟨b,hb⟩:∃b,F[i]?=some b:=⟨_,acQ (by omega)⟩
   obtain⟨x,hx⟩:∃x,W[i]?=some x:=⟨_,acQ (by omega)⟩
   have gb':=Ta hb
   have gx:=vG hx
   simp only[I]at gx
   have fb:F.getD i false=b:=by rw[acM,hb];rfl
   have fx:W.getD i 0=x:=by rw[acM,hx];rfl
   have hk:0≤a→∃k:Nat,a=k∧k<n∧(ints W)[k]?=some (.int .i64 (W.getD k 0)):=fun h0=>by
    refine⟨a.toNat,by omega,by omega, ?_⟩
    have:=vG (l:=W) (i:=a.toNat) (x:=W.getD a.toNat 0) (by rw[acM,acQ (by omega)];rfl)
    exact this
   have r1:=G4 gf gw gb hW hF hn m (i+1) (if F.getD i false=true∧(a<0∨W.getD i 0<W.getD a.toNat 0)then i else a) (by omega) (by
    split
    · right;omega
    · exact ha)
   rw[Ae]
   refine vX ?_ r1
   rw[n1,fb,fx]
   clear r1 hb hx
   generalize ints W=IW at *
   generalize Jt F=BF at *
   cases b with
   | false =>
     rw[if_neg (by simp)]
     simp (disch:=omega)only[go_sem,yH,AP.f71L0,gf,gw,gb,lw,lb,gb']
   | true =>
     by_cases c:a<0
     · rw[if_pos ⟨rfl,.inl c⟩]
       simp (disch:=omega)only[go_sem,yH,AP.f71L0,gf,gw,gb,lw,lb,gb',acO c]
     · obtain⟨k,rfl,hkn,gk⟩:=hk (by omega)
       have tk:((k:Nat):Int).toNat=k:=by omega
       rw[tk]
       have c':¬((k:Nat):Int)<0:=c
       by_cases c2:x<W.getD k 0
       · rw[if_pos ⟨rfl,.inr c2⟩]
         generalize W.getD k 0=y at *
         clear fx fb ha hk c
         simp (disch:=omega)only[go_sem,yH,AP.f71L0,gf,gw,gb,lw,lb,gb',gx,gk,acL c',acO c2]
       · rw[if_neg (by rintro ⟨_,q|q⟩;exact c' q;exact c2 q)]
         generalize W.getD k 0=y at *
         clear fx fb ha hk c
         simp (disch:=omega)only[go_sem,yH,AP.f71L0,gf,gw,gb,lw,lb,gb',gx,gk,acL c',acL c2]
def zP (W:List Int) (F:List Bool):Nat:=(Ae W F W.length 0 (-1)).toNat
theorem Mb {h:H} {f:Nat} {W U:List Int} {F:List Bool} {wv uv fv:AV} (r:Ro h f [wv,uv,fv] (UB W U F)) (hF:F.length=W.length) (hn:W.length<100000) (h0:0≤Ae W F W.length 0 (-1)):
 ∃h',aV AP.A 71 [.aH f 0] h=some (.int .i64 (zP W F:Nat),h')∧Ro h' f [wv,uv,fv] (UB W U (F.set (zP W F) false))∧Lo h h':=by
 have rg:=E5 (W:=W) (F:=F) (n:=W.length) W.length 0 (-1) (by omega) (.inl rfl)
 have hA:Ae W F W.length 0 (-1)=((zP W F:Nat):Int):=by unfold zP;omega
 have hAn:zP W F<W.length:=by omega
 obtain⟨n,en⟩:∃n,n=W.length:=⟨_,rfl⟩
 obtain⟨ifr,q1,q2,q3,q4,q5,q6,q7⟩:=r.put 2 (zP W F) (v:=fv) (c:=Jt F) rfl rfl (.bool false) rfl (by rw[Fx,hF];exact hAn)
 rw[Fx,hF,←en]at q1
 obtain⟨iw,p1,p2,_⟩:=r.put 0 (zP W F) (v:=wv) (c:=ints W) rfl rfl (.int .i64 0) rfl (by rw[rY];exact hAn)
 rw[rY,←en]at p1
 have gf:=r.get
 rw[q1,p1]at gf
 have L:=G4 gf p2 q2 en.symm (hF.trans en.symm) (by omega) n 0 (-1) (by omega) (.inl rfl)
 rw[en,hA,←en]at L
 have L':Lp AP.A [0,3,4] AP.f71L0 [(0,.aH f 0),(3,.int .i64 (-1)),(4,.int .i64 0)] h=_:=L
 have lb:(Jt F).length=n:=by rw[Fx,hF,en]
 have es:(Jt F).set (zP W F) (.bool false)=Jt (F.set (zP W F) false):=by simp [Jt,List.map_set]
 rw[es]at q6 q7
 have q6':Ro (h.set ifr (Jt (F.set (zP W F) false))) f [wv,uv,fv] (UB W U (F.set (zP W F) false)):=q6
 have fl:=r.fl
 refine⟨h.set ifr (Jt (F.set (zP W F) false)),wo (fn:=AP.f71) (e:=[(2,.int .i64 (zP W F:Nat))]) (vs:=[.int .i64 (zP W F:Nat)]) rfl rfl rfl ?_ rfl,q6',q7⟩
 rw[←en]at hAn
 clear q6 q6' q7 q5 r rg hA L p1 q1 h0
 generalize zP W F=A at *
 generalize Jt F=BF at *
 generalize Jt (F.set A false)=BF2 at *
 simp (disch:=omega)only[go_sem,yH,AP.f71,u9,L',gf,q2,lb,es]
end Ab
