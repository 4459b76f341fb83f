/- Part C3. -/
import Derived.Test.YtcapkjggnnakfaaGreatDoorC2
set_option linter.unusedSimpArgs false
set_option linter.unusedVariables false
set_option maxRecDepth 100000
namespace Ab
open Go
def BM (s:ByteArray):List Nat:=s.data.toList.map (·.toNat)
theorem GQ (s:ByteArray):(BM s).length=s.size:=by unfold BM;rw[UW,Array.length_toList];rfl
theorem KF (a b:ByteArray):BM (a++b)=BM a++BM b:=by simp [BM]
theorem JB (s:ByteArray):∀b∈BM s,b<256:=by
 intro b hb
 obtain⟨x,_,rfl⟩:=U8.1 hb
 exact x.toNat_lt
theorem EH (s:ByteArray):bytesOf (BM s)=s:=by
 unfold BM bytesOf;rw[List.map_map];apply ByteArray.ext;simp [Function.comp_def]
theorem Fy {l:List Nat} (h:∀b∈l,b<256):BM (bytesOf l)=l:=by
 simp only[BM,bytesOf,List.map_map]
 conv=>rhs;rw[←List.map_id l]
 exact List.map_congr_left fun b hb=>by simp [Function.comp,UInt8.toNat_ofNat_of_lt' (h b hb)]
theorem ya (a b:List Nat):bytesOf a++bytesOf b=bytesOf (a++b):=by
 apply ByteArray.ext;simp [bytesOf]
theorem yF (x k:Nat):∀b∈vC x k,b<256:=by
 intro b hb
 obtain⟨i,_,rfl⟩:=U8.1 hb
 exact Nat.mod_lt _ (by omega)
theorem BJ {a b:ByteArray} (h:a.size+b.size≤9223372036854775807):bp .add (.str a) (.str b)=some (.str (a++b)):=Es h
theorem wK {a b:List Nat} (h:a.length+b.length≤9223372036854775807):bp .add (.str (bytesOf a)) (.str (bytesOf b))=some (.str (bytesOf (a++b))):=by
 rw[BJ (by rw[vS,vS];exact h),ya]
def EK (c:Nat) (l:List Nat):Nat:=l.foldl ym c
theorem JS {s:ByteArray} {i:Nat} {p q:List Nat} {b:Nat} (h:BM s=p++b::q) (hi:p.length=i):yi s i=b:=by
 have:(BM s)[i]?=some b:=by rw[h,←hi];simp
 unfold yi
 unfold BM at this
 rw[uO]at this
 have e:s[i]?=s.data.toList[i]?:=by
  show s.data[i]?=_
  simp
 rw[e]
 cases hq:s.data.toList[i]? with
 |none=>rw[hq]at this;cases this
 |some x=>rw[hq]at this;simpa using this
theorem Dd (s:ByteArray):∀(q p:List Nat) (c:Nat),BM s=p++q→xU s q.length p.length c=EK c q
 |[],p,c,h=>rfl
 | b :: q, p, c, h => by
   show xU s q.length (p.length+1) (ym c (yi s p.length))=_
   have:=Dd s q (p++[b]) (ym c b) (by rw[h];simp)
   rw[JS h rfl]
   rw[uZ]at this
   exact this
theorem Ax (a:Nat) (s:ByteArray):wX a s=4294967295-EK (4294967295-a) (BM s):=by
 unfold wX
 have:=Dd s (BM s) [] (4294967295-a) rfl
 rw[GQ]at this
 rw[←this];rfl
theorem Gf:∀(l:List Nat) {c:Nat},c<4294967296→(∀b∈l,b<256)→EK c l<4294967296
 |[],_,h,_=>h
 |b::l,_,h,hb=>Gf l (y5 h (hb b (by simp))) (fun x hx=>hb x (by simp [hx]))
theorem zL {a:Nat} (s t:ByteArray):wX (wX a s) t=wX a (s++t):=by
 rw[Ax,Ax a,Ax a,KF]
 have:=Gf (BM s) (c:=4294967295-a) (by omega) (JB s)
 rw[show 4294967295-(4294967295-EK (4294967295-a) (BM s))=EK (4294967295-a) (BM s)by omega]
 simp [EK]
def yl (l:List Nat):Nat:=4294967295-EK 4294967295 l
theorem Nm (s:ByteArray):xE s=yl (BM s):=Ax 0 s
theorem y3 {l:List Nat} (h:∀b∈l,b<256):xE (bytesOf l)=yl l:=by rw[Nm,Fy h]
def Ad (l:List Int):List Nat:=l.flatMap fun n=>vC n.toNat 4
def Bc (e:vQ):List Nat:=vC 20592 2++vC 22 2++Ad e.vec++vC e.vG.toNat 4++vC e.node.toNat 1++vC (if e.gone then 1 else 0) 1
theorem AO (l:List Int):(Ad l).length=4* l.length:=by
 induction l with
 |nil=>rfl
 |cons n l ih=>unfold Ad at *;rw[List.flatMap_cons,uZ,vr,ih,UR];omega
theorem GU (l:List Int):∀b∈Ad l,b<256:=by
 intro b hb
 obtain⟨n,_,hn⟩:=List.mem_flatMap.1 hb
 exact yF _ _ b hn
theorem Kt (e:vQ):∀b∈Bc e,b<256:=by
 intro b hb
 unfold Bc at hb
 simp only[List.mem_append]at hb
 rcases hb with ((((hb|hb)|hb)|hb)|hb)|hb
 · exact yF _ _ b hb
 · exact yF _ _ b hb
 · exact GU _ b hb
 · exact yF _ _ b hb
 · exact yF _ _ b hb
 · exact yF _ _ b hb
def HH (e:vQ):AV:=if wg e=true then .bO [.str (bytesOf (Bc e)),.int .i64 0]else .bO [.str ⟨#[]⟩,.int .i64 1200]
theorem xz {e:vQ} (h:wg e=true):e.vec.length=4∧(∀n∈e.vec,0≤n∧n≤1048576)∧(1≤e.vG∧e.vG≤1048576)∧(0≤e.node∧e.node<4):=by
 simp only[wg,xo,wQ,vW,uG,UY,Vd]at h
 exact⟨h.1.1,h.1.2,⟨h.2.1,h.2.2.1.2⟩,h.2.2.2⟩
theorem Ff {v P:AV} {l:List Int} (hl:l.length<1000000) (hn:∀n∈l,0≤n∧n≤1048576) (h:H) (rd:Rd h v (ints l)):∀(q p:List Int) (acc:List Nat),l=p++q→acc.length+4* q.length<100000000→
 ∃e',Lp AP.A [1,4,14,15,16] AP.f102L0 [(1,P),(4,.str (bytesOf acc)),(14,v),(15,.int .i64 l.length),(16,.int .i64 p.length)] h=some (.exit 0,e',h)∧look e' 1=P∧look e' 4=.str (bytesOf (acc++Ad q))
 | [], p, acc, hp, ha => by
   refine⟨[(1,P),(4,.str (bytesOf acc)),(14,v),(15,.int .i64 l.length),(16,.int .i64 p.length),(17,.bool false)],sY ?_,rfl,by simp [Ad,look]⟩
   have e:l.length=p.length:=by rw[hp];simp
   rw[e]
   simp (disch:=first|omega|(simp only[wq,UR,UT,uK,Nat.reduceAdd];first|done|omega|fail)|(simp (disch:=first|omega|(simp only[wq,UR,UT,uK,Nat.reduceAdd];first|done|omega|fail)|fail)only[wq,zO,UU,UR,UT,uK,Nat.reduceAdd];done)|fail)only[go_sem,vh,zT,AP.f102L0]
 | n :: q, p, acc, hp, ha => by
   rw[UR]at ha
   obtain⟨e',r1,r2,r3⟩:=Ff (P:=P) hl hn h rd q (p++[n]) (acc++vC n.toNat 4) (by rw[hp];simp) (by rw[uZ,vr];omega)
   obtain⟨ad,a1,a2⟩:=rd.wI
   have hlen:l.length=p.length+(q.length+1):=by rw[hp];simp
   have i1:=a1 (p.length:Int) ⟨by omega,by omega⟩
   have i2:=a2 h (Ext.refl h) p.length n (by rw[hp];simp)
   have bn:=hn n (by rw[hp];simp)
   have k1:=fun g=>zS g n.toNat 4 (by omega) (by omega)
   rw[show((n.toNat:Nat):Int)=n by omega]at k1
   have s1:bp .add (.str (bytesOf acc)) (.str (CX n.toNat 4))=some (.str (bytesOf (acc++vC n.toNat 4))):=wK (by rw[vr];omega)
   have n1:((p.length+1:Nat):Int)=(p.length:Int)+1:=by omega
   rw[uZ,show [n].length=1 from rfl,n1]at r1
   refine⟨e',sZ ?_ r1,r2,by rw[r3];simp [Ad]⟩
   have k1':∀g:H,aQ AP.A 104 [.int .i64 n,.int .i64 4] g=some (.str (CX n.toNat 4),g):=k1
   simp (disch:=first|omega|(simp only[wq,UR,UT,uK,Nat.reduceAdd];first|done|omega|fail)|(simp (disch:=first|omega|(simp only[wq,UR,UT,uK,Nat.reduceAdd];first|done|omega|fail)|fail)only[wq,zO,UU,UR,UT,uK,Nat.reduceAdd];done)|fail)only[go_sem,vh,zT,AP.f102L0,i1,i2,k1',s1]
theorem PE.obj {h:H} {id:Nat} {cs:List AV} (hg:h.get id=some cs):PE h (.aC id 0) cs:=
 ⟨fun g=>rfl,fun k=>.aC id (0+k),fun k=>rfl,fun g hx k c hc=>by
  show bS false 1 (.aC id (0+k)) g=_
  rw[uK]
  simp only[bS,hx _ _ hg,uC,hR,hc];rfl⟩
theorem Ns (h:H) (hf:h.floor≤h.next) (e:vQ) (v:AV) (hv:v.sc=true) (ok:wS h (e,v)):aQ AP.A 102 [.agg (vq e v)] h=some (HH e,h):=by
 obtain⟨A,hA⟩:∃x,x=vq e v:=⟨_,rfl⟩
 have lA:A.length=9:=by rw[hA];rfl
 have cA:AV.aB A=true:=by rw[hA];exact yf hv
 have g2:A[2]?=some v:=by rw[hA];rfl
 have g1:A[1]?=some (.bool e.gone):=by rw[hA];rfl
 have g3:A[3]?=some (.int .i64 e.vG):=by rw[hA];rfl
 have g4:A[4]?=some (.int .i64 e.node):=by rw[hA];rfl
 have x1:Ext h (h.dX.alloc A):=fun i c q=>((Ext.refl h.dX).alloc _) i c q
 have o1:=ok.mono x1
 have q1:aQ AP.A 112 [.aC h.next 0] (h.dX.alloc A)=some (.bool (wg e),h.dX.alloc A):=by
  refine IC (h.dX.alloc A) (.aC h.next 0) v e ?_ o1.vec o1.vl
  rw[←hA];exact PE.obj (vk (by simp))
 unfold HH
 cases hh:wg e with
 | false =>
   rw[hh]at q1
   rw[if_neg (by decide)]
   refine tM (fn:=AP.f102) (h2:=h.dX.alloc A) (e:=[(2,.str ⟨#[]⟩),(3,.int .i64 1200)]) rfl rfl rfl ?_ rfl rfl
   rw[←hA]
   simp (disch:=first|omega|(simp only[wq,UR,UT,uK,Nat.reduceAdd];first|done|omega|fail)|(simp (disch:=first|omega|(simp only[wq,UR,UT,uK,Nat.reduceAdd];first|done|omega|fail)|fail)only[wq,zO,UU,UR,UT,uK,Nat.reduceAdd];done)|fail)only[go_sem,vh,zT,AP.f102,lA,cA,q1]
 | true =>
   rw[hh]at q1
   rw[if_pos rfl]
   obtain⟨f1,f2,f3,f4⟩:=xz hh
   have k1:∀g,aQ AP.A 104 [.int .i64 20592,.int .i64 2] g=some (.str (bytesOf (vC 20592 2)),g):=fun g=>zS g 20592 2 (by omega) (by omega)
   have k2:∀g,aQ AP.A 104 [.int .i64 22,.int .i64 2] g=some (.str (bytesOf (vC 22 2)),g):=fun g=>zS g 22 2 (by omega) (by omega)
   have k3:∀g,aQ AP.A 104 [.int .i64 e.vG,.int .i64 4] g=some (.str (bytesOf (vC e.vG.toNat 4)),g):=fun g=>by
    have:=zS g e.vG.toNat 4 (by omega) (by omega)
    rw[show((e.vG.toNat:Nat):Int)=e.vG by omega]at this;exact this
   have k4:∀g,aQ AP.A 104 [.int .i64 e.node,.int .i64 1] g=some (.str (bytesOf (vC e.node.toNat 1)),g):=fun g=>by
    have:=zS g e.node.toNat 1 (by omega) (by omega)
    rw[show((e.node.toNat:Nat):Int)=e.node by omega]at this;exact this
   have k5:∀g,aQ AP.A 104 [.int .i64 0,.int .i64 1] g=some (.str (bytesOf (vC 0 1)),g):=fun g=>zS g 0 1 (by omega) (by omega)
   have k6:∀g,aQ AP.A 104 [.int .i64 1,.int .i64 1] g=some (.str (bytesOf (vC 1 1)),g):=fun g=>zS g 1 1 (by omega) (by omega)
   have ln:=o1.vec.len
   rw[pt]at ln
   simp only[I]at ln
   obtain⟨e',r1,r2,r3⟩:=Ff (P:=.aC h.next 0) (by omega) f2 (h.dX.alloc A) o1.vec e.vec [] (vC 20592 2++vC 22 2) rfl (by rw[uZ,vr,vr];omega)
   have r1':Lp AP.A [1,4,14,15,16] AP.f102L0 [(1,.aC h.next 0),(4,.str (bytesOf (vC 20592 2++vC 22 2))),(14,v),(15,.int .i64 e.vec.length),(16,.int .i64 0)] (h.dX.alloc A)=some (.exit 0,e',h.dX.alloc A):=r1
   clear r1
   have vl:=AO e.vec
   have s1:bp .add (.str (bytesOf (vC 20592 2))) (.str (bytesOf (vC 22 2)))=some (.str (bytesOf (vC 20592 2++vC 22 2))):=wK (by rw[vr,vr];omega)
   obtain⟨L1,hL1⟩:∃x,x=vC 20592 2++vC 22 2++Ad e.vec:=⟨_,rfl⟩
   have l1:L1.length=20:=by rw[hL1,uZ,uZ,vr,vr,vl,f1]
   obtain⟨S1,h1⟩:∃x,x=bytesOf L1:=⟨_,rfl⟩
   obtain⟨S2,h2⟩:∃x,x=bytesOf (L1++vC e.vG.toNat 4):=⟨_,rfl⟩
   obtain⟨S3,h3⟩:∃x,x=bytesOf (L1++vC e.vG.toNat 4++vC e.node.toNat 1):=⟨_,rfl⟩
   obtain⟨S4,h4⟩:∃x,x=bytesOf (L1++vC e.vG.toNat 4++vC e.node.toNat 1++vC (if e.gone then 1 else 0) 1):=⟨_,rfl⟩
   have s2:bp .add (.str S1) (.str (bytesOf (vC e.vG.toNat 4)))=some (.str S2):=by rw[h1,h2];exact wK (by rw[vr];omega)
   have s3:bp .add (.str S2) (.str (bytesOf (vC e.node.toNat 1)))=some (.str S3):=by rw[h2,h3];exact wK (by rw[uZ,vr,vr];omega)
   have s4:bp .add (.str S3) (.str (bytesOf (vC (if e.gone then 1 else 0) 1)))=some (.str S4):=by rw[h3,h4];exact wK (by rw[uZ,uZ,vr,vr,vr];omega)
   rw[show vC 20592 2++vC 22 2++Ad e.vec=L1 from hL1.symm,←h1]at r3
   unfold Bc
   rw[←hL1,←hA,←h4]
   clear hL1 o1 x1 ok h1 h2 h3 h4
   refine tM (fn:=AP.f102) (h2:=h.dX.alloc A) (e:=[(2,.str S4),(3,.int .i64 0)]) rfl rfl rfl ?_ rfl rfl
   cases hg:e.gone with
   | true =>
     rw[hg]at g1 s4
     rw[if_pos rfl]at s4
     simp (disch:=first|omega|(simp only[wq,UR,UT,uK,Nat.reduceAdd];first|done|omega|fail)|(simp (disch:=first|omega|(simp only[wq,UR,UT,uK,Nat.reduceAdd];first|done|omega|fail)|fail)only[wq,zO,UU,UR,UT,uK,Nat.reduceAdd];done)|fail)only[go_sem,vh,zT,AP.f102,lA,cA,q1,k1,k2,k3,k4,k5,k6,s1,s2,s3,s4,g1,g2,g3,g4,ln,rR,r1',r2,r3]
   | false =>
     rw[hg]at g1 s4
     rw[if_neg (by decide)]at s4
     simp (disch:=first|omega|(simp only[wq,UR,UT,uK,Nat.reduceAdd];first|done|omega|fail)|(simp (disch:=first|omega|(simp only[wq,UR,UT,uK,Nat.reduceAdd];first|done|omega|fail)|fail)only[wq,zO,UU,UR,UT,uK,Nat.reduceAdd];done)|fail)only[go_sem,vh,zT,AP.f102,lA,cA,q1,k1,k2,k3,k4,k5,k6,s1,s2,s3,s4,g1,g2,g3,g4,ln,rR,r1',r2,r3]
theorem DC {v:AV} {b:Nat} {A:List AV} {l:List Int} (hl:l.length<1000000) (hn:∀n∈l,0≤n∧n≤1048576) (h:H) (rd:Rd h v (ints l)) (hg:h.get b=some A) (hA:A[2]?=some v):∀(q p:List Int) (acc:List Nat),l=p++q→acc.length+4* q.length<100000000→
 ∃e',Lp AP.A [1,4,5] AP.f160L0 [(1,.aC b 0),(4,.str (bytesOf acc)),(5,.int .i64 p.length)] h=some (.exit 0,e',h)∧look e' 1=.aC b 0∧look e' 4=.str (bytesOf (acc++Ad q))
 | [], p, acc, hp, ha => by
   have ln:=rd.len
   rw[pt]at ln
   simp only[I]at ln
   have e:l.length=p.length:=by rw[hp];simp
   rw[e]at ln
   refine⟨[(1,.aC b 0),(4,.str (bytesOf acc)),(5,.int .i64 p.length),(17,.bool false)],sY ?_,rfl,by simp [Ad,look]⟩
   simp (disch:=first|omega|(simp only[wq,UR,UT,uK,Nat.reduceAdd];first|done|omega|fail)|(simp (disch:=first|omega|(simp only[wq,UR,UT,uK,Nat.reduceAdd];first|done|omega|fail)|fail)only[wq,zO,UU,UR,UT,uK,Nat.reduceAdd];done)|fail)only[go_sem,vh,zT,AP.f160L0,ln,hg,hA]
 | n :: q, p, acc, hp, ha => by
   rw[UR]at ha
   obtain⟨e',r1,r2,r3⟩:=DC hl hn h rd hg hA q (p++[n]) (acc++vC n.toNat 4) (by rw[hp];simp) (by rw[uZ,vr];omega)
   obtain⟨ad,a1,a2⟩:=rd.wI
   have hlen:l.length=p.length+(q.length+1):=by rw[hp];simp
   have ln:=rd.len
   rw[pt]at ln
   simp only[I]at ln
   have i1:=a1 (p.length:Int) ⟨by omega,by omega⟩
   have i2:=a2 h (Ext.refl h) p.length n (by rw[hp];simp)
   have bn:=hn n (by rw[hp];simp)
   have k1:∀g:H,aQ AP.A 161 [.int .i64 n,.int .i64 4] g=some (.str (CX n.toNat 4),g):=fun g=>by
    have:=Aj g n.toNat 4 (by omega)
    rw[show((n.toNat:Nat):Int)=n by omega]at this;exact this
   have s1:bp .add (.str (bytesOf acc)) (.str (CX n.toNat 4))=some (.str (bytesOf (acc++vC n.toNat 4))):=wK (by rw[vr];omega)
   have n1:((p.length+1:Nat):Int)=(p.length:Int)+1:=by omega
   rw[uZ,show [n].length=1 from rfl,n1]at r1
   refine⟨e',sZ ?_ r1,r2,by rw[r3];simp [Ad]⟩
   simp (disch:=first|omega|(simp only[wq,UR,UT,uK,Nat.reduceAdd];first|done|omega|fail)|(simp (disch:=first|omega|(simp only[wq,UR,UT,uK,Nat.reduceAdd];first|done|omega|fail)|fail)only[wq,zO,UU,UR,UT,uK,Nat.reduceAdd];done)|fail)only[go_sem,vh,zT,AP.f160L0,ln,hg,hA,i1,i2,k1,s1]
theorem JZ (h:H) (e:vQ) (v:AV) (hv:v.sc=true) (ok:wS h (e,v)):aQ AP.A 160 [.agg (vq e v)] h=some (HH e,h):=by
 obtain⟨A,hA⟩:∃x,x=vq e v:=⟨_,rfl⟩
 have lA:A.length=9:=by rw[hA];rfl
 have cA:AV.aB A=true:=by rw[hA];exact yf hv
 have tA:List.take 9 A=A:=by rw[hA];rfl
 have g2:A[2]?=some v:=by rw[hA];rfl
 have g1:A[1]?=some (.bool e.gone):=by rw[hA];rfl
 have g3:A[3]?=some (.int .i64 e.vG):=by rw[hA];rfl
 have g4:A[4]?=some (.int .i64 e.node):=by rw[hA];rfl
 have x1:Ext h (h.dX.alloc A):=fun i c q=>((Ext.refl h.dX).alloc _) i c q
 have o1:=ok.mono x1
 have q1:aQ AP.A 169 [.agg A] (h.dX.alloc A)=some (.bool (wg e),h.dX.alloc A):=by
  have:=Gq (h.dX.alloc A) v e o1.vec hv o1.vl
  rw[←hA]at this;exact this
 unfold HH
 cases hh:wg e with
 | false =>
   rw[hh]at q1
   rw[if_neg (by decide)]
   refine tM (fn:=AP.f160) (h2:=h.dX.alloc A) (e:=[(2,.str ⟨#[]⟩),(3,.int .i64 1200)]) rfl rfl rfl ?_ rfl rfl
   rw[←hA]
   simp (disch:=first|omega|(simp only[wq,UR,UT,uK,Nat.reduceAdd];first|done|omega|fail)|(simp (disch:=first|omega|(simp only[wq,UR,UT,uK,Nat.reduceAdd];first|done|omega|fail)|fail)only[wq,zO,UU,UR,UT,uK,Nat.reduceAdd];done)|fail)only[go_sem,vh,zT,AP.f160,lA,cA,tA,q1]
 | true =>
   rw[hh]at q1
   rw[if_pos rfl]
   obtain⟨f1,f2,f3,f4⟩:=xz hh
   have kk:∀(g:H) (x k:Nat),k≤8→aQ AP.A 161 [.int .i64 x,.int .i64 k] g=some (.str (bytesOf (vC x k)),g):=fun g x k hk=>Aj g x k hk
   have k1:∀g,aQ AP.A 161 [.int .i64 20592,.int .i64 2] g=some (.str (bytesOf (vC 20592 2)),g):=fun g=>kk g 20592 2 (by omega)
   have k2:∀g,aQ AP.A 161 [.int .i64 22,.int .i64 2] g=some (.str (bytesOf (vC 22 2)),g):=fun g=>kk g 22 2 (by omega)
   have k3:∀g,aQ AP.A 161 [.int .i64 e.vG,.int .i64 4] g=some (.str (bytesOf (vC e.vG.toNat 4)),g):=fun g=>by
    have:=kk g e.vG.toNat 4 (by omega)
    rw[show((e.vG.toNat:Nat):Int)=e.vG by omega]at this;exact this
   have k4:∀g,aQ AP.A 161 [.int .i64 e.node,.int .i64 1] g=some (.str (bytesOf (vC e.node.toNat 1)),g):=fun g=>by
    have:=kk g e.node.toNat 1 (by omega)
    rw[show((e.node.toNat:Nat):Int)=e.node by omega]at this;exact this
   have k5:∀g,aQ AP.A 161 [.int .i64 0,.int .i64 1] g=some (.str (bytesOf (vC 0 1)),g):=fun g=>kk g 0 1 (by omega)
   have k6:∀g,aQ AP.A 161 [.int .i64 1,.int .i64 1] g=some (.str (bytesOf (vC 1 1)),g):=fun g=>kk g 1 1 (by omega)
   clear kk
   obtain⟨e',r1,r2,r3⟩:=DC (b:=h.next) (by omega) f2 (h.dX.alloc A) o1.vec (vk (by simp)) g2 e.vec [] (vC 20592 2++vC 22 2) rfl (by rw[uZ,vr,vr];omega)
   have r1':Lp AP.A [1,4,5] AP.f160L0 [(1,.aC h.next 0),(4,.str (bytesOf (vC 20592 2++vC 22 2))),(5,.int .i64 0)] (h.dX.alloc A)=some (.exit 0,e',h.dX.alloc A):=r1
   clear r1
   have vl:=AO e.vec
   have s1:bp .add (.str (bytesOf (vC 20592 2))) (.str (bytesOf (vC 22 2)))=some (.str (bytesOf (vC 20592 2++vC 22 2))):=wK (by rw[vr,vr];omega)
   obtain⟨L1,hL1⟩:∃x,x=vC 20592 2++vC 22 2++Ad e.vec:=⟨_,rfl⟩
   have l1:L1.length=20:=by rw[hL1,uZ,uZ,vr,vr,vl,f1]
   obtain⟨S1,h1⟩:∃x,x=bytesOf L1:=⟨_,rfl⟩
   obtain⟨S2,h2⟩:∃x,x=bytesOf (L1++vC e.vG.toNat 4):=⟨_,rfl⟩
   obtain⟨S3,h3⟩:∃x,x=bytesOf (L1++vC e.vG.toNat 4++vC e.node.toNat 1):=⟨_,rfl⟩
   obtain⟨S4,h4⟩:∃x,x=bytesOf (L1++vC e.vG.toNat 4++vC e.node.toNat 1++vC (if e.gone then 1 else 0) 1):=⟨_,rfl⟩
   have s2:bp .add (.str S1) (.str (bytesOf (vC e.vG.toNat 4)))=some (.str S2):=by rw[h1,h2];exact wK (by rw[vr];omega)
   have s3:bp .add (.str S2) (.str (bytesOf (vC e.node.toNat 1)))=some (.str S3):=by rw[h2,h3];exact wK (by rw[uZ,vr,vr];omega)
   have s4:bp .add (.str S3) (.str (bytesOf (vC (if e.gone then 1 else 0) 1)))=some (.str S4):=by rw[h3,h4];exact wK (by rw[uZ,uZ,vr,vr,vr];omega)
   rw[show vC 20592 2++vC 22 2++Ad e.vec=L1 from hL1.symm,←h1]at r3
   unfold Bc
   rw[←hL1,←hA,←h4]
   clear hL1 o1 x1 ok h1 h2 h3 h4
   refine tM (fn:=AP.f160) (h2:=h.dX.alloc A) (e:=[(2,.str S4),(3,.int .i64 0)]) rfl rfl rfl ?_ rfl rfl
   cases hg:e.gone with
   | true =>
     rw[hg]at g1 s4
     rw[if_pos rfl]at s4
     simp (disch:=first|omega|(simp only[wq,UR,UT,uK,Nat.reduceAdd];first|done|omega|fail)|(simp (disch:=first|omega|(simp only[wq,UR,UT,uK,Nat.reduceAdd];first|done|omega|fail)|fail)only[wq,zO,UU,UR,UT,uK,Nat.reduceAdd];done)|fail)only[go_sem,vh,zT,AP.f160,lA,cA,tA,q1,k1,k2,k3,k4,k5,k6,s1,s2,s3,s4,g1,g2,g3,g4,rR,r1',r2,r3]
   | false =>
     rw[hg]at g1 s4
     rw[if_neg (by decide)]at s4
     simp (disch:=first|omega|(simp only[wq,UR,UT,uK,Nat.reduceAdd];first|done|omega|fail)|(simp (disch:=first|omega|(simp only[wq,UR,UT,uK,Nat.reduceAdd];first|done|omega|fail)|fail)only[wq,zO,UU,UR,UT,uK,Nat.reduceAdd];done)|fail)only[go_sem,vh,zT,AP.f160,lA,cA,tA,q1,k1,k2,k3,k4,k5,k6,s1,s2,s3,s4,g1,g2,g3,g4,rR,r1',r2,r3]
def AW (e:vQ):List Nat:=vC e.name.size 1++BM e.name++Bc e++vC e.yI.toNat 4
def Hn (e:vQ):Option Nat:=if wG e=true then some (yl (AW e))else none
def KE:Option Nat→AV
 |some n=>.bO [.int .i64 n,.int .i64 0]
 |none=>.bO [.int .i64 0,.int .i64 1500]
theorem Fu (l:List Nat):yl l<4294967296:=by unfold yl;omega
theorem Gg (p:Nat) (ss:List ByteArray) (h:H) (hg:h.get p=some (ss.map AV.str)) (hs:∀s∈ss,s.size<1125899906842624) (hl:ss.length<1000000):∀(q pr:List ByteArray) (a:Nat),ss=pr++q→a<4294967296→
 ∃e',Lp AP.A [6,7,28,29,30] AP.f91L0 [(6,.fn 103 [] []),(7,.int .i64 a),(28,.aD p 0 ss.length 1),(29,.int .i64 ss.length),(30,.int .i64 pr.length)] h=some (.exit 0,e',h)∧look e' 7=.int .i64 (q.foldl wX a:Nat)
 | [], pr, a, hp, ha => by
   have e:ss.length=pr.length:=by rw[hp];simp
   refine⟨[(6,.fn 103 [] []),(7,.int .i64 a),(28,.aD p 0 ss.length 1),(29,.int .i64 ss.length),(30,.int .i64 pr.length),(31,.bool false)],sY ?_,rfl⟩
   rw[e]
   simp (disch:=first|omega|(simp only[wq,UR,UT,uK,Nat.reduceAdd];first|done|omega|fail)|(simp (disch:=first|omega|(simp only[wq,UR,UT,uK,Nat.reduceAdd];first|done|omega|fail)|fail)only[wq,zO,UU,UR,UT,uK,Nat.reduceAdd];done)|fail)only[go_sem,vh,zT,AP.f91L0]
 | s :: q, pr, a, hp, ha => by
   obtain⟨e',r1,r2⟩:=Gg p ss h hg hs hl q (pr++[s]) (wX a s) (by rw[hp];simp) (Cj a s)
   have hlen:ss.length=pr.length+(q.length+1):=by rw[hp];simp
   have k1:=FW h s a ha (hs s (by rw[hp];simp))
   have g1:(ss.map AV.str)[pr.length]?=some (.str s):=by rw[hp];simp
   have n1:((pr.length+1:Nat):Int)=(pr.length:Int)+1:=by omega
   rw[uZ,show [s].length=1 from rfl,n1]at r1
   refine⟨e',sZ ?_ r1,r2⟩
   simp (disch:=first|omega|(simp only[wq,UR,UT,uK,Nat.reduceAdd];first|done|omega|fail)|(simp (disch:=first|omega|(simp only[wq,UR,UT,uK,Nat.reduceAdd];first|done|omega|fail)|fail)only[wq,zO,UU,UR,UT,uK,Nat.reduceAdd];done)|fail)only[go_sem,vh,zT,AP.f91L0,hg,k1,g1]
theorem Pv (a b c d:ByteArray):[a,b,c,d].foldl wX 0=xE (a++b++c++d):=by
 show wX (wX (wX (wX 0 a) b) c) d=wX 0 _
 rw[zL,zL,zL]
 congr 1
 simp only[ByteArray.append_assoc]
theorem HA (s:ByteArray):Ch s=true↔s.size=0:=by
 unfold Ch
 rw[beq_iff_eq]
 constructor
 · intro h;rw[←GQ];unfold BM;rw[h];rfl
 · intro h
   have:s.data.toList.length=0:=by rw[Array.length_toList];exact h
   rw[U2 this]
theorem Dx {e:vQ} (h:wG e=true):wg e=true∧(1≤e.name.size∧e.name.size≤8)∧0≤e.yI∧e.yI≤4294967295:=by
 unfold wG y6 at h
 split at h
 · cases h
 · rename_i hm
   have hm:wR [e]=true:=by cases q:wR [e]with|true=>rfl|false=>exact absurd q hm
   simp only[wR,xi,Aq,uG,Bool.and_true]at hm
   obtain⟨⟨h1,h2,h3⟩,_⟩:=hm
   refine⟨h2, ?_, ?_⟩
   · simp only[wo,uG,UY]at h1
     exact⟨h1.1,h1.2.1⟩
   · unfold wV at h3
     split at h3
     · simp only[uG,UY]at h3;omega
     · simp only[uG,UY,y9]at h3;omega
theorem Gh (e:vQ):∀b∈AW e,b<256:=by
 intro b hb
 unfold AW at hb
 simp only[List.mem_append]at hb
 rcases hb with ((hb|hb)|hb)|hb
 · exact yF _ _ b hb
 · exact JB _ b hb
 · exact Kt _ b hb
 · exact yF _ _ b hb
theorem Gi (e:vQ):bytesOf (vC e.name.size 1)++e.name++bytesOf (Bc e)++bytesOf (vC e.yI.toNat 4)=bytesOf (AW e):=by
 unfold AW
 rw[←ya,←ya,←ya,EH]
theorem Fe {e:vQ} (h:wg e=true):(Bc e).length=26:=by
 obtain⟨f1,_⟩:=xz h
 unfold Bc
 simp only[uZ,vr,AO,f1]
set_option maxHeartbeats 1000000 in
theorem Ii (h:H) (hf:h.floor≤h.next) (e:vQ) (v:AV) (hv:v.sc=true) (ok:wS h (e,v)):aQ AP.A 91 [.agg (vq e v)] h=some (KE (Hn e),h):=by
 obtain⟨A,hA⟩:∃x,x=vq e v:=⟨_,rfl⟩
 have lA:A.length=9:=by rw[hA];rfl
 have cA:AV.aB A=true:=by rw[hA];exact yf hv
 have tA:List.take 9 A=A:=by rw[hA];rfl
 have g0:A[0]?=some (.str e.name):=by rw[hA];rfl
 have g8:A[8]?=some (.int .i64 e.yI):=by rw[hA];rfl
 have x1:Ext h (h.dX.alloc A):=fun i c q=>((Ext.refl h.dX).alloc _) i c q
 have o1:=ok.mono x1
 have f1:(h.dX.alloc A).floor≤(h.dX.alloc A).next:=by simp
 have q1:aQ AP.A 96 [.agg A] (h.dX.alloc A)=some (.bool (wG e),h.dX.alloc A):=by
  have:=FK (h.dX.alloc A) f1 e v hv o1
  rw[←hA]at this;exact this
 unfold Hn
 cases hm:wG e with
 | false =>
   rw[hm]at q1
   rw[if_neg (by decide)]
   refine tM (fn:=AP.f91) (h2:=h.dX.alloc A) (e:=[(2,.int .i64 0),(3,.int .i64 1500)]) rfl rfl rfl ?_ rfl rfl
   rw[←hA]
   simp (disch:=first|omega|(simp only[wq,UR,UT,uK,Nat.reduceAdd];first|done|omega|fail)|(simp (disch:=first|omega|(simp only[wq,UR,UT,uK,Nat.reduceAdd];first|done|omega|fail)|fail)only[wq,zO,UU,UR,UT,uK,Nat.reduceAdd];done)|fail)only[go_sem,vh,zT,AP.f91,lA,cA,tA,q1]
 | true =>
   rw[hm]at q1
   rw[if_pos rfl]
   obtain⟨m1,m2,m3⟩:=Dx hm
   have q2:aQ AP.A 102 [.agg A] (h.dX.alloc A)=some (.bO [.str (bytesOf (Bc e)),.int .i64 0],h.dX.alloc A):=by
    have:=Ns (h.dX.alloc A) f1 e v hv o1
    unfold HH at this
    rw[if_pos m1,←hA]at this;exact this
   have q3:∀g,aQ AP.A 104 [.int .i64 e.name.size,.int .i64 1] g=some (.str (bytesOf (vC e.name.size 1)),g):=fun g=>zS g e.name.size 1 (by omega) (by omega)
   have q4:∀g,aQ AP.A 104 [.int .i64 e.yI,.int .i64 4] g=some (.str (bytesOf (vC e.yI.toNat 4)),g):=fun g=>by
    have:=zS g e.yI.toNat 4 (by omega) (by omega)
    rw[show((e.yI.toNat:Nat):Int)=e.yI by omega]at this;exact this
   have pl:=Fe m1
   obtain⟨T1,e1⟩:∃x,x=bytesOf (vC e.name.size 1):=⟨_,rfl⟩
   obtain⟨T3,e3⟩:∃x,x=bytesOf (Bc e):=⟨_,rfl⟩
   obtain⟨T4,e4⟩:∃x,x=bytesOf (vC e.yI.toNat 4):=⟨_,rfl⟩
   have ds:=Gi e
   rw[←e1,←e3,←e4]at ds
   rw[←e3]at q2
   rw[←e1]at q3
   rw[←e4]at q4
   have t1:T1.size=1:=by rw[e1,vS,vr]
   have t3:T3.size=26:=by rw[e3,vS,pl]
   have t4:T4.size=4:=by rw[e4,vS,vr]
   obtain⟨e',r1,r2⟩:=Gg (h.next+1) [T1,e.name,T3,T4] ((h.dX.alloc A).alloc [.str T1,.str e.name,.str T3,.str T4]) (vk (by simp)) (by
    intro s hs
    simp only[uW,List.mem_nil_iff,or_false]at hs
    rcases hs with rfl|rfl|rfl|rfl<;>omega) (by simp) [T1,e.name,T3,T4] [] 0 rfl (by omega)
   rw[Pv,ds,y3 (Gh e)]at r2
   have r1':Lp AP.A [6,7,28,29,30] AP.f91L0 [(6,.fn 103 [] []),(7,.int .i64 0),(28,.aD (h.next+1) 0 4 1),(29,.int .i64 4),(30,.int .i64 0)] ((h.dX.alloc A).alloc [.str T1,.str e.name,.str T3,.str T4])=some (.exit 0,e',(h.dX.alloc A).alloc [.str T1,.str e.name,.str T3,.str T4]):=r1
   clear r1
   refine tM (fn:=AP.f91) (h2:=(h.dX.alloc A).alloc [.str T1,.str e.name,.str T3,.str T4]) (e:=[(2,.int .i64 (yl (AW e))),(3,.int .i64 0)]) rfl rfl rfl ?_ rfl rfl
   rw[←hA]
   clear ds e1 e3 e4 o1 x1 ok
   simp (disch:=first|omega|(simp only[wq,UR,UT,uK,Nat.reduceAdd];first|done|omega|fail)|(simp (disch:=first|omega|(simp only[wq,UR,UT,uK,Nat.reduceAdd];first|done|omega|fail)|fail)only[wq,zO,UU,UR,UT,uK,Nat.reduceAdd];done)|fail)only[go_sem,vh,zT,AP.f91,lA,cA,tA,q1,q2,q3,q4,g0,g8,rR,r1',r2]
theorem Ho (h:H) (e:vQ) (v:AV) (hv:v.sc=true) (ok:wS h (e,v)):aQ AP.A 151 [.agg (vq e v)] h=some (KE (Hn e),h):=by
 obtain⟨A,hA⟩:∃x,x=vq e v:=⟨_,rfl⟩
 have lA:A.length=9:=by rw[hA];rfl
 have cA:AV.aB A=true:=by rw[hA];exact yf hv
 have tA:List.take 9 A=A:=by rw[hA];rfl
 have g0:A[0]?=some (.str e.name):=by rw[hA];rfl
 have g8:A[8]?=some (.int .i64 e.yI):=by rw[hA];rfl
 have x1:Ext h (h.dX.alloc A):=fun i c q=>((Ext.refl h.dX).alloc _) i c q
 have o1:=ok.mono x1
 have q1:aQ AP.A 157 [.agg A] (h.dX.alloc A)=some (.bool (wG e),h.dX.alloc A):=by
  have:=Gk (h.dX.alloc A) e v hv o1
  rw[←hA]at this;exact this
 unfold Hn
 cases hm:wG e with
 | false =>
   rw[hm]at q1
   rw[if_neg (by decide)]
   refine tM (fn:=AP.f151) (h2:=h.dX.alloc A) (e:=[(2,.int .i64 0),(3,.int .i64 1500)]) rfl rfl rfl ?_ rfl rfl
   rw[←hA]
   simp (disch:=first|omega|(simp only[wq,UR,UT,uK,Nat.reduceAdd];first|done|omega|fail)|(simp (disch:=first|omega|(simp only[wq,UR,UT,uK,Nat.reduceAdd];first|done|omega|fail)|fail)only[wq,zO,UU,UR,UT,uK,Nat.reduceAdd];done)|fail)only[go_sem,vh,zT,AP.f151,lA,cA,tA,q1]
 | true =>
   rw[hm]at q1
   rw[if_pos rfl]
   obtain⟨m1,m2,m3⟩:=Dx hm
   have q2:aQ AP.A 160 [.agg A] (h.dX.alloc A)=some (.bO [.str (bytesOf (Bc e)),.int .i64 0],h.dX.alloc A):=by
    have:=JZ (h.dX.alloc A) e v hv o1
    unfold HH at this
    rw[if_pos m1,←hA]at this;exact this
   have q3:∀g,aQ AP.A 161 [.int .i64 e.name.size,.int .i64 1] g=some (.str (bytesOf (vC e.name.size 1)),g):=fun g=>Aj g e.name.size 1 (by omega)
   have q4:∀g,aQ AP.A 161 [.int .i64 e.yI,.int .i64 4] g=some (.str (bytesOf (vC e.yI.toNat 4)),g):=fun g=>by
    have:=Aj g e.yI.toNat 4 (by omega)
    rw[show((e.yI.toNat:Nat):Int)=e.yI by omega]at this;exact this
   have pl:=Fe m1
   obtain⟨T1,e1⟩:∃x,x=bytesOf (vC e.name.size 1):=⟨_,rfl⟩
   obtain⟨T3,e3⟩:∃x,x=bytesOf (Bc e):=⟨_,rfl⟩
   obtain⟨T4,e4⟩:∃x,x=bytesOf (vC e.yI.toNat 4):=⟨_,rfl⟩
   have ds:=Gi e
   rw[←e1,←e3,←e4]at ds
   rw[←e3]at q2
   rw[←e1]at q3
   rw[←e4]at q4
   have t1:T1.size=1:=by rw[e1,vS,vr]
   have t3:T3.size=26:=by rw[e3,vS,pl]
   have t4:T4.size=4:=by rw[e4,vS,vr]
   have s1:bp .add (.str T1) (.str e.name)=some (.str (T1++e.name)):=BJ (by omega)
   have s2:bp .add (.str (T1++e.name)) (.str T3)=some (.str (T1++e.name++T3)):=BJ (by rw[ByteArray.size_append];omega)
   have s3:bp .add (.str (T1++e.name++T3)) (.str T4)=some (.str (bytesOf (AW e))):=by rw[←ds];exact BJ (by rw[ByteArray.size_append,ByteArray.size_append];omega)
   have zz:(bytesOf (AW e)).size<1125899906842624:=by rw[←ds,ByteArray.size_append,ByteArray.size_append,ByteArray.size_append];omega
   have k1:∀g,aQ AP.A 101 [.str (bytesOf (AW e))] g=some (.int .i64 (yl (AW e)),g):=fun g=>by rw[B6 g _ zz,y3 (Gh e)]
   refine tM (fn:=AP.f151) (h2:=h.dX.alloc A) (e:=[(2,.int .i64 (yl (AW e))),(3,.int .i64 0)]) rfl rfl rfl ?_ rfl rfl
   rw[←hA]
   clear ds e1 e3 e4 o1 x1 ok zz
   generalize T1++e.name++T3=T6 at *
   generalize T1++e.name=T5 at *
   simp (disch:=first|omega|(simp only[wq,UR,UT,uK,Nat.reduceAdd];first|done|omega|fail)|(simp (disch:=first|omega|(simp only[wq,UR,UT,uK,Nat.reduceAdd];first|done|omega|fail)|fail)only[wq,zO,UU,UR,UT,uK,Nat.reduceAdd];done)|fail)only[go_sem,vh,zT,AP.f151,lA,cA,tA,q1,q2,q3,q4,g0,g8,s1,s2,s3,k1]
def yk (l:List Int):List Nat:=l.flatMap fun n=>vC n.toNat 4
def Cr (l:List Int):Option Nat:=if l.all y9=true then some (yl (yk l))else none
theorem E5 (l:List Int):∀b∈yk l,b<256:=GU l
theorem Dw {v : AV} {l : List Int} (hl : l.length < 1125899906842624) (h : H) (rd : Rd h v (ints l)) : ∀ (q p : List Int) (a : Nat), l = p ++ q → a < 4294967296 →
 (q.all y9=true∧∃e',Lp AP.A [4,7,8,9] AP.f93L0 [(4,.int .i64 a),(7,v),(8,.int .i64 l.length),(9,.int .i64 p.length)] h=some (.exit 0,e',h)∧look e' 4=.int .i64 (wX a (bytesOf (yk q)):Nat))∨
 (q.all y9=false∧∃e',Lp AP.A [4,7,8,9] AP.f93L0 [(4,.int .i64 a),(7,v),(8,.int .i64 l.length),(9,.int .i64 p.length)] h=some (.ret,e',h)∧look e' 2=.int .i64 0∧look e' 3=.int .i64 1500)
 | [], p, a, hp, ha => by
   left
   have e:l.length=p.length:=by rw[hp];simp
   refine⟨rfl,[(4,.int .i64 a),(7,v),(8,.int .i64 l.length),(9,.int .i64 p.length),(10,.bool false)],sY ?_, ?_⟩
   · rw[e]
     simp (disch:=first|omega|(simp only[wq,UR,UT,uK,Nat.reduceAdd];first|done|omega|fail)|(simp (disch:=first|omega|(simp only[wq,UR,UT,uK,Nat.reduceAdd];first|done|omega|fail)|fail)only[wq,zO,UU,UR,UT,uK,Nat.reduceAdd];done)|fail)only[go_sem,vh,zT,AP.f93L0]
   · show AV.int .i64 (a:Int)=.int .i64 ((wX a (bytesOf []):Nat):Int)
     rw[Ax]
     have:EK (4294967295-a) (BM (bytesOf []))=4294967295-a:=rfl
     rw[this];congr 1;omega
 | n :: q, p, a, hp, ha => by
   obtain⟨ad,a1,a2⟩:=rd.wI
   have hlen:l.length=p.length+(q.length+1):=by rw[hp];simp
   have i1:=a1 (p.length:Int) ⟨by omega,by omega⟩
   have i2:=a2 h (Ext.refl h) p.length n (by rw[hp];simp)
   have k1:=Kd h n
   rw[Vl]
   cases hn:y9 n with
   | false =>
     rw[hn]at k1
     right
     refine⟨rfl,[(2,.int .i64 0),(3,.int .i64 1500)],tC ?_,rfl,rfl⟩
     simp (disch:=first|omega|(simp only[wq,UR,UT,uK,Nat.reduceAdd];first|done|omega|fail)|(simp (disch:=first|omega|(simp only[wq,UR,UT,uK,Nat.reduceAdd];first|done|omega|fail)|fail)only[wq,zO,UU,UR,UT,uK,Nat.reduceAdd];done)|fail)only[go_sem,vh,zT,AP.f93L0,i1,i2,k1]
   | true =>
     rw[hn]at k1
     rw[U7]
     simp only[y9,UY]at hn
     have k2:∀g,aQ AP.A 104 [.int .i64 n,.int .i64 4] g=some (.str (bytesOf (vC n.toNat 4)),g):=fun g=>by
      have:=zS g n.toNat 4 (by omega) (by omega)
      rw[show((n.toNat:Nat):Int)=n by omega]at this;exact this
     have k3:=FW h (bytesOf (vC n.toNat 4)) a ha (by rw[vS,vr];omega)
     have n1:((p.length+1:Nat):Int)=(p.length:Int)+1:=by omega
     have ih:=Dw hl h rd q (p++[n]) (wX a (bytesOf (vC n.toNat 4))) (by rw[hp];simp) (Cj _ _)
     rw[uZ,show [n].length=1 from rfl,n1,zL,ya]at ih
     rcases ih with ⟨g1,e',r1,r2⟩|⟨g1,e',r1,r2⟩
     · left
       refine⟨g1,e',sZ ?_ r1,r2⟩
       simp (disch:=first|omega|(simp only[wq,UR,UT,uK,Nat.reduceAdd];first|done|omega|fail)|(simp (disch:=first|omega|(simp only[wq,UR,UT,uK,Nat.reduceAdd];first|done|omega|fail)|fail)only[wq,zO,UU,UR,UT,uK,Nat.reduceAdd];done)|fail)only[go_sem,vh,zT,AP.f93L0,i1,i2,k1,k2,k3]
     · right
       refine⟨g1,e',sZ ?_ r1,r2⟩
       simp (disch:=first|omega|(simp only[wq,UR,UT,uK,Nat.reduceAdd];first|done|omega|fail)|(simp (disch:=first|omega|(simp only[wq,UR,UT,uK,Nat.reduceAdd];first|done|omega|fail)|fail)only[wq,zO,UU,UR,UT,uK,Nat.reduceAdd];done)|fail)only[go_sem,vh,zT,AP.f93L0,i1,i2,k1,k2,k3]
theorem II (h:H) (v:AV) (l:List Int) (rd:Rd h v (ints l)) (hl:l.length<1125899906842624):aQ AP.A 93 [v] h=some (KE (Cr l),h):=by
 have rd':=rd.mono (vv h)
 have ln:=rd'.len
 rw[pt]at ln
 simp only[I]at ln
 unfold Cr
 rcases Dw hl h.dX rd' l [] 0 rfl (by omega)with ⟨g1,e',r1,r2⟩|⟨g1,e',r1,r2,r3⟩
 · rw[if_pos g1]
   have r1':Lp AP.A [4,7,8,9] AP.f93L0 [(4,.int .i64 0),(7,v),(8,.int .i64 l.length),(9,.int .i64 0)] h.dX=some (.exit 0,e',h.dX):=r1
   have r2':look e' 4=.int .i64 (yl (yk l)):=by rw[r2,←y3 (E5 l)];rfl
   refine tM (fn:=AP.f93) (h2:=h.dX) (e:=[(2,.int .i64 (yl (yk l))),(3,.int .i64 0)]) rfl rfl rfl ?_ rfl rfl
   simp (disch:=first|omega|(simp only[wq,UR,UT,uK,Nat.reduceAdd];first|done|omega|fail)|(simp (disch:=first|omega|(simp only[wq,UR,UT,uK,Nat.reduceAdd];first|done|omega|fail)|fail)only[wq,zO,UU,UR,UT,uK,Nat.reduceAdd];done)|fail)only[go_sem,vh,zT,AP.f93,ln,rR,r1',r2']
 · rw[if_neg (by rw[g1];decide)]
   have r1':Lp AP.A [4,7,8,9] AP.f93L0 [(4,.int .i64 0),(7,v),(8,.int .i64 l.length),(9,.int .i64 0)] h.dX=some (.ret,e',h.dX):=r1
   refine tM (fn:=AP.f93) (h2:=h.dX) (e:=e') rfl rfl rfl ?_ (by simp only[AP.f93,cL,mQ,r2,r3];rfl) rfl
   simp (disch:=first|omega|(simp only[wq,UR,UT,uK,Nat.reduceAdd];first|done|omega|fail)|(simp (disch:=first|omega|(simp only[wq,UR,UT,uK,Nat.reduceAdd];first|done|omega|fail)|fail)only[wq,zO,UU,UR,UT,uK,Nat.reduceAdd];done)|fail)only[go_sem,vh,zT,AP.f93,ln,rR,r1']
theorem SI (h:H) (x:Int):aQ AP.A 162 [.int .i64 x] h=some (.bool (y9 x),h):=by
 refine tM (fn:=AP.f162) (h2:=h.dX) (e:=[(2,.bool (y9 x))]) rfl rfl rfl ?_ rfl rfl
 unfold y9
 by_cases c1:0≤x
 · by_cases c2:x≤4294967295
   · simp (disch:=first|omega|(simp only[wq,UR,UT,uK,Nat.reduceAdd];first|done|omega|fail)|(simp (disch:=first|omega|(simp only[wq,UR,UT,uK,Nat.reduceAdd];first|done|omega|fail)|fail)only[wq,zO,UU,UR,UT,uK,Nat.reduceAdd];done)|fail)only[go_sem,vh,zT,AP.f162]
   · simp (disch:=first|omega|(simp only[wq,UR,UT,uK,Nat.reduceAdd];first|done|omega|fail)|(simp (disch:=first|omega|(simp only[wq,UR,UT,uK,Nat.reduceAdd];first|done|omega|fail)|fail)only[wq,zO,UU,UR,UT,uK,Nat.reduceAdd];done)|fail)only[go_sem,vh,zT,AP.f162]
 · simp (disch:=first|omega|(simp only[wq,UR,UT,uK,Nat.reduceAdd];first|done|omega|fail)|(simp (disch:=first|omega|(simp only[wq,UR,UT,uK,Nat.reduceAdd];first|done|omega|fail)|fail)only[wq,zO,UU,UR,UT,uK,Nat.reduceAdd];done)|fail)only[go_sem,vh,zT,AP.f162]
theorem Cq {v : AV} {l : List Int} (hl : l.length < 281474976710656) (h : H) (rd : Rd h v (ints l)) : ∀ (q p : List Int) (acc : List Nat), l = p ++ q → acc.length + 4 * q.length < 1125899906842624 →
 (q.all y9=true∧∃e',Lp AP.A [0,4,5] AP.f152L0 [(0,v),(4,.str (bytesOf acc)),(5,.int .i64 p.length)] h=some (.exit 0,e',h)∧look e' 4=.str (bytesOf (acc++yk q)))∨
 (q.all y9=false∧∃e',Lp AP.A [0,4,5] AP.f152L0 [(0,v),(4,.str (bytesOf acc)),(5,.int .i64 p.length)] h=some (.ret,e',h)∧look e' 2=.int .i64 0∧look e' 3=.int .i64 1500)
 | [], p, acc, hp, ha => by
   left
   have e:l.length=p.length:=by rw[hp];simp
   have ln:=rd.len
   rw[pt]at ln
   simp only[I]at ln
   refine⟨rfl,[(0,v),(4,.str (bytesOf acc)),(5,.int .i64 p.length),(9,.bool false)],sY ?_,by simp [yk,look]⟩
   rw[e]at ln
   simp (disch:=first|omega|(simp only[wq,UR,UT,uK,Nat.reduceAdd];first|done|omega|fail)|(simp (disch:=first|omega|(simp only[wq,UR,UT,uK,Nat.reduceAdd];first|done|omega|fail)|fail)only[wq,zO,UU,UR,UT,uK,Nat.reduceAdd];done)|fail)only[go_sem,vh,zT,AP.f152L0,ln]
 | n :: q, p, acc, hp, ha => by
   rw[UR]at ha
   have ln:=rd.len
   rw[pt]at ln
   simp only[I]at ln
   obtain⟨ad,a1,a2⟩:=rd.wI
   have hlen:l.length=p.length+(q.length+1):=by rw[hp];simp
   have i1:=a1 (p.length:Int) ⟨by omega,by omega⟩
   have i2:=a2 h (Ext.refl h) p.length n (by rw[hp];simp)
   have k1:=SI h n
   rw[Vl]
   cases hn:y9 n with
   | false =>
     rw[hn]at k1
     right
     refine⟨rfl,[(2,.int .i64 0),(3,.int .i64 1500)],tC ?_,rfl,rfl⟩
     simp (disch:=first|omega|(simp only[wq,UR,UT,uK,Nat.reduceAdd];first|done|omega|fail)|(simp (disch:=first|omega|(simp only[wq,UR,UT,uK,Nat.reduceAdd];first|done|omega|fail)|fail)only[wq,zO,UU,UR,UT,uK,Nat.reduceAdd];done)|fail)only[go_sem,vh,zT,AP.f152L0,ln,i1,i2,k1]
   | true =>
     rw[hn]at k1
     rw[U7]
     simp only[y9,UY]at hn
     have k2:∀g,aQ AP.A 161 [.int .i64 n,.int .i64 4] g=some (.str (bytesOf (vC n.toNat 4)),g):=fun g=>by
      have:=Aj g n.toNat 4 (by omega)
      rw[show((n.toNat:Nat):Int)=n by omega]at this;exact this
     have s1:bp .add (.str (bytesOf acc)) (.str (bytesOf (vC n.toNat 4)))=some (.str (bytesOf (acc++vC n.toNat 4))):=wK (by rw[vr];omega)
     have n1:((p.length+1:Nat):Int)=(p.length:Int)+1:=by omega
     have ih:=Cq hl h rd q (p++[n]) (acc++vC n.toNat 4) (by rw[hp];simp) (by rw[uZ,vr];omega)
     rw[uZ,show [n].length=1 from rfl,n1]at ih
     rcases ih with ⟨g1,e',r1,r2⟩|⟨g1,e',r1,r2⟩
     · left
       refine⟨g1,e',sZ ?_ r1,by rw[r2];simp [yk]⟩
       simp (disch:=first|omega|(simp only[wq,UR,UT,uK,Nat.reduceAdd];first|done|omega|fail)|(simp (disch:=first|omega|(simp only[wq,UR,UT,uK,Nat.reduceAdd];first|done|omega|fail)|fail)only[wq,zO,UU,UR,UT,uK,Nat.reduceAdd];done)|fail)only[go_sem,vh,zT,AP.f152L0,ln,i1,i2,k1,k2,s1]
     · right
       refine⟨g1,e',sZ ?_ r1,r2⟩
       simp (disch:=first|omega|(simp only[wq,UR,UT,uK,Nat.reduceAdd];first|done|omega|fail)|(simp (disch:=first|omega|(simp only[wq,UR,UT,uK,Nat.reduceAdd];first|done|omega|fail)|fail)only[wq,zO,UU,UR,UT,uK,Nat.reduceAdd];done)|fail)only[go_sem,vh,zT,AP.f152L0,ln,i1,i2,k1,k2,s1]
theorem Ki (h:H) (v:AV) (l:List Int) (rd:Rd h v (ints l)) (hl:l.length<140737488355328):aQ AP.A 152 [v] h=some (KE (Cr l),h):=by
 have rd':=rd.mono (vv h)
 unfold Cr
 rcases Cq (by omega) h.dX rd' l [] [] rfl (by rw[UT];omega)with ⟨g1,e',r1,r2⟩|⟨g1,e',r1,r2,r3⟩
 · rw[if_pos g1]
   have r1':Lp AP.A [0,4,5] AP.f152L0 [(0,v),(4,.str ⟨#[]⟩),(5,.int .i64 0)] h.dX=some (.exit 0,e',h.dX):=r1
   have zz:(bytesOf (yk l)).size<1125899906842624:=by
    rw[vS];have:=AO l;unfold Ad at this;unfold yk;rw[this];omega
   have k1:∀g,aQ AP.A 101 [.str (bytesOf (yk l))] g=some (.int .i64 (yl (yk l)),g):=fun g=>by rw[B6 g _ zz,y3 (E5 l)]
   rw[List.nil_append]at r2
   refine tM (fn:=AP.f152) (h2:=h.dX) (e:=[(2,.int .i64 (yl (yk l))),(3,.int .i64 0)]) rfl rfl rfl ?_ rfl rfl
   simp (disch:=first|omega|(simp only[wq,UR,UT,uK,Nat.reduceAdd];first|done|omega|fail)|(simp (disch:=first|omega|(simp only[wq,UR,UT,uK,Nat.reduceAdd];first|done|omega|fail)|fail)only[wq,zO,UU,UR,UT,uK,Nat.reduceAdd];done)|fail)only[go_sem,vh,zT,AP.f152,rR,r1',r2,k1]
 · rw[if_neg (by rw[g1];decide)]
   have r1':Lp AP.A [0,4,5] AP.f152L0 [(0,v),(4,.str ⟨#[]⟩),(5,.int .i64 0)] h.dX=some (.ret,e',h.dX):=r1
   refine tM (fn:=AP.f152) (h2:=h.dX) (e:=e') rfl rfl rfl ?_ (by simp only[AP.f152,cL,mQ,r2,r3];rfl) rfl
   simp (disch:=first|omega|(simp only[wq,UR,UT,uK,Nat.reduceAdd];first|done|omega|fail)|(simp (disch:=first|omega|(simp only[wq,UR,UT,uK,Nat.reduceAdd];first|done|omega|fail)|fail)only[wq,zO,UU,UR,UT,uK,Nat.reduceAdd];done)|fail)only[go_sem,vh,zT,AP.f152,rR,r1']
def JG (e:vQ):Nat:=128+2* e.name.size+e.packed.size
def AL:List vQ→Nat
 |[]=>0
 |e::l=>JG e+AL l
theorem BL (a b:List vQ):AL (a++b)=AL a+AL b:=by
 induction a with
 |nil=>simp [AL]
 |cons x a ih=>rw[List.cons_append,AL,AL,ih];omega
def xC (l:List vQ):Nat:=22+AL l
def vY (l:List vQ):Bool:=wR l&&l.all wG
theorem Az:∀{l:List vQ} {p:Option vQ},xi p l=true→∀e∈l,wo e.name=true∧wg e=true∧wV e=true
 |[],_,_,e,h=>by cases h
 | x :: l, p, hm, e, h => by
   rw[xi,uG]at hm
   rcases uW.1 h with rfl|h
   · have:=hm.1
     unfold xR at this
     simp only[uG]at this
     exact⟨this.1,this.2.2.1,this.2.2.2⟩
   · exact Az hm.2 e h
theorem yZ {e:vQ} (h:wV e=true):e.packed.size≤300:=by
 unfold wV at h
 split at h
 · simp only[uG]at h
   have:=(HA _).1 h.2.1
   omega
 · simp only[uG,uS,UY]at h
   omega
theorem wY {s:ByteArray} (h:wo s=true):1≤s.size∧s.size≤8:=by
 unfold wo at h
 simp only[uG,UY]at h
 omega
theorem Jz:∀{l:List vQ},(∀e∈l,wo e.name=true∧wg e=true∧wV e=true)→AL l≤444* l.length
 |[],_=>by simp [AL]
 | e :: l, h => by
   have i:=Jz (l:=l) fun x hx=>h x (by simp [hx])
   obtain⟨h1,_,h3⟩:=h e (by simp)
   have:=wY h1
   have:=yZ h3
   rw[AL,UR];unfold JG;omega
theorem vV {l:List vQ} (h:wR l=true):l.length≤6∧(∀e∈l,wo e.name=true∧wg e=true∧wV e=true)∧xC l≤4096:=by
 unfold wR at h
 simp only[uG,UY]at h
 have a:=Az h.1
 have:=Jz a
 exact⟨h.2,a,by unfold xC;omega⟩
def Bl (e:vQ):Nat:=xE e.name%8
def Ih (e:vQ):Int:=((yl (AW e):Nat):Int)
def xk (l:List vQ) (b:Nat):List Int:=(l.filter fun e=>Bl e==b).map Ih
theorem C9 (l:List vQ) (e:vQ) (b:Nat):xk (l++[e]) b=if Bl e=b then xk l b++[Ih e]else xk l b:=by
 unfold xk
 rw[List.filter_append,Va]
 by_cases c:Bl e=b
 · rw[if_pos c];simp [c]
 · rw[if_neg c];simp [c]
theorem Ai (l:List vQ) (b:Nat):(xk l b).length≤l.length:=by
 unfold xk;rw[UW];exact List.length_filter_le _ _
theorem F9 (l:List vQ) (b:Nat):(xk l b).all y9=true:=by
 unfold xk
 rw[List.all_map,Vd]
 intro e _
 have:=Fu (AW e)
 simp [Function.comp,y9,Ih]
 omega
def vX (l:List Int):Int:=((yl (yk l):Nat):Int)
theorem E4 {l:List Int} (h:l.all y9=true):Cr l=some (yl (yk l)):=by unfold Cr;rw[if_pos h]
theorem E6 (l:List Int):y9 (vX l)=true:=by
 have:=Fu (yk l)
 simp [y9,vX]
 omega
def vK (l:List vQ):List Int:=(List.range 8).map fun b=>vX (xk l b)
theorem vI (l:List vQ):(vK l).length=8:=by simp [vK]
theorem Ca (l:List vQ):(vK l).all y9=true:=by
 unfold vK
 rw[List.all_map,Vd]
 exact fun b _=>E6 _
def xF:Option Int→List Int→Bool
 |_,[]=>true
 |p,b::l=>(decide (0≤b)&&(decide (b<8)&&(match p with|none=>true|some q=>decide (q<b))))&&xF (some b) l
def yz (l:List Int):Bool:=xF none l
theorem Bm : ∀ {l : List Int} {p : Option Int}, xF p l = true → (∀ b ∈ l, 0 ≤ b ∧ b < 8 ∧ (match p with | none => True | some q => q < b)) ∧ l.Nodup
 |[],_,_=>⟨fun b h=>(by cases h),List.nodup_nil⟩
 | x :: l, p, h => by
   unfold xF at h
   simp only[uG,UY]at h
   obtain⟨h1,h2⟩:=h
   obtain⟨i1,i2⟩:=Bm h2
   refine⟨fun b hb=> ?_,List.nodup_cons.2 ⟨fun q=> ?_,i2⟩⟩
   · rcases uW.1 hb with rfl|hb
     · refine⟨h1.1,h1.2.1, ?_⟩
       cases p with
       |none=>trivial
       |some q=>exact of_decide_eq_true h1.2.2
     · have:=i1 b hb
       refine⟨this.1,this.2.1, ?_⟩
       cases p with
       |none=>trivial
       | some q =>
         have a:q<x:=of_decide_eq_true h1.2.2
         have b':x<b:=this.2.2
         show q<b
         omega
   · have:x<x:=(i1 x q).2.2
     omega
abbrev Ha:=ByteArray×List Int
def vL (l:List vQ) (bs:List Int):List Ha:=(l.filter fun e=>bs.contains ((Bl e:Nat):Int)).map fun e=>(e.name,e.vec)
structure Bu (h:H) (A:Nat) (C:Nat→AV) (ls:Nat→List Int):Prop where
 get:h.get A=some (mY 8 C)
 fl:h.floor≤A
 nx:h.floor≤h.next
 own:∀n,n<8→vM 1 h (C n) (ls n).length (ints (ls n))
 KQ:∀n m,n<8→m<8→n≠m→∀i,(C n).id?=some i→(C m).id?≠some i
 gt:∀n,n<8→∀i,(C n).id?=some i→A<i
theorem Bu.mono {h g:H} {A:Nat} {C:Nat→AV} {ls:Nat→List Int} (b:Bu h A C ls) (hf:g.floor=h.floor) (hn:h.next≤g.next) (hg:∀i,i<h.next→g.get i=h.get i):Bu g A C ls:=
 ⟨by rw[hg A (h.lt _ _ b.get)];exact b.get,by rw[hf];exact b.fl,by rw[hf];exact uX b.nx hn,fun n hn'=>(b.own n hn').mono hf fun i q=>hg i ((b.own n hn').lt q).2,b.KQ,b.gt⟩
theorem Bu.push {h : H} {A : Nat} {C : Nat → AV} {ls : Nat → List Int} (b : Bu h A C ls) {n : Nat} (hn : n < 8) (hl : (ls n).length < 1000000) (x : Int) :
 ∃ v' h', kD (h.alloc [.int .i64 x]) 1 8 (C n) (.aD h.next 0 1 1) = some (v', h') ∧ v'.sc = true ∧ h'.get A = some (mY 8 C) ∧ h'.floor = h.floor ∧ h.next ≤ h'.next ∧
   Bu (h'.set A (mY 8 (tR C n v'))) A (tR C n v') (fun m=>if m=n then ls n++[x]else ls m)∧∀i,i<A→h'.get i=h.get i:=by
 have o:=b.own n hn
 obtain⟨v',h',p1,p2,p3,p4,p5,p6⟩:=o.push b.nx (z:=8) (m:=1) (by omega) (by omega) [.int .i64 x] rfl rfl (by simp [roomy];omega)
 have hA:=h.lt _ _ b.get
 have nA:(C n).id?≠some A:=fun q=>by have:=b.gt n hn A q;omega
 have gA:h'.get A=some (mY 8 C):=by rw[p5 A nA hA];exact b.get
 refine⟨v',h',p1,p2.sc,gA,p3,by omega,⟨by rw[vA rfl,gA];rfl,by simp [p3,b.fl],by simp [p3];have:=b.nx;omega,fun m hm=> ?_,fun m k hm hk hmk i q=> ?_,fun m hm i q=> ?_⟩,fun i hi=>p5 i (fun q=>by have:=b.gt n hn i q;omega) (by omega)⟩
 · by_cases c:m=n
   · subst c
     have e:ints (ls m)++[.int .i64 x]=ints (ls m++[x]):=by simp [ints,I]
     rw[e]at p2
     simp only[tR,if_true,uZ,List.length_singleton]
     exact p2.mono (by simp) fun i q=>by rw[vp];rw[p6]at q;have:=uv q;omega
   · simp only[tR,if_neg c]
     refine(b.own m hm).mono (by simp [p3]) fun i q=> ?_
     have h1:=((b.own m hm).lt q).2
     have h2:=b.gt m hm i q
     rw[vp (by omega),p5 i (fun q2=>b.KQ m n hm hn c i q q2) h1]
 · unfold tR at q ⊢
   by_cases c1:m=n
   · rw[if_pos c1,p6]at q
     have e:=uv q
     rw[if_neg (by omega)]
     intro q2
     have:=((b.own k hk).lt q2).2
     omega
   · rw[if_neg c1]at q
     by_cases c2:k=n
     · rw[if_pos c2,p6]
       intro q2
       have e:=uv q2
       have:=((b.own m hm).lt q).2
       omega
     · rw[if_neg c2]
       exact b.KQ m k hm hk hmk i q
 · unfold tR at q
   by_cases c:m=n
   · rw[if_pos c,p6]at q
     have e:=uv q
     omega
   · rw[if_neg c]at q
     exact b.gt m hm i q
theorem Bu.new {h:H} (hf:h.floor≤h.next):Bu (h.alloc (mY 8 fun _=>.aO)) h.next (fun _=>.aO) (fun _=>[]):=
 ⟨vk rfl,by simpa using hf,by simp;omega,fun n _=>vM.nil,fun n m _ _ _ i q=>(by cases q),fun n _ i q=>(by cases q)⟩
theorem wO.Ct {n:Nat} {h g:H} {v:AV} {k:Nat} {cs:List AV} (r:wO n h v k cs) (hg:∀i,v.id?=some i→g.get i=h.get i):wO n g v k cs:=by
 obtain⟨r,hl,hs⟩:=r
 refine⟨?_,hl,hs⟩
 unfold aR at r ⊢
 split at r
 · exact r
 · exact r
 · rename_i id off len s
   split at r
   · rename_i q
     rw[if_pos q,hg id rfl];exact r
   · cases r
 · exact r
 · cases r
theorem Rd.Ct {h g:H} {v:AV} {cs:List AV} (r:Rd h v cs) (hg:∀i,v.id?=some i→g.get i=h.get i):Rd g v cs:=by
 have:=r.Ef.Ct hg
 exact⟨this.1,this.2.2⟩
theorem wS.Ct {h g:H} {x:vF} (o:wS h x) (hg:∀i,x.2.id?=some i→g.get i=h.get i):wS g x:=⟨o.vec.Ct hg,o.vl,o.nl,o.pl⟩
theorem FM (l:List vF) (x:vF):vD (l++[x])=vD l++vq x.1 x.2:=by simp [vD,Nr]
theorem wO.FB {h:H} {v:AV} {l:List vF} (rd:wO 9 h v l.length (vD l)):∃ad:Int→Nat→AV,(∀i:Int,0≤i∧i<l.length→fU 9 v (.int .i64 i)=some (ad i 0))∧
 (∀g,Ext h g→∀(i:Nat) (x:vF),l[i]?=some x→PE g (ad i 0) (vq x.1 x.2)∧bS true 9 (ad i 0) g=some (.agg (vq x.1 x.2))):=by
 obtain⟨ad,a1,a2,a4,a3⟩:=rd.at_
 refine⟨ad,a1,fun g hg i x hx=> ?_⟩
 have hi:i<l.length:=(uB.1 hx).1
 have hI:(0:Int)≤(i:Int)∧(i:Int)<l.length:=⟨by omega,by omega⟩
 refine⟨⟨fun g'=>a4 _ 0 g' hI,fun k=>ad i (0+k),fun k=>a2 _ 0 k hI,fun g' hg' k c hc=> ?_⟩, ?_⟩
 · have hk:k<9:=(uB.1 hc).1
   refine(a3 g' (fun id c q=>hg' id c (hg id c q))).1 _ _ _ hI ?_
   rw[xc,uK,show vD l=l.flatMap Nr from rfl,zu Ar hx hk];exact hc
 · rw[(a3 g hg).2 _ hI,xc,show vD l=l.flatMap Nr from rfl,D0 Ar hx];rfl
theorem G6 {v:AV} {l:List vF} (h:H) (b:Nat) (hb:h.get b=some [v]) (rd:wO 9 h v l.length (vD l)) (hm:wR (l.map (·.1))=true):∀(q p:List vF),l=p++q→
 ∃e',Lp AP.A [0,3,10,11] AP.f192L0 [(0,.aC b 0),(3,.int .i64 (22+AL (p.map (·.1)):Nat)),(10,.int .i64 l.length),(11,.int .i64 p.length)] h=some (.exit 0,e',h)∧look e' 3=.int .i64 (xC (l.map (·.1)):Nat)
 | [], p, hp => by
   rw[UX]at hp;subst hp
   refine⟨[(0,.aC b 0),(3,.int .i64 (22+AL (l.map (·.1)):Nat)),(10,.int .i64 l.length),(11,.int .i64 l.length),(12,.bool false)],sY ?_,rfl⟩
   simp (disch:=omega)only[go_sem,vh,AP.f192L0]
 | x :: q, p, hp => by
   obtain⟨m1,m2,m3⟩:=vV hm
   have hx:l[p.length]?=some x:=by rw[hp];simp
   have hlen:l.length=p.length+(q.length+1):=by rw[hp];simp
   rw[UW]at m1
   obtain⟨_,_,c3⟩:=m2 x.1 (by rw[hp];simp)
   have c1:=wY (m2 x.1 (by rw[hp];simp)).1
   have c2:=yZ c3
   obtain⟨ad,a1,a2⟩:=rd.FB
   have b1:=a1 p.length ⟨by omega,by omega⟩
   obtain⟨pe,_⟩:=a2 h (Ext.refl h) p.length x hx
   have nl:=pe.nil
   obtain⟨qq,f1,f2⟩:=pe.th
   have l0:=f2 h (Ext.refl h) 0 _ rfl
   have l6:=f2 h (Ext.refl h) 6 _ rfl
   obtain⟨e',r1,r2⟩:=G6 h b hb rd hm q (p++[x]) (by rw[hp];simp)
   have sz:xC (l.map (·.1))=22+(AL (p.map (·.1))+(JG x.1+AL (q.map (·.1)))):=by unfold xC;rw[hp,Va,BL,U5,AL]
   have e1:22+AL ((p++[x]).map (·.1))=22+AL (p.map (·.1))+JG x.1:=by rw[Va,BL];simp [AL];omega
   have n1:((p++[x]).length:Int)=(p.length:Int)+1:=by simp
   rw[e1,n1]at r1
   have se:JG x.1=128+2* x.1.name.size+x.1.packed.size:=rfl
   obtain⟨N,hN⟩:∃N,N=22+AL (p.map (·.1)):=⟨_,rfl⟩
   rw[←hN]at r1 ⊢
   have hN2:N≤4096:=by omega
   have w:(N:Int)+(76+2* ((x.1.name.size:Int)+26)+(x.1.packed.size:Int))=((N+JG x.1:Nat):Int):=by omega
   refine⟨e',sZ ?_ r1,r2⟩
   clear r1 r2 e1 sz hN rd a1 a2 f2 pe m2 m3 hm hp n1
   simp (disch:=omega)only[go_sem,vh,AP.f192L0,hb,b1,nl,f1,l0,l6,w]
theorem KI {v:AV} {l:List vF} (h:H) (b:Nat) (hb:h.get b=some [v]) (rd:wO 9 h v l.length (vD l)) (hm:wR (l.map (·.1))=true):aQ AP.A 192 [.aC b 0] h=some (.int .i64 (xC (l.map (·.1)):Nat),h):=by
 obtain⟨e',r1,r2⟩:=G6 h b hb rd hm l [] rfl
 have ln:=rd.len
 have r1':Lp AP.A [0,3,10,11] AP.f192L0 [(0,.aC b 0),(3,.int .i64 22),(10,.int .i64 l.length),(11,.int .i64 0)] h=some (.exit 0,e',h):=r1
 clear rd r1 hm
 generalize xC (l.map (·.1))=N at *
 refine tr (fn:=AP.f192) (h2:=h) (e:=[(2,.int .i64 N)]) (vs:=[.int .i64 N]) rfl rfl rfl ?_ rfl
 simp (disch:=omega)only[go_sem,vh,AP.f192,hb,ln,rR,r1',r2]
theorem wM (v:AV):hR true 1 [v] 0=some (.agg [v]):=rfl
theorem KH (h:H) (v:AV) (l:List vF) (hvs:v.sc=true) (hn:l.length<1125899906842624) (rd:wO 9 h v l.length (vD l)) (hv:∀x∈l,wS h x):aQ AP.A 190 [.agg [v]] h=some (.int .i64 (if wR (l.map (·.1))=true then(xC (l.map (·.1)):Nat)else(0:Nat):Nat),h):=by
 obtain⟨h1,eh1⟩:∃g,g=h.dX.alloc [v]:=⟨_,rfl⟩
 have hx0:Ext h h1:=by rw[eh1];exact fun i c q=>((Ext.refl h.dX).alloc _) i c q
 have hn0:h.dX.next=h.next:=rfl
 have g1:h1.get h.next=some [v]:=by rw[eh1];exact vk rfl
 have rd1:=rd.mono fun i c q=>hx0 i c q
 have k1:=JF h1 v l hvs hn rd1 (fun x hx=>(hv x hx).mono hx0)
 cases hm:wR (l.map (·.1))with
 | false =>
   rw[hm]at k1
   refine tM (fn:=AP.f190) (h2:=h1) (e:=[(2,.int .i64 0)]) (vs:=[.int .i64 0]) rfl rfl rfl ?_ rfl rfl
   clear rd rd1 hv hx0
   simp (disch:=omega)only[go_sem,vh,AP.f190,hvs,hn0,←eh1,g1,wM,k1]
 | true =>
   rw[hm]at k1
   have k2:=KI h1 h.next g1 rd1 hm
   refine tM (fn:=AP.f190) (h2:=h1) (e:=[(2,.int .i64 (xC (l.map (·.1)):Nat))]) (vs:=[.int .i64 (xC (l.map (·.1)):Nat)]) rfl rfl rfl ?_ rfl rfl
   clear rd rd1 hv hx0
   simp (disch:=omega)only[go_sem,vh,AP.f190,hvs,hn0,←eh1,g1,wM,k1,k2]
theorem Pr (h:H) (v:AV) (l:List vF) (hvs:v.sc=true) (hn:l.length<1125899906842624) (rd:wO 9 h v l.length (vD l)) (hv:∀x∈l,wS h x):aQ AP.A 186 [.agg [v]] h=some (.bool (wR (l.map (·.1))),h):=by
 obtain⟨h1,eh1⟩:∃g,g=h.dX.alloc [v]:=⟨_,rfl⟩
 have hx0:Ext h h1:=by rw[eh1];exact fun i c q=>((Ext.refl h.dX).alloc _) i c q
 have hn0:h.dX.next=h.next:=rfl
 have g1:h1.get h.next=some [v]:=by rw[eh1];exact vk rfl
 have rd1:=rd.mono fun i c q=>hx0 i c q
 have k1:=KH h1 v l hvs hn rd1 (fun x hx=>(hv x hx).mono hx0)
 cases hm:wR (l.map (·.1))with
 | false =>
   rw[hm]at k1
   have k1':aQ AP.A 190 [.agg [v]] h1=some (.int .i64 0,h1):=k1
   refine tM (fn:=AP.f186) (h2:=h1) (e:=[(2,.bool false)]) (vs:=[.bool false]) rfl rfl rfl ?_ rfl rfl
   clear rd rd1 hv hx0
   simp (disch:=omega)only[go_sem,vh,AP.f186,hvs,hn0,←eh1,g1,wM,k1']
 | true =>
   rw[hm]at k1
   have k1':aQ AP.A 190 [.agg [v]] h1=some (.int .i64 (xC (l.map (·.1)):Nat),h1):=k1
   have m3:=(vV hm).2.2
   have m4:22≤xC (l.map (·.1)):=by unfold xC;omega
   generalize xC (l.map (·.1))=N at *
   refine tM (fn:=AP.f186) (h2:=h1) (e:=[(2,.bool true)]) (vs:=[.bool true]) rfl rfl rfl ?_ rfl rfl
   clear rd rd1 hv hx0 k1 hm
   simp (disch:=omega)only[go_sem,vh,AP.f186,hvs,hn0,←eh1,g1,wM,k1']
theorem Nv (h:H) (hf:h.floor≤h.next) (e:vQ) (v:AV) (hv:v.sc=true) (ok:wS h (e,v)):aQ AP.A 188 [.agg (vq e v)] h=some (.bool (!wG e),h):=by
 obtain⟨h1,eh1⟩:∃g,g=h.dX.alloc (vq e v):=⟨_,rfl⟩
 have hx1:Ext h h1:=fun i c q=>by rw[eh1];exact((Ext.refl h.dX).alloc _) i c q
 have hn0:h.dX.next=h.next:=rfl
 have g0:h1.get h.next=some (vq e v):=by rw[eh1,vk (by simp)]
 have k1:=FK h1 (by rw[eh1];simp) e v hv (ok.mono hx1)
 have rdA:hR true 9 (vq e v) 0=some (.agg (vq e v)):=rfl
 refine tM (fn:=AP.f188) (h2:=h1) (e:=[(2,.bool (!wG e))]) rfl rfl rfl ?_ rfl rfl
 clear hx1
 simp only[vq]at *
 simp (disch:=omega)only[go_sem,vh,AP.f188,hv,hn0,←eh1,g0,rdA,k1]
theorem Gs {v : AV} {l : List vF} (hl : l.length < 1000) (h : H) (hf : h.floor ≤ h.next) (rd : wO 9 h v l.length (vD l)) (hv : ∀ x ∈ l, wS h x ∧ x.2.sc = true) : ∀ (q p : List vF), l = p ++ q →
 (∃e',Lp AP.A [0,1,7,8] AP.f191L0 [(0,v),(1,.fn 188 [] []),(7,.int .i64 l.length),(8,.int .i64 p.length)] h=some (.exit 0,e',h)∧(q.map (·.1)).all wG=true)∨
 (∃e',Lp AP.A [0,1,7,8] AP.f191L0 [(0,v),(1,.fn 188 [] []),(7,.int .i64 l.length),(8,.int .i64 p.length)] h=some (.ret,e',h)∧(∃k:Nat,look e' 4=.int .i64 k)∧(q.map (·.1)).all wG=false)
 | [], p, hp => by
   rw[UX]at hp;subst hp
   refine .inl ⟨[(0,v),(1,.fn 188 [] []),(7,.int .i64 l.length),(8,.int .i64 l.length),(9,.bool false)],sY ?_,rfl⟩
   simp (disch:=omega)only[go_sem,vh,AP.f191L0]
 | x :: q, p, hp => by
   have hx:l[p.length]?=some x:=by rw[hp];simp
   have hlen:l.length=p.length+(q.length+1):=by rw[hp];simp
   obtain⟨ad,a1,a2⟩:=rd.FB
   have b1:=a1 p.length ⟨by omega,by omega⟩
   obtain⟨_,b2⟩:=a2 h (Ext.refl h) p.length x hx
   obtain⟨ok,sc⟩:=hv x (by rw[hp];simp)
   have k1:=Nv h hf x.1 x.2 sc ok
   have n1:((p++[x]).length:Int)=(p.length:Int)+1:=by simp
   have ih:=Gs hl h hf rd hv q (p++[x]) (by rw[hp];simp)
   rw[n1]at ih
   rw[U5,Vl]
   cases hm:wG x.1 with
   | false =>
     rw[hm]at k1
     refine .inr ⟨[(4,.int .i64 p.length)],tC ?_,⟨p.length,rfl⟩,rfl⟩
     clear ih rd a1 a2 hv hp
     generalize vq x.1 x.2=E at *
     simp (disch:=omega)only[go_sem,vh,AP.f191L0,b1,b2,k1]
   | true =>
     rw[hm]at k1
     rw[U7]
     have step:aK (aQ AP.A) bz AP.f191L0 (ax [(0,v),(1,.fn 188 [] []),(7,.int .i64 l.length),(8,.int .i64 p.length)] [0,1,7,8]) h=some (.normal,[(0,v),(1,.fn 188 [] []),(7,.int .i64 l.length),(8,.int .i64 ((p.length:Int)+1))],h):=by
      clear ih rd a1 a2 hv hp
      generalize vq x.1 x.2=E at *
      simp (disch:=omega)only[go_sem,vh,AP.f191L0,b1,b2,k1]
     rcases ih with ⟨e',r1,r2⟩|⟨e',r1,r2,r3⟩
     · exact .inl ⟨e',sZ step r1,r2⟩
     · exact .inr ⟨e',sZ step r1,r2,r3⟩
theorem Lw (h:H) (hf:h.floor≤h.next) (v:AV) (l:List vF) (hl:l.length<1000) (rd:wO 9 h v l.length (vD l)) (hv:∀x∈l,wS h x∧x.2.sc=true):aQ AP.A 187 [v,.fn 188 [] []] h=some (.bool (!(l.map (·.1)).all wG),h):=by
 have xf:Ext h h.dX:=fun i c q=>q
 have k1:∃k:Int,aQ AP.A 191 [v,.fn 188 [] []] h.dX=some (.int .i64 k,h.dX)∧(k<0↔(l.map (·.1)).all wG=true):=by
  have ln:=rd.len
  rcases Gs hl h.dX.dX (by simp) (rd.mono fun i c q=>xf i c q) (fun x hx=>⟨(hv x hx).1.mono xf,(hv x hx).2⟩) l [] rfl with ⟨e',r1,r2⟩|⟨e',r1,⟨k,r2⟩,r3⟩
  · have r1':Lp AP.A [0,1,7,8] AP.f191L0 [(0,v),(1,.fn 188 [] []),(7,.int .i64 l.length),(8,.int .i64 0)] h.dX.dX=some (.exit 0,e',h.dX.dX):=r1
    refine⟨-1,tM (fn:=AP.f191) (h2:=h.dX.dX) (e:=[(4,.int .i64 (-1))]) rfl rfl rfl ?_ rfl rfl,by rw[r2];simp⟩
    clear rd hv r1 r2
    simp (disch:=omega)only[go_sem,vh,AP.f191,ln,rR,r1']
  · have r1':Lp AP.A [0,1,7,8] AP.f191L0 [(0,v),(1,.fn 188 [] []),(7,.int .i64 l.length),(8,.int .i64 0)] h.dX.dX=some (.ret,e',h.dX.dX):=r1
    refine⟨k,tM (fn:=AP.f191) (h2:=h.dX.dX) (e:=e') (vs:=[.int .i64 k]) rfl rfl rfl ?_ (by simp only[AP.f191,cL,mQ,r2];rfl) rfl,by rw[r3];simp⟩
    clear rd hv r1 r2 r3
    simp (disch:=omega)only[go_sem,vh,AP.f191,ln,rR,r1']
 obtain⟨k,k1,k2⟩:=k1
 refine tM (fn:=AP.f187) (h2:=h.dX) (e:=[(4,.bool (!(l.map (·.1)).all wG))]) rfl rfl rfl ?_ rfl rfl
 cases ha:(l.map (·.1)).all wG with
 | true =>
   have:¬0≤k:=by have:=k2.2 ha;omega
   clear rd hv k2
   simp (disch:=omega)only[go_sem,vh,AP.f187,k1]
 | false =>
   have:0≤k:=by
    rw[ha]at k2
    have:¬k<0:=fun q=>by cases k2.1 q
    omega
   clear rd hv k2
   simp (disch:=omega)only[go_sem,vh,AP.f187,k1]
theorem Iw (h:H) (v:AV) (l:List vF) (hvs:v.sc=true) (hn:l.length<1125899906842624) (rd:wO 9 h v l.length (vD l)) (hv:∀x∈l,wS h x∧x.2.sc=true):aQ AP.A 183 [.agg [v]] h=some (.bool (vY (l.map (·.1))),h):=by
 obtain⟨h1,eh1⟩:∃g,g=h.dX.alloc [v]:=⟨_,rfl⟩
 have hx0:Ext h h1:=by rw[eh1];exact fun i c q=>((Ext.refl h.dX).alloc _) i c q
 have hn0:h.dX.next=h.next:=rfl
 have g1:h1.get h.next=some [v]:=by rw[eh1];exact vk rfl
 have rd1:=rd.mono fun i c q=>hx0 i c q
 have k1:=Pr h1 v l hvs hn rd1 (fun x hx=>(hv x hx).1.mono hx0)
 refine tM (fn:=AP.f183) (h2:=h1) (e:=[(2,.bool (vY (l.map (·.1))))]) rfl rfl rfl ?_ rfl rfl
 unfold vY
 cases hm:wR (l.map (·.1))with
 | false =>
   rw[hm]at k1
   clear rd rd1 hv hx0
   simp (disch:=omega)only[go_sem,vh,AP.f183,hvs,hn0,←eh1,g1,wM,k1]
 | true =>
   rw[hm]at k1
   have m1:=(vV hm).1
   rw[UW]at m1
   have k2:=Lw h1 (by rw[eh1];simp) v l (by omega) rd1 (fun x hx=>⟨(hv x hx).1.mono hx0,(hv x hx).2⟩)
   clear rd rd1 hv hx0
   generalize (l.map (·.1)).all wG=B at *
   cases B<;>simp (disch:=omega)only[go_sem,vh,AP.f183,hvs,hn0,←eh1,g1,wM,k1,k2]
def KR:Ty:=.sl Nq 9 104
def J3:Ty:=.st [KR]
theorem KA {ess:List (List AV)} (h:∀es,es∈ess→Sh reachBytes Nq es):∃l:List vF,l.length=ess.length∧ess.flatten=vD l∧∀x∈l,x.2.sc=true∧(∀g,wS g x)∧x.1.vec.length<20000000000000:=by
 induction ess with
 |nil=>exact⟨[],rfl,rfl,fun x hx=>by cases hx⟩
 | cons y ess ih =>
   obtain⟨e,v,rfl,hv,ok,hl⟩:=PX (h y (by simp))
   obtain⟨l,h1,h2,h3⟩:=ih fun es q=>h es (by simp [q])
   refine⟨(e,v)::l,by simp [h1],by rw[List.flatten_cons,h2];rfl,fun x hx=> ?_⟩
   rcases uW.1 hx with rfl|hx
   · exact⟨hv,ok,hl⟩
   · exact h3 x hx
theorem KB {avs:List AV} (h:Sh reachBytes KR avs):∃(v:AV) (l:List vF),avs=[v]∧v.sc=true∧(∀g,wO 9 g v l.length (vD l))∧(∀x∈l,x.2.sc=true∧(∀g,wS g x)∧x.1.vec.length<20000000000000)∧l.length<1353300000000:=by
 cases h with
 |aO=>exact⟨.aO,[],rfl,rfl,fun g=>⟨rfl,rfl,fun s q=>(by cases q)⟩,fun x hx=>(by cases hx),by simp⟩
 | aU ess h hz hb =>
   obtain⟨l,h1,h2,h3⟩:=KA h
   have hl:ess.flatten.length=ess.length* 9:=by rw[h2,yO,h1]
   refine⟨_,l,rfl,rfl,fun g=> ?_,h3, ?_⟩
   · rw[h2,←h1]
     refine⟨?_,by rw[yO],fun s q=>by cases q⟩
     simp only[aR,if_true,uK]
     rw[if_pos (by rw[yO];exact uF _),U1,uU (by rw[yO];exact uF _)]
   · rw[h1];unfold reachBytes at hb;omega
theorem PY {avs:List AV} (h:Sh reachBytes J3 avs):∃(v:AV) (l:List vF),avs=[v]∧v.sc=true∧(∀g,wO 9 g v l.length (vD l))∧(∀x∈l,x.2.sc=true∧(∀g,wS g x)∧x.1.vec.length<20000000000000)∧l.length<1353300000000:=by
 obtain⟨a1,r1,rfl,s1,h1⟩:=xm (K6 h)
 obtain rfl:=GL h1
 obtain⟨v,l,rfl,q⟩:=KB s1
 exact⟨v,l,rfl,q⟩
theorem SA {a b c x:aF} {e e':Env} {h h':H} {q:dK} (k:aK (aQ AP.A) bz (.seq a (.seq b c)) e h=some (.normal,e',h')) (z:aK (aQ AP.A) bz x e' h'=q):aK (aQ AP.A) bz (.seq a (.seq b (.seq c x))) e h=q:=by
 have st:∀{a b b':aF} {e:Env} {h:H},(∀e h,aK (aQ AP.A) bz b e h=some (.normal,e',h')→aK (aQ AP.A) bz b' e h=q)→aK (aQ AP.A) bz (.seq a b) e h=some (.normal,e',h')→aK (aQ AP.A) bz (.seq a b') e h=q:=fun {a b b' e h} f k=>by
  rw[rF]at k ⊢
  cases hq:aK (aQ AP.A) bz a e h with
  |none=>rw[hq]at k;cases k
  | some r =>
    obtain⟨ex,ev,hr⟩:=r
    cases ex with
    |normal=>rw[hq,su]at k;rw[su];exact f _ _ k
    |exit i=>rw[hq]at k;cases k
    |ret=>rw[hq]at k;cases k
 refine st (fun e h=>st fun e h k=> ?_) k
 rw[rF,k,su];exact z
structure SR (n:Nat) (h:H) (w:AV) (h':H) (k:Nat) (cs:List AV):Prop where
 own:vM n h' w k cs
 ext:Ext h h'
 fl:h'.floor=h.floor
 nx:h.next≤h'.next
 ge:∀i,w.id?=some i→h.next≤i
theorem EG (h:H) (s:ByteArray) (hs:s.size<1125899906842624):aQ AP.A 179 [.str s] h=some (.int .i64 ((xE s%8:Nat):Int),h):=by
 have k1:=E8 h.dX s hs
 have rm:bp .rem (.int .i64 (xE s:Int)) (.int .i64 8)=some (.int .i64 ((xE s%8:Nat):Int)):=by
  show(if(8:Int)=0 then none else some (AV.int .i64 ((xE s:Int).tmod 8)))=_
  rw[if_neg (by decide),Int.tmod_eq_emod_of_nonneg (by omega)];rfl
 generalize ((xE s%8:Nat):Int)=M at *
 refine tM (fn:=AP.f179) (h2:=h.dX) (e:=[(2,.int .i64 M)]) rfl rfl rfl ?_ rfl rfl
 simp (disch:=omega)only[go_sem,vh,AP.f179,k1,rm]
theorem wZ {v:AV} (h:v.sc=true):v.cells=[v]:=by cases v<;>first|rfl|cases h
theorem F6 {v:AV} {l:List vF} (h0:H) (rd:wO 9 h0 v l.length (vD l)) (hv:∀x∈l,wS h0 x∧x.2.sc=true) (hm:vY (l.map (·.1))=true) (A:Nat) (hA:h0.next≤A):∀(q p:List vF),l=p++q→∀(h:H) (C:Nat→AV),Ext h0 h→h0.next≤h.next→Bu h A C (xk (p.map (·.1)))→
 ∃e' h' C',Lp AP.A [4,19,20,21] AP.f177L1 [(4,.aC A 0),(19,v),(20,.int .i64 l.length),(21,.int .i64 p.length)] h=some (.exit 0,e',h')∧look e' 4=.aC A 0∧Bu h' A C' (xk (l.map (·.1)))∧Ext h0 h'∧h'.floor=h.floor∧h.next≤h'.next
 | [], p, hp, h, C, hx, hn, bu => by
   rw[UX]at hp;subst hp
   refine⟨[(4,.aC A 0),(19,v),(20,.int .i64 l.length),(21,.int .i64 l.length),(22,.bool false)],h,C,sY ?_,rfl,bu,hx,rfl,uF _⟩
   simp (disch:=omega)only[go_sem,vh,AP.f177L1]
 | x :: q, p, hp, h, C, hx, hn, bu => by
   unfold vY at hm
   have hm':=hm
   rw[uG]at hm
   obtain⟨m1,m2,m3⟩:=vV hm.1
   rw[UW]at m1
   have hl:l[p.length]?=some x:=by rw[hp];simp
   have hlen:l.length=p.length+(q.length+1):=by rw[hp];simp
   have may:wG x.1=true:=Vd.1 hm.2 x.1 (by rw[hp];simp)
   have nsz:=wY (m2 x.1 (by rw[hp];simp)).1
   obtain⟨ad,a1,a2⟩:=rd.FB
   have b1:=a1 p.length ⟨by omega,by omega⟩
   obtain⟨_,b2⟩:=a2 h hx p.length x hl
   obtain⟨ok,sc⟩:=hv x (by rw[hp];simp)
   obtain⟨E,hE⟩:∃E,E=vq x.1 x.2:=⟨_,rfl⟩
   have lE:E.length=9:=by rw[hE];rfl
   have cE:AV.aB E=true:=by rw[hE];exact yf sc
   have rE:hR true 9 E 0=some (.agg E):=by rw[hE];rfl
   have E0:E[0]?=some (.str x.1.name):=by rw[hE];rfl
   obtain⟨g0,eg0⟩:∃g,g=h.alloc Z9:=⟨_,rfl⟩
   obtain⟨g1,eg1⟩:∃g,g=g0.set h.next E:=⟨_,rfl⟩
   have z0:g0.get h.next=some Z9:=by rw[eg0,vk rfl]
   have st:tO g0 h.next 0 9 E (some Z9)=some g1:=by rw[eg1];exact wE (by rw[eg0];simp;exact bu.nx) lE rfl cE
   have z1:g1.get h.next=some E:=by rw[eg1,vA rfl,z0];rfl
   have low:∀i,i<h.next→g1.get i=h.get i:=fun i hi=>by rw[eg1,vp (by omega),eg0,vN (by omega)]
   have f1:g1.floor=h.floor:=by rw[eg1,eg0];simp
   have n1:g1.next=h.next+1:=by rw[eg1,eg0];simp
   have x1:Ext h0 g1:=fun i c q=>by rw[low i (by have:=h0.lt _ _ q;omega)];exact hx i c q
   have bu1:=bu.mono f1 (by omega) low
   have k1:=Ii g1 (by have:=bu.nx;omega) x.1 x.2 sc (ok.mono x1)
   unfold Hn at k1
   rw[if_pos may,←hE]at k1
   have k1':aQ AP.A 91 [.agg E] g1=some (.bO [.int .i64 (Ih x.1),.int .i64 0],g1):=k1
   have k2:=EG g1 x.1.name (by omega)
   obtain⟨b,hb⟩:∃b,b=xE x.1.name%8:=⟨_,rfl⟩
   have hb8:b<8:=by omega
   rw[←hb]at k2
   obtain⟨v',h',p1,p2,p3,p4,p5,p6,p7⟩:=bu1.push hb8 (by have:=Ai (p.map (·.1)) b;rw[UW]at this;omega) (Ih x.1)
   have gC:(mY 8 C)[b]?=some (C b):=fS hb8
   have hc:=wZ p2
   have gA1:=bu1.get
   have st2:tO h' A b 1 [v'] (some (mY 8 C))=some (h'.set A (mY 8 (tR C b v'))):=by
    rw[uh (by rw[p4];exact bu1.fl) (by simp [hb8]) p2,tw hb8]
   have eb:(fun m=>if m=b then xk (p.map (·.1)) b++[Ih x.1]else xk (p.map (·.1)) m)=xk ((p++[x]).map (·.1)):=by
    funext m
    rw[Va,Vj,C9]
    have:Bl x.1=b:=hb.symm
    rw[this]
    by_cases c:m=b
    · subst c;simp
    · rw[if_neg c,if_neg (by omega)]
   rw[eb]at p6
   obtain⟨e',h2,C2,r1,r2,r3,r4,r5,r6⟩:=F6 h0 rd hv hm' A hA q (p++[x]) (by rw[hp];simp) (h'.set A (mY 8 (tR C b v'))) _ (fun i c q=>by have:=h0.lt _ _ q;rw[vp (by omega),p7 i (by omega)];exact x1 i c q) (by simp;omega) p6
   have w1:((p++[x]).length:Int)=(p.length:Int)+1:=by simp
   rw[w1]at r1
   refine⟨e',h2,C2,sZ ?_ r1,r2,r3,r4,by rw[r5];simp [p4,f1],by simp at r6;omega⟩
   rw[←hE]at b2
   have a0:h.alloc [.str ⟨#[]⟩,.bool false,.aO,.int .i64 0,.int .i64 0,.int .i64 0,.str ⟨#[]⟩,.int .i64 0,.int .i64 0]=g0:=eg0.symm
   have pI:(0:Int)≤(b:Int)∧(b:Int)<8:=⟨by omega,by omega⟩
   clear r1 r2 r3 r4 r5 r6 p6 eb hE hv rd a1 a2 x1 low bu bu1 k1 hx hm hm' m2 hb may hp eg0 eg1
   generalize Ih x.1=D at *
   generalize mY 8 (tR C b v')=T2 at *
   generalize mY 8 C=T1 at *
   simp (disch:=omega)only[go_sem,vh,AP.f177L1,b1,b2,a0,z0,lE,cE,st,z1,rE,E0,k1',k2,gA1,gC,p1,hc,p3,st2]
theorem CE {f:Nat→Int} (i:Nat):(List.range (i+1)).map f=(List.range i).map f++[f i]:=by rw[List.range_succ,Va];rfl
theorem ED (h0 : H) (C : Nat → AV) (ls : Nat → List Int) (hb : ∀ m, m < 8 → (ls m).all y9 = true ∧ (ls m).length < 1000000) : ∀ (n i : Nat), i + n = 8 → ∀ (h : H) (ov : AV), (∀ m, m < 8 → Rd h (C m) (ints (ls m))) → vM 1 h ov i (ints ((List.range i).map fun b => vX (ls b))) → h.floor ≤ h.next →
 (∀m,m<8→∀j,(C m).id?=some j→ov.id?≠some j∧j<h.next)→Ext h0 h→h0.next≤h.next→(∀j,ov.id?=some j→h0.next≤j)→
 ∃e' h' ov',Lp AP.A [10,42,43] AP.f177L0 [(10,ov),(42,.agg (mY 8 C)),(43,.int .i64 i)] h=some (.exit 2,e',h')∧look e' 10=ov'∧vM 1 h' ov' 8 (ints ((List.range 8).map fun b=>vX (ls b)))∧Ext h0 h'∧h'.floor=h.floor∧h.next≤h'.next∧∀j,ov'.id?=some j→h0.next≤j
 | 0, i, hi, h, ov, hR, o, hf, sep, hx, hn, hge => by
   obtain rfl:i=8:=by omega
   refine⟨[(10,ov),(42,.agg (mY 8 C)),(43,.int .i64 8),(44,.bool false)],h,ov,sY ?_,rfl,o,hx,rfl,uF _,hge⟩
   generalize mY 8 C=T at *
   simp (disch:=omega)only[go_sem,vh,AP.f177L0]
 | n + 1, i, hi, h, ov, hR, o, hf, sep, hx, hn, hge => by
   obtain⟨ha,hl⟩:=hb i (by omega)
   have k1:=II h (C i) (ls i) (hR i (by omega)) (by omega)
   rw[E4 ha]at k1
   have k1':aQ AP.A 93 [C i] h=some (.bO [.int .i64 (vX (ls i)),.int .i64 0],h):=k1
   obtain⟨v',h',p1,p2,p3,p4,p5,p6⟩:=o.push hf (z:=8) (m:=1) (by omega) (by omega) [.int .i64 (vX (ls i))] rfl rfl (by simp [roomy];omega)
   have e:ints ((List.range i).map fun b=>vX (ls b))++[.int .i64 (vX (ls i))]=ints ((List.range (i+1)).map fun b=>vX (ls b)):=by rw[CE];simp [ints,I]
   rw[e]at p2
   have wN:∀j,j<h.next→ov.id?≠some j→h'.get j=h.get j:=fun j a b=>p5 j b a
   have gC:lS false 8 1 (.agg (mY 8 C)) (.int .i64 i)=some (C i):=by
    show(dc (.int .i64 (i:Int)) 8).bind _=_
    rw[Qe ⟨by omega,by omega⟩,uC,xc,Vk]
    exact fS (by omega)
   obtain⟨e',h2,ov',r1,r2⟩:=ED h0 C ls hb n (i+1) (by omega) h' v' (fun m hm=>(hR m hm).Ct fun j q=>wN j (sep m hm j q).2 (sep m hm j q).1) p2 (by rw[p3];omega) (fun m hm j q=>by
    have:=(sep m hm j q).2
    rw[p6]
    exact⟨fun q2=>by have:=uv q2;omega,by omega⟩) (fun j c q=>by
     have:=h0.lt _ _ q
     rw[wN j (by omega) (fun q2=>by have:=hge j q2;omega)];exact hx j c q) (by omega) (fun j q=>by rw[p6]at q;have:=uv q;omega)
   have w1:((i+1:Nat):Int)=(i:Int)+1:=by omega
   rw[w1]at r1
   refine⟨e',h2,ov',sZ ?_ r1,r2.1,r2.2.1,r2.2.2.1,by rw[r2.2.2.2.1,p3],by have:=r2.2.2.2.2.1;omega,r2.2.2.2.2.2⟩
   have scC:(C i).sc=true:=by
    have:=hR i (by omega)
    cases hc:C i with
    |bot=>rw[hc]at this;cases this.1
    |agg _=>rw[hc]at this;cases this.1
    |bO _=>rw[hc]at this;cases this.1
    |_=>rfl
   clear r1 r2 wN hR o sep hx p2 e hb
   generalize vX (ls i)=D at *
   generalize mY 8 C=T at *
   generalize C i=Ci at *
   simp (disch:=omega)only[go_sem,vh,AP.f177L0,gC,k1',p1,uD,u0]
theorem Ij (l:List vQ):vK l=(List.range 8).map fun b=>vX (xk l b):=rfl
theorem FI (h : H) (hf : h.floor ≤ h.next) (v : AV) (l : List vF) (hvs : v.sc = true) (hn : l.length < 1125899906842624) (rd : wO 9 h v l.length (vD l)) (hv : ∀ x ∈ l, wS h x ∧ x.2.sc = true) :
 ∃w h',aQ AP.A 177 [.agg [v]] h=some (.bO [w,.int .i64 (if vY (l.map (·.1))then 0 else 1600)],h')∧SR 1 h w h' (if vY (l.map (·.1))then vK (l.map (·.1))else []).length (ints (if vY (l.map (·.1))then vK (l.map (·.1))else [])):=by
 obtain⟨g1,eg1⟩:∃g,g=h.alloc [v]:=⟨_,rfl⟩
 have hx1:Ext h g1:=by rw[eg1];exact(Ext.refl h).alloc _
 have z1:g1.get h.next=some [v]:=by rw[eg1];exact vk rfl
 have f1:g1.floor=h.floor:=by rw[eg1];simp
 have n1:g1.next=h.next+1:=by rw[eg1];simp
 have rd1:=rd.mono fun i c q=>hx1 i c q
 have hv1:∀x∈l,wS g1 x∧x.2.sc=true:=fun x hx=>⟨(hv x hx).1.mono hx1,(hv x hx).2⟩
 have k1:=Iw g1 v l hvs hn rd1 hv1
 have ln:=rd1.len
 cases hm:vY (l.map (·.1))with
 | false =>
   rw[hm]at k1
   refine⟨.aO,g1, ?_,⟨vM.nil,hx1,f1,by omega,fun i q=>by cases q⟩⟩
   refine tr (fn:=AP.f177) (h2:=g1) (e:=[(2,.aO),(3,.int .i64 1600)]) (vs:=[.aO,.int .i64 1600]) rfl rfl rfl ?_ rfl
   clear rd rd1 hv hv1 hx1
   simp (disch:=omega)only[go_sem,vh,AP.f177,hvs,←eg1,z1,wM,k1]
 | true =>
   rw[hm]at k1
   have m1:=hm
   unfold vY at m1
   rw[uG]at m1
   have m2:=(vV m1.1).1
   rw[UW]at m2
   obtain⟨g2,eg2⟩:∃g,g=g1.alloc (mY 8 fun _=>.aO):=⟨_,rfl⟩
   have hx2:Ext g1 g2:=by rw[eg2];exact(Ext.refl g1).alloc _
   have z2:g2.get h.next=some [v]:=hx2 _ _ z1
   have bu:=Bu.new (h:=g1) (by omega)
   rw[←eg2]at bu
   obtain⟨e',g3,C,r1,r2,r3,r4,r5,r6⟩:=F6 g1 rd1 hv1 hm g1.next (uF _) l [] rfl g2 (fun _=>.aO) hx2 (by rw[eg2];simp) bu
   have r1':Lp AP.A [4,19,20,21] AP.f177L1 [(4,.aC (h.next+1) 0),(19,v),(20,.int .i64 l.length),(21,.int .i64 0)] g2=some (.exit 0,e',g3):=by rw[←n1];exact r1
   rw[n1]at r2 r3
   have a2:g1.alloc [.aO,.aO,.aO,.aO,.aO,.aO,.aO,.aO]=g2:=eg2.symm
   have z3:=r3.get
   have rT:hR true 8 (mY 8 C) 0=some (.agg (mY 8 C)):=rfl
   have n2:g2.next=h.next+2:=by rw[eg2];simp [n1]
   have f2:g2.floor=h.floor:=by rw[eg2];simp [f1]
   obtain⟨e2,g4,ov,s1,s2,s3,s4,s5,s6,s7⟩:=ED h C (xk (l.map (·.1))) (fun m _=>⟨F9 _ _,by have:=Ai (l.map (·.1)) m;rw[UW]at this;omega⟩) 8 0 rfl g3 .aO (fun m hm=>by
    have o:=(r3.own m hm).rd
    exact⟨by have:=o.1;rw[pt];exact this,o.2.2⟩) vM.nil r3.nx (fun m hm j q=>⟨(fun q2=>by cases q2),((r3.own m hm).lt q).2⟩) (fun i c q=>r4 i c (hx1 i c q)) (by omega) (fun j q=>by cases q)
   have s1':Lp AP.A [10,42,43] AP.f177L0 [(10,.aO),(42,.agg (mY 8 C)),(43,.int .i64 0)] g3=some (.exit 2,e2,g4):=s1
   refine⟨ov,g4, ?_,⟨by rw[if_pos rfl,vI,Ij];exact s3,s4,by rw[s5,r5,f2],by omega,s7⟩⟩
   rw[if_pos rfl]
   refine tr (fn:=AP.f177) (h2:=g4) (e:=[(2,ov),(3,.int .i64 0)]) (vs:=[ov,.int .i64 0]) rfl rfl rfl ?_ rfl
   clear rd rd1 hv hv1 hx1 hx2 r1 s1 s3 s4 r3 bu eg2
   generalize mY 8 C=T at *
   simp (disch:=omega)only[go_sem,vh,AP.f177,hvs,←eg1,z1,n1,wM,k1,a2,z2,ln,rR,r1',r2,z3,rT,s1',s2]
def GH (l:List Int):AV:=if l.all y9&&decide (l.length=8)then .bO [.int .i64 (vX l),.int .i64 0]else .bO [.int .i64 0,.int .i64 1600]
theorem Jf (h:H) (v:AV) (l:List Int) (rd:Rd h v (ints l)) (hl:l.length<1125899906842624):aQ AP.A 181 [v] h=some (GH l,h):=by
 have xf:Ext h h.dX:=fun i c q=>q
 have k1:=II h.dX v l (rd.mono fun i c q=>xf i c q) hl
 have r2:=(rd.mono fun i c q=>xf i c q:Rd h.dX v (ints l)).Ef
 rw[pt]at r2
 have ln:=r2.len
 unfold GH
 unfold Cr at k1
 cases ha:l.all y9 with
 | false =>
   rw[ha]at k1
   have k1':aQ AP.A 93 [v] h.dX=some (.bO [.int .i64 0,.int .i64 1500],h.dX):=k1
   refine tM (fn:=AP.f181) (h2:=h.dX) (e:=[(2,.int .i64 0),(3,.int .i64 1600)]) rfl rfl rfl ?_ rfl rfl
   clear rd r2 k1
   simp (disch:=omega)only[go_sem,vh,AP.f181,k1',ln]
 | true =>
   rw[ha]at k1
   have k1':aQ AP.A 93 [v] h.dX=some (.bO [.int .i64 (vX l),.int .i64 0],h.dX):=k1
   by_cases c:l.length=8
   · have c':(l.length:Int)=8:=by omega
     rw[dt c]
     refine tM (fn:=AP.f181) (h2:=h.dX) (e:=[(2,.int .i64 (vX l)),(3,.int .i64 0)]) rfl rfl rfl ?_ rfl rfl
     clear rd r2 k1
     generalize vX l=M at *
     simp (disch:=omega)only[go_sem,vh,AP.f181,k1',ln]
   · have c':¬(l.length:Int)=8:=by omega
     rw[df c]
     refine tM (fn:=AP.f181) (h2:=h.dX) (e:=[(2,.int .i64 0),(3,.int .i64 1600)]) rfl rfl rfl ?_ rfl rfl
     clear rd r2 k1
     generalize vX l=M at *
     simp (disch:=omega)only[go_sem,vh,AP.f181,k1',ln]
def JN (p:Option Int) (b:Int):Bool:=decide (0≤b)&&(decide (b<8)&&(match p with|none=>true|some q=>decide (q<b)))
theorem F8 (p:Option Int) (b:Int) (l:List Int):xF p (b::l)=(JN p b&&xF (some b) l):=by cases p<;>(rw[xF];rfl)
theorem F7 {v : AV} {l : List Int} (hl : l.length < 1125899906842624) (h : H) (rd : Rd h v (ints l)) : ∀ (q p : List Int), l = p ++ q →
 (∃e',Lp AP.A [0,5,6,7] AP.f184L0 [(0,v),(5,v),(6,.int .i64 l.length),(7,.int .i64 p.length)] h=some (.exit 0,e',h)∧xF p.getLast? q=true)∨
 (∃e',Lp AP.A [0,5,6,7] AP.f184L0 [(0,v),(5,v),(6,.int .i64 l.length),(7,.int .i64 p.length)] h=some (.ret,e',h)∧look e' 2=.bool false∧xF p.getLast? q=false)
 | [], p, hp => by
   rw[UX]at hp;subst hp
   refine .inl ⟨[(0,v),(5,v),(6,.int .i64 l.length),(7,.int .i64 l.length),(8,.bool false)],sY ?_,rfl⟩
   simp (disch:=omega)only[go_sem,vh,AP.f184L0]
 | x :: q, p, hp => by
   have hlen:l.length=p.length+(q.length+1):=by rw[hp];simp
   have hx:l[p.length]?=some x:=by rw[hp];simp
   obtain⟨ad,a1,a2⟩:=rd.wI
   have b1:=a1 p.length ⟨by omega,by omega⟩
   have b2:=a2 h (Ext.refl h) p.length x hx
   have ih:=F7 hl h rd q (p++[x]) (by rw[hp];simp)
   have w1:((p++[x]).length:Int)=(p.length:Int)+1:=by simp
   rw[w1,List.getLast?_concat]at ih
   rw[F8]
   have step : aK (aQ AP.A) bz AP.f184L0 (ax [(0, v), (5, v), (6, .int .i64 l.length), (7, .int .i64 p.length)] [0, 5, 6, 7]) h = if JN p.getLast? x then some (.normal, [(0, v), (5, v), (6, .int .i64 l.length), (7, .int .i64 ((p.length : Int) + 1))], h) else some (.ret, [(2, .bool false)], h) := by
    unfold JN
    cases hq:p.getLast? with
    | none =>
      have hp0:p=[]:=List.getLast?_eq_none_iff.1 hq
      have hp1:p.length=0:=by rw[hp0];rfl
      clear ih rd a1 a2 hp w1
      by_cases c1:0≤x
      · by_cases c2:x<8
        · simp only[dt c1,dt c2,Ve,if_true]
          simp (disch:=omega)only[go_sem,vh,AP.f184L0,b1,b2]
        · simp only[dt c1,df c2,UZ,U3,uD,u0]
          simp (disch:=omega)only[go_sem,vh,AP.f184L0,b1,b2]
      · simp only[df c1,UZ,uD,u0]
        simp (disch:=omega)only[go_sem,vh,AP.f184L0,b1,b2]
    | some y =>
      obtain⟨p',rfl⟩:∃p',p=p'++[y]:=List.getLast?_eq_some_iff.1 hq
      have hpl:(p'++[y]).length=p'.length+1:=by simp
      have hy:l[p'.length]?=some y:=by rw[hp];simp
      have bj:=a1 p'.length ⟨by omega,by omega⟩
      have lj:=a2 h (Ext.refl h) p'.length y hy
      have n2:(((p'++[y]).length:Nat):Int)-1=(p'.length:Int):=by rw[hpl];omega
      have n3:0<(((p'++[y]).length:Nat):Int):=by rw[hpl];omega
      clear ih rd a1 a2 hp w1 hx hy hq
      generalize (p'++[y]).length=pl at *
      by_cases c1:0≤x
      · by_cases c2:x<8
        · by_cases c3:y<x
          · rw[dt c1,dt c2]
            simp only[dt c3,Ve,if_true]
            simp (disch:=omega)only[go_sem,vh,AP.f184L0,b1,b2,bj,lj,n2]
          · rw[dt c1,dt c2]
            simp only[df c3,U3,uD,u0]
            simp (disch:=omega)only[go_sem,vh,AP.f184L0,b1,b2,bj,lj,n2]
        · simp only[dt c1,df c2,UZ,U3,uD,u0]
          simp (disch:=omega)only[go_sem,vh,AP.f184L0,b1,b2]
      · simp only[df c1,UZ,uD,u0]
        simp (disch:=omega)only[go_sem,vh,AP.f184L0,b1,b2]
   by_cases hok:JN p.getLast? x=true
   · rw[if_pos hok]at step
     rw[hok,U7]
     rcases ih with ⟨e',r1,r2⟩|⟨e',r1,r2,r3⟩
     · exact .inl ⟨e',sZ step r1,r2⟩
     · exact .inr ⟨e',sZ step r1,r2,r3⟩
   · have hok':JN p.getLast? x=false:=by simpa using hok
     rw[if_neg hok]at step
     rw[hok',UZ]
     exact .inr ⟨_,tC step,rfl,rfl⟩
theorem H6 (h:H) (v:AV) (l:List Int) (rd:Rd h v (ints l)) (hl:l.length<1125899906842624):aQ AP.A 184 [v] h=some (.bool (yz l),h):=by
 have xf:Ext h h.dX:=fun i c q=>q
 have rdf:Rd h.dX v (ints l):=rd.mono fun i c q=>xf i c q
 have r2:=rdf.Ef
 rw[pt]at r2
 have ln:=r2.len
 unfold yz
 rcases F7 hl h.dX rdf l [] rfl with ⟨e',r1,r3⟩|⟨e',r1,r3,r4⟩
 · have r1':Lp AP.A [0,5,6,7] AP.f184L0 [(0,v),(5,v),(6,.int .i64 l.length),(7,.int .i64 0)] h.dX=some (.exit 0,e',h.dX):=r1
   have r3':xF none l=true:=r3
   rw[r3']
   refine tM (fn:=AP.f184) (h2:=h.dX) (e:=[(2,.bool true)]) rfl rfl rfl ?_ rfl rfl
   clear rd rdf r2 r1 r3
   simp (disch:=omega)only[go_sem,vh,AP.f184,ln,rR,r1']
 · have r1':Lp AP.A [0,5,6,7] AP.f184L0 [(0,v),(5,v),(6,.int .i64 l.length),(7,.int .i64 0)] h.dX=some (.ret,e',h.dX):=r1
   have r4':xF none l=false:=r4
   rw[r4']
   refine tM (fn:=AP.f184) (h2:=h.dX) (e:=e') (vs:=[.bool false]) rfl rfl rfl ?_ (by simp only[AP.f184,cL,mQ,r3];rfl) rfl
   clear rd rdf r2 r1 r4
   simp (disch:=omega)only[go_sem,vh,AP.f184,ln,rR,r1']
theorem Gt {v : AV} {l : List Int} (hl : l.length < 1125899906842624) (h : H) (rd : Rd h v (ints l)) (y : Int) : ∀ (q p : List Int), l = p ++ q →
 (∃e',Lp AP.A [0,1,7,8] AP.f189L0 [(0,v),(1,.int .i64 y),(7,.int .i64 l.length),(8,.int .i64 p.length)] h=some (.exit 0,e',h)∧q.contains y=false)∨
 (∃e',Lp AP.A [0,1,7,8] AP.f189L0 [(0,v),(1,.int .i64 y),(7,.int .i64 l.length),(8,.int .i64 p.length)] h=some (.ret,e',h)∧(∃k:Nat,look e' 4=.int .i64 k)∧q.contains y=true)
 | [], p, hp => by
   rw[UX]at hp;subst hp
   refine .inl ⟨[(0,v),(1,.int .i64 y),(7,.int .i64 l.length),(8,.int .i64 l.length),(9,.bool false)],sY ?_,rfl⟩
   simp (disch:=omega)only[go_sem,vh,AP.f189L0]
 | x :: q, p, hp => by
   have hlen:l.length=p.length+(q.length+1):=by rw[hp];simp
   have hx:l[p.length]?=some x:=by rw[hp];simp
   obtain⟨ad,a1,a2⟩:=rd.wI
   have b1:=a1 p.length ⟨by omega,by omega⟩
   have b2:=a2 h (Ext.refl h) p.length x hx
   have ih:=Gt hl h rd y q (p++[x]) (by rw[hp];simp)
   have w1:((p++[x]).length:Int)=(p.length:Int)+1:=by simp
   rw[w1]at ih
   by_cases c:y=x
   · refine .inr ⟨[(4,.int .i64 p.length)],tC ?_,⟨p.length,rfl⟩,by simp [c]⟩
     clear ih rd a1 a2 hp w1
     simp (disch:=omega)only[go_sem,vh,AP.f189L0,b1,b2,c]
   · have step:aK (aQ AP.A) bz AP.f189L0 (ax [(0,v),(1,.int .i64 y),(7,.int .i64 l.length),(8,.int .i64 p.length)] [0,1,7,8]) h=some (.normal,[(0,v),(1,.int .i64 y),(7,.int .i64 l.length),(8,.int .i64 ((p.length:Int)+1))],h):=by
      clear ih rd a1 a2 hp w1
      simp (disch:=omega)only[go_sem,vh,AP.f189L0,b1,b2]
     have ec:(x::q).contains y=q.contains y:=by simp [c]
     rw[ec]
     rcases ih with ⟨e',r1,r2⟩|⟨e',r1,r2,r3⟩
     · exact .inl ⟨e',sZ step r1,r2⟩
     · exact .inr ⟨e',sZ step r1,r2,r3⟩
theorem Hw (h:H) (v:AV) (l:List Int) (y:Int) (rd:Rd h v (ints l)) (hl:l.length<1125899906842624):aQ AP.A 185 [v,.int .i64 y] h=some (.bool (l.contains y),h):=by
 have xf:Ext h h.dX:=fun i c q=>q
 have rdf:Rd h.dX.dX v (ints l):=rd.mono fun i c q=>xf i c q
 have r2:=rdf.Ef
 rw[pt]at r2
 have ln:=r2.len
 have k1:∃k:Int,aQ AP.A 189 [v,.int .i64 y] h.dX=some (.int .i64 k,h.dX)∧(0≤k↔l.contains y=true):=by
  rcases Gt hl h.dX.dX rdf y l [] rfl with ⟨e',r1,r3⟩|⟨e',r1,⟨k,r3⟩,r4⟩
  · have r1':Lp AP.A [0,1,7,8] AP.f189L0 [(0,v),(1,.int .i64 y),(7,.int .i64 l.length),(8,.int .i64 0)] h.dX.dX=some (.exit 0,e',h.dX.dX):=r1
    refine⟨-1,tM (fn:=AP.f189) (h2:=h.dX.dX) (e:=[(4,.int .i64 (-1))]) rfl rfl rfl ?_ rfl rfl,by rw[r3];simp⟩
    clear rd rdf r2 r1 r3
    simp (disch:=omega)only[go_sem,vh,AP.f189,ln,rR,r1']
  · have r1':Lp AP.A [0,1,7,8] AP.f189L0 [(0,v),(1,.int .i64 y),(7,.int .i64 l.length),(8,.int .i64 0)] h.dX.dX=some (.ret,e',h.dX.dX):=r1
    refine⟨k,tM (fn:=AP.f189) (h2:=h.dX.dX) (e:=e') (vs:=[.int .i64 k]) rfl rfl rfl ?_ (by simp only[AP.f189,cL,mQ,r3];rfl) rfl,by rw[r4];simp⟩
    clear rd rdf r2 r1 r4 r3
    simp (disch:=omega)only[go_sem,vh,AP.f189,ln,rR,r1']
 obtain⟨k,k1,k2⟩:=k1
 refine tM (fn:=AP.f185) (h2:=h.dX) (e:=[(4,.bool (l.contains y))]) rfl rfl rfl ?_ rfl rfl
 clear rd rdf r2
 cases hc:l.contains y with
 | true =>
   have:=k2.2 hc
   clear k2
   simp (disch:=omega)only[go_sem,vh,AP.f185,k1]
 | false =>
   have:¬0≤k:=fun q=>by rw[hc]at k2;cases k2.1 q
   clear k2
   simp (disch:=omega)only[go_sem,vh,AP.f185,k1]
abbrev xO:=Ha×AV
def JQ (x:xO):List AV:=[.str x.1.1,x.2]
def wv (l:List xO):List AV:=l.flatMap JQ
theorem zI (x:xO):(JQ x).length=2:=rfl
theorem BW (l:List xO) (x:xO):wv (l++[x])=wv l++JQ x:=by simp [wv]
structure HP (h0 h:H) (ov:AV) (x:xO):Prop where
 ex:∃j,x.2=.aD j 0 4 1∧h.get j=some (ints x.1.2)∧h0.next≤j∧ov.id?≠some j∧h.floor≤j
 l4:x.1.2.length=4
theorem HP.mono {h0 h g:H} {ov ov':AV} {x:xO} (b:HP h0 h ov x) (hf:g.floor=h.floor) (hg:∀j,j<h.next→ov.id?≠some j→g.get j=h.get j) (ho:∀j,j<h.next→ov.id?≠some j→ov'.id?≠some j):HP h0 g ov' x:=by
 obtain⟨j,e1,e2,e3,e4,e5⟩:=b.ex
 have:=h.lt _ _ e2
 exact⟨⟨j,e1,by rw[hg j this e4];exact e2,e3,ho j this e4,by rw[hf];exact e5⟩,b.l4⟩
theorem Bn (l:List vQ) (e:vQ) (bs:List Int):vL (l++[e]) bs=if bs.contains ((Bl e:Nat):Int)then vL l bs++[(e.name,e.vec)]else vL l bs:=by
 unfold vL
 rw[List.filter_append,Va]
 by_cases c:bs.contains ((Bl e:Nat):Int)=true
 · rw[if_pos c,List.filter_cons,if_pos c];rfl
 · rw[if_neg c,List.filter_cons,if_neg c];simp
theorem yW (l:List vQ) (bs:List Int):(vL l bs).length≤l.length:=by unfold vL;rw[UW];exact List.length_filter_le _ _
theorem DU {v w:AV} {l:List vF} {bs:List Int} (h0:H) (rd:wO 9 h0 v l.length (vD l)) (hv:∀x∈l,wS h0 x∧x.2.sc=true) (hm:vY (l.map (·.1))=true) (rdb:Rd h0 w (ints bs)) (hbs:bs.length<1125899906842624):∀(q p:List vF),l=p++q→∀(h:H) (ov:AV) (acc:List xO),Ext h0 h→h0.next≤h.next→h.floor≤h.next→
 vM 2 h ov acc.length (wv acc)→acc.map (·.1)=vL (p.map (·.1)) bs→(∀x∈acc,HP h0 h ov x)→(∀j,ov.id?=some j→h0.next≤j)→
 ∃e' h' ov' acc',Lp AP.A [1,6,18,19,20] AP.f178L0 [(1,w),(6,ov),(18,v),(19,.int .i64 l.length),(20,.int .i64 p.length)] h=some (.exit 0,e',h')∧look e' 6=ov'∧vM 2 h' ov' acc'.length (wv acc')∧acc'.map (·.1)=vL (l.map (·.1)) bs∧(∀x∈acc',HP h0 h' ov' x)∧Ext h0 h'∧h'.floor=h.floor∧h.next≤h'.next∧∀j,ov'.id?=some j→h0.next≤j
 | [], p, hp, h, ov, acc, hx, hn, hf, o, ha, hb, hge => by
   rw[UX]at hp;subst hp
   refine⟨[(1,w),(6,ov),(18,v),(19,.int .i64 l.length),(20,.int .i64 l.length),(21,.bool false)],h,ov,acc,sY ?_,rfl,o,ha,hb,hx,rfl,uF _,hge⟩
   simp (disch:=omega)only[go_sem,vh,AP.f178L0]
 | x :: q, p, hp, h, ov, acc, hx, hn, hf, o, ha, hb, hge => by
   unfold vY at hm
   have hm':=hm
   rw[uG]at hm
   obtain⟨m1,m2,m3⟩:=vV hm.1
   rw[UW]at m1
   have hl:l[p.length]?=some x:=by rw[hp];simp
   have hlen:l.length=p.length+(q.length+1):=by rw[hp];simp
   have may:wG x.1=true:=Vd.1 hm.2 x.1 (by rw[hp];simp)
   have nsz:=wY (m2 x.1 (by rw[hp];simp)).1
   have v4:x.1.vec.length=4:=(xz (m2 x.1 (by rw[hp];simp)).2.1).1
   obtain⟨ad,a1,a2⟩:=rd.FB
   have b1:=a1 p.length ⟨by omega,by omega⟩
   obtain⟨_,b2⟩:=a2 h hx p.length x hl
   obtain⟨ok,sc⟩:=hv x (by rw[hp];simp)
   obtain⟨E,hE⟩:∃E,E=vq x.1 x.2:=⟨_,rfl⟩
   have lE:E.length=9:=by rw[hE];rfl
   have cE:AV.aB E=true:=by rw[hE];exact yf sc
   have E0:E[0]?=some (.str x.1.name):=by rw[hE];rfl
   have E2:E[2]?=some x.2:=by rw[hE];rfl
   obtain⟨g0,eg0⟩:∃g,g=h.alloc Z9:=⟨_,rfl⟩
   obtain⟨g1,eg1⟩:∃g,g=g0.set h.next E:=⟨_,rfl⟩
   have z0:g0.get h.next=some Z9:=by rw[eg0,vk rfl]
   have st:tO g0 h.next 0 9 E (some Z9)=some g1:=by rw[eg1];exact wE (by rw[eg0];simp;exact hf) lE rfl cE
   have z1:g1.get h.next=some E:=by rw[eg1,vA rfl,z0];rfl
   have low:∀i,i<h.next→g1.get i=h.get i:=fun i hi=>by rw[eg1,vp (by omega),eg0,vN (by omega)]
   have f1:g1.floor=h.floor:=by rw[eg1,eg0];simp
   have n1:g1.next=h.next+1:=by rw[eg1,eg0];simp
   have x1:Ext h0 g1:=fun i c q=>by rw[low i (by have:=h0.lt _ _ q;omega)];exact hx i c q
   have k2:=EG g1 x.1.name (by omega)
   have k3:=Hw g1 w bs ((Bl x.1:Nat):Int) (rdb.mono fun i c q=>x1 i c q) hbs
   have a0:h.alloc [.str ⟨#[]⟩,.bool false,.aO,.int .i64 0,.int .i64 0,.int .i64 0,.str ⟨#[]⟩,.int .i64 0,.int .i64 0]=g0:=eg0.symm
   have w1:((p++[x]).length:Int)=(p.length:Int)+1:=by simp
   have k2':aQ AP.A 179 [.str x.1.name] g1=some (.int .i64 ((Bl x.1:Nat):Int),g1):=k2
   have al:=Vi List.length ha
   rw[UW]at al
   have bl:=yW (p.map (·.1)) bs
   rw[UW]at bl
   have bs':=Bn (p.map (·.1)) x.1 bs
   cases hc:bs.contains ((Bl x.1:Nat):Int)with
   | false =>
     rw[hc]at k3
     rw[hc,if_neg (by decide)]at bs'
     obtain⟨e',h2,ov',acc',r1,r2⟩:=DU h0 rd hv hm' rdb hbs q (p++[x]) (by rw[hp];simp) g1 ov acc x1 (by omega) (by omega) (o.mono f1 fun i q=>low i (o.lt q).2) (by rw[Va,Vj,bs'];exact ha) (fun y hy=>(hb y hy).mono f1 (fun j q1 _=>low j q1) (fun _ _ q=>q)) hge
     rw[w1]at r1
     refine⟨e',h2,ov',acc',sZ ?_ r1,r2.1,r2.2.1,r2.2.2.1,r2.2.2.2.1,r2.2.2.2.2.1,by rw[r2.2.2.2.2.2.1,f1],by have:=r2.2.2.2.2.2.2.1;omega,r2.2.2.2.2.2.2.2⟩
     rw[←hE]at b2
     clear r1 r2 hE hv rd a1 a2 x1 low hx hm hm' m2 may hp eg0 eg1 o hb ha rdb bs' k2 al bl
     generalize ((Bl x.1:Nat):Int)=B at *
     simp (disch:=omega)only[go_sem,vh,AP.f178L0,b1,b2,a0,z0,lE,cE,st,z1,E0,E2,k2',k3]
   | true =>
     rw[hc]at k3
     rw[hc,if_pos rfl]at bs'
     have k4:=DX g1 x.2 x.1.vec (ok.mono x1).vec (by omega) (by omega) (by omega)
     rw[v4]at k4
     obtain⟨g2,eg2⟩:∃g,g=((g1.alloc []).del g1.next).alloc (ints x.1.vec):=⟨_,rfl⟩
     rw[←eg2]at k4
     have low2:∀i,i<g1.next→g2.get i=g1.get i:=fun i hi=>by rw[eg2,vN (by simp;omega),yN (by omega),vN (by omega)]
     have f2:g2.floor=h.floor:=by rw[eg2];simp [f1]
     have n2:g2.next=h.next+3:=by rw[eg2];simp [n1]
     have z2:g2.get h.next=some E:=by rw[low2 _ (by omega)];exact z1
     have zv:g2.get (g1.next+1)=some (ints x.1.vec):=by rw[eg2,vk (by simp)]
     have lo2:∀i,i<h.next→g2.get i=h.get i:=fun i hi=>by rw[low2 i (by omega),low i hi]
     have x2:Ext h0 g2:=fun i c q=>by rw[lo2 i (by have:=h0.lt _ _ q;omega)];exact hx i c q
     have o2:vM 2 g2 ov acc.length (wv acc):=o.mono f2 fun i q=>lo2 i (o.lt q).2
     obtain⟨v',h',p1,p2,p3,p4,p5,p6⟩:=o2.push (by omega) (z:=40) (m:=1) (by omega) (by omega) [.str x.1.name,.aD (g1.next+1) 0 4 1] rfl rfl (by simp [roomy];omega)
     have ea:wv acc++[.str x.1.name,.aD (g1.next+1) 0 4 1]=wv (acc++[((x.1.name,x.1.vec),.aD (g1.next+1) 0 4 1)]):=by rw[BW];rfl
     rw[ea]at p2
     have ovl:∀j,ov.id?=some j→j<h.next:=fun j q=>(o.lt q).2
     obtain⟨e',h2,ov',acc',r1,r2⟩:=DU h0 rd hv hm' rdb hbs q (p++[x]) (by rw[hp];simp) h' v' (acc++[((x.1.name,x.1.vec),.aD (g1.next+1) 0 4 1)]) (fun i c q=>by
      have:=h0.lt _ _ q
      rw[p5 i (fun q2=>by have:=hge i q2;omega) (by omega)];exact x2 i c q) (by omega) (by omega) (by rw[uZ,List.length_singleton];exact p2) (by rw[Va,Va,Vj,Vj,bs',ha]) (fun y hy=>by
      rcases List.mem_append.1 hy with hy|hy
      · refine(hb y hy).mono (by rw[p3,f2]) (fun j q1 q2=>by rw[p5 j q2 (by omega),lo2 j q1]) (fun j q1 _=>by rw[p6];intro q2;have:=uv q2;omega)
      · obtain rfl:y=_:=List.mem_singleton.1 hy
        refine⟨⟨g1.next+1,rfl, ?_,by omega,by rw[p6];intro q2;have:=uv q2;omega,by rw[p3,f2];omega⟩,v4⟩
        rw[p5 _ (fun q2=>by have:=ovl _ q2;omega) (by omega)]
        exact zv) (fun j q=>by rw[p6]at q;have:=uv q;omega)
     rw[w1]at r1
     refine⟨e',h2,ov',acc',sZ ?_ r1,r2.1,r2.2.1,r2.2.2.1,r2.2.2.2.1,r2.2.2.2.2.1,by rw[r2.2.2.2.2.2.1,p3,f2],by have:=r2.2.2.2.2.2.2.1;omega,r2.2.2.2.2.2.2.2⟩
     rw[←hE]at b2
     clear r1 r2 hE hv rd a1 a2 x1 low hx hm hm' m2 may hp eg0 eg1 o o2 hb ha rdb bs' k2 al bl lo2 low2 x2 p2 ea zv eg2 ovl
     generalize ((Bl x.1:Nat):Int)=B at *
     simp (disch:=omega)only[go_sem,vh,AP.f178L0,b1,b2,a0,z0,lE,cE,st,z1,z2,E0,E2,k2',k3,k4,p1]
theorem Ia (h : H) (hf : h.floor ≤ h.next) (v w : AV) (l : List vF) (bs : List Int) (hvs : v.sc = true) (hn : l.length < 1125899906842624) (rd : wO 9 h v l.length (vD l)) (hv : ∀ x ∈ l, wS h x ∧ x.2.sc = true) (rdb : Rd h w (ints bs)) (hbs : bs.length < 1125899906842624) :
 ∃ov h' acc,aQ AP.A 178 [.agg [v],w] h=some (.bO [ov,.int .i64 (if vY (l.map (·.1))&&yz bs then 0 else 1600)],h')∧SR 2 h ov h' acc.length (wv acc)∧acc.map (·.1)=(if vY (l.map (·.1))&&yz bs then vL (l.map (·.1)) bs else [])∧∀x∈acc,HP h h' ov x:=by
 obtain⟨g1,eg1⟩:∃g,g=h.alloc [v]:=⟨_,rfl⟩
 have hx1:Ext h g1:=by rw[eg1];exact(Ext.refl h).alloc _
 have z1:g1.get h.next=some [v]:=by rw[eg1];exact vk rfl
 have f1:g1.floor=h.floor:=by rw[eg1];simp
 have n1:g1.next=h.next+1:=by rw[eg1];simp
 have rd1:=rd.mono fun i c q=>hx1 i c q
 have hv1:∀x∈l,wS g1 x∧x.2.sc=true:=fun x hx=>⟨(hv x hx).1.mono hx1,(hv x hx).2⟩
 have rdb1:Rd g1 w (ints bs):=rdb.mono fun i c q=>hx1 i c q
 have k1:=Iw g1 v l hvs hn rd1 hv1
 have k2:=H6 g1 w bs rdb1 hbs
 have ln:=rd1.len
 cases hm:vY (l.map (·.1))with
 | false =>
   rw[hm]at k1
   refine⟨.aO,g1,[], ?_,⟨vM.nil,hx1,f1,by omega,fun i q=>by cases q⟩,rfl,fun x hx=>by cases hx⟩
   refine tr (fn:=AP.f178) (h2:=g1) (e:=[(4,.aO),(5,.int .i64 1600)]) (vs:=[.aO,.int .i64 1600]) rfl rfl rfl ?_ rfl
   clear rd rd1 hv hv1 hx1 rdb rdb1
   simp (disch:=omega)only[go_sem,vh,AP.f178,hvs,←eg1,z1,wM,k1,k2]
 | true =>
   rw[hm]at k1
   cases hb:yz bs with
   | false =>
     rw[hb]at k2
     refine⟨.aO,g1,[], ?_,⟨vM.nil,hx1,f1,by omega,fun i q=>by cases q⟩,rfl,fun x hx=>by cases hx⟩
     refine tr (fn:=AP.f178) (h2:=g1) (e:=[(4,.aO),(5,.int .i64 1600)]) (vs:=[.aO,.int .i64 1600]) rfl rfl rfl ?_ rfl
     clear rd rd1 hv hv1 hx1 rdb rdb1
     simp (disch:=omega)only[go_sem,vh,AP.f178,hvs,←eg1,z1,wM,k1,k2]
   | true =>
     rw[hb]at k2
     obtain⟨e',g2,ov,acc,r1,r2,r3,r4,r5,r6,r7,r8,r9⟩:=DU g1 rd1 hv1 hm rdb1 hbs l [] rfl g1 .aO [] (Ext.refl _) (uF _) (by omega) vM.nil rfl (fun x hx=>by cases hx) (fun j q=>by cases q)
     have r1':Lp AP.A [1,6,18,19,20] AP.f178L0 [(1,w),(6,.aO),(18,v),(19,.int .i64 l.length),(20,.int .i64 0)] g1=some (.exit 0,e',g2):=r1
     refine⟨ov,g2,acc, ?_,⟨r3,fun i c q=>r6 i c (hx1 i c q),by rw[r7,f1],by omega,fun j q=>by have:=r9 j q;omega⟩,r4,fun x hx=> ?_⟩
     · refine tr (fn:=AP.f178) (h2:=g2) (e:=[(4,ov),(5,.int .i64 0)]) (vs:=[ov,.int .i64 0]) rfl rfl rfl ?_ rfl
       clear rd rd1 hv hv1 hx1 rdb rdb1 r1 r3 r4 r5 r6
       simp (disch:=omega)only[go_sem,vh,AP.f178,hvs,←eg1,z1,wM,k1,k2,ln,rR,r1',r2]
     · have b:=r5 x hx
       obtain⟨j,q1,q2,q3,q4,q5⟩:=b.ex
       exact⟨⟨j,q1,q2,by omega,q4,q5⟩,b.l4⟩
theorem Np (h:H) (hf:h.floor≤h.next) (v:AV) (l:List vF) (hvs:v.sc=true) (hn:l.length<1125899906842624) (rd:wO 9 h v l.length (vD l)) (hv:∀x∈l,wS h x∧x.2.sc=true) (hm:vY (l.map (·.1))=true):
 ∃i h',aQ AP.A 177 [.agg [v]] h=some (.bO [.aD i 0 8 1,.int .i64 0],h')∧h'.get i=some (ints (vK (l.map (·.1))))∧Ext h h'∧h'.floor=h.floor∧h.next≤h'.next∧h.next≤i:=by
 obtain⟨w,h',k,g⟩:=FI h hf v l hvs hn rd hv
 simp only[hm,if_true]at k g
 rw[vI]at g
 obtain⟨_,⟨_,q⟩|⟨i,q1,q2,_⟩⟩:=g.own
 · cases q
 · subst q1;exact⟨i,h',k,q2,g.ext,g.fl,g.nx,g.ge i rfl⟩
theorem Nn (h:H) (hf:h.floor≤h.next) (v:AV) (l:List vF) (hvs:v.sc=true) (hn:l.length<1125899906842624) (rd:wO 9 h v l.length (vD l)) (hv:∀x∈l,wS h x∧x.2.sc=true) (hm:vY (l.map (·.1))=false):
 ∃h',aQ AP.A 177 [.agg [v]] h=some (.bO [.aO,.int .i64 1600],h')∧Ext h h'∧h'.floor=h.floor∧h.next≤h'.next:=by
 obtain⟨w,h',k,g⟩:=FI h hf v l hvs hn rd hv
 simp only[hm,uD,u0]at k g
 obtain⟨_,⟨q,_⟩|⟨i,_,_,_,q⟩⟩:=g.own
 · subst q;exact⟨h',k,g.ext,g.fl,g.nx⟩
 · simp at q
theorem Ib (h:H) (hf:h.floor≤h.next) (v w:AV) (l:List vF) (bs:List Int) (hvs:v.sc=true) (hn:l.length<1125899906842624) (rd:wO 9 h v l.length (vD l)) (hv:∀x∈l,wS h x∧x.2.sc=true) (rdb:Rd h w (ints bs)) (hbs:bs.length<1125899906842624) (hm:(vY (l.map (·.1))&&yz bs)=true):
 ∃ov h' acc,aQ AP.A 178 [.agg [v],w] h=some (.bO [ov,.int .i64 0],h')∧SR 2 h ov h' acc.length (wv acc)∧acc.map (·.1)=vL (l.map (·.1)) bs∧∀x∈acc,HP h h' ov x:=by
 have:=Ia h hf v w l bs hvs hn rd hv rdb hbs
 simpa only[hm,if_true]using this
structure zj where
 kind:Int
 src:Int
 dst:Int
 root:Int
 wA:List Int
 wF:List Int
 vt:List Ha
 names:List ByteArray
 wj:List vQ
def wD:Option ByteArray→List ByteArray→Bool
 |_,[]=>true
 |p,s::r=>(wo s&&(match p with|none=>true|some q=>Op.bytesLess q.toList s.toList))&&wD (some s) r
def yB (m:zj):Bool:=
 (decide (m.kind=0)||decide (m.root=0))&&((decide (m.kind=1)||decide (m.wA.length=0))&&((decide (m.kind=2)||decide (m.wF.length+m.vt.length=0))&&((decide (m.kind=3)||decide (m.names.length=0))&&(decide (m.kind=4)||decide (m.wj.length=0)))))
def xS (m:zj):Bool:=
 if m.kind=0 then y9 m.root
 else if m.kind=1 then decide (m.wA.length=8)&&m.wA.all y9
 else if m.kind=2 then decide (1≤m.wF.length)&&(yz m.wF&&(wD none (m.vt.map (·.1))&&(decide (m.vt.length≤6)&&m.vt.all fun b=>xo b.2)))
 else if m.kind=3 then wD none m.names&&(decide (1≤m.names.length)&&decide (m.names.length≤6))
 else if m.kind=4 then decide (1≤m.wj.length)&&vY m.wj
 else false
def AB (m:zj):Bool:=(vW m.src&&(vW m.dst&& !decide (m.src=m.dst)))&&(xS m&&yB m)
structure Uh (e:vQ):Prop where
 nm:e.name.size≤8
 pk:e.packed.size≤300
 v4:e.vec.length=4
 vc:∀n∈e.vec,0≤n∧n≤1048576
 st:1≤e.vG∧e.vG≤1048576
 nd:0≤e.node∧e.node<4
 mt:e.method=0∨e.method=8
 sz:0≤e.size∧e.size≤300
 cr:0≤e.yI∧e.yI≤4294967295
theorem DE:∀{l:List ByteArray} {p:Option ByteArray},wD p l=true→∀s∈l,s.size≤8
 |[],_,_,s,h=>by cases h
 | x :: l, p, hr, s, h => by
   unfold wD at hr
   rw[uG,uG]at hr
   rcases uW.1 h with rfl|h
   · have:=wY hr.1.1;omega
   · exact DE hr.2 s h
structure SQ (h0 h:H) (ov:AV) (x:vF):Prop where
 ok:wS h x
 sc:x.2.sc=true
 id:∀i,x.2.id?=some i→h0.next≤i∧i<h.next∧ov.id?≠some i∧h.floor≤i
 wr:∃i cs,x.2=.aD i 0 x.1.vec.length 1∧h.get i=some cs∧(0<x.1.vec.length→cs=ints x.1.vec)
theorem SQ.mono {h0 h g:H} {ov ov':AV} {x:vF} (b:SQ h0 h ov x) (hf:g.floor=h.floor) (hn:h.next≤g.next) (hg:∀j c,ov.id?≠some j→h.get j=some c→g.get j=some c) (ho:∀j,j<h.next→ov.id?≠some j→ov'.id?≠some j):SQ h0 g ov' x:=by
 obtain⟨i,cs,e1,e2,e3⟩:=b.wr
 have q:=b.id i (by rw[e1];rfl)
 have e4:=hg i cs q.2.2.1 e2
 exact⟨b.ok.Ct fun k q'=>(by rw[e1]at q';obtain rfl:=uv q';rw[e4,e2]),b.sc,fun i q=>⟨(b.id i q).1,by have:=(b.id i q).2.1;omega,ho i (b.id i q).2.1 (b.id i q).2.2.1,by rw[hf];exact(b.id i q).2.2.2⟩,⟨i,cs,e1,e4,e3⟩⟩
structure Hb (h:H) (v:AV) (l:List xO):Prop where
 rd:wO 2 h v l.length (wv l)
 vec:∀x∈l,Rd h x.2 (ints x.1.2)∧x.1.2.length<1125899906842624
theorem Hb.mono {h g:H} {v:AV} {l:List xO} (r:Hb h v l) (e:Ext h g):Hb g v l:=⟨r.rd.mono fun i c q=>e i c q,fun x hx=>⟨(r.vec x hx).1.mono fun i c q=>e i c q,(r.vec x hx).2⟩⟩
theorem Hb.at_ {h:H} {v:AV} {l:List xO} (r:Hb h v l):∃ad:Int→Nat→AV,(∀i:Int,0≤i∧i<l.length→fU 2 v (.int .i64 i)=some (ad i 0)∧fi 0 (ad i 0)=some (ad i 0)∧fi 1 (ad i 0)=some (ad i 1))∧
 (∀(i:Nat) (x:xO),l[i]?=some x→bS false 1 (ad i 0) h=some (.str x.1.1)∧bS false 1 (ad i 1) h=some x.2):=by
 obtain⟨ad,a1,a2,a4,a3⟩:=r.rd.at_
 refine⟨ad,fun i hi=>⟨a1 i hi,a2 i 0 0 hi,a2 i 0 1 hi⟩,fun i x hx=> ?_⟩
 have hi:i<l.length:=(uB.1 hx).1
 have g:=fun k (hk:k<2)=>zu (f:=k) zI hx hk
 refine⟨(a3 h fun _ _ q=>q).1 i 0 _ ⟨by omega,by omega⟩ ?_,(a3 h fun _ _ q=>q).1 i 1 _ ⟨by omega,by omega⟩ ?_⟩
 · rw[xc];exact g 0 (by omega)
 · rw[xc];exact g 1 (by omega)
theorem GJ {v w : AV} {a b : List xO} (hab : a.length = b.length) (hl : a.length < 1125899906842624) (h : H) (ra : Hb h v a) (rb : Hb h w b) : ∀ (q r p p' : List xO), a = p ++ q → b = p' ++ r → p.length = p'.length →
 (∃e',Lp AP.A [0,1,5] AP.f182L0 [(0,v),(1,w),(5,.int .i64 p.length)] h=some (.exit 0,e',h)∧q.map (·.1)=r.map (·.1))∨
 (∃e',Lp AP.A [0,1,5] AP.f182L0 [(0,v),(1,w),(5,.int .i64 p.length)] h=some (.ret,e',h)∧look e' 4=.bool false∧q.map (·.1)≠r.map (·.1))
 | [], r, p, p', ha, hb, hp => by
   rw[UX]at ha;subst ha
   have hr:r=[]:=by
    have:b.length=p'.length+r.length:=by rw[hb];simp
    exact U2 (by omega)
   have ln:=ra.rd.len
   refine .inl ⟨[(0,v),(1,w),(5,.int .i64 a.length),(14,.bool false)],sY ?_,by rw[hr]⟩
   simp (disch:=omega)only[go_sem,vh,AP.f182L0,ln]
 | x :: q, [], p, p', ha, hb, hp => by
   exfalso
   have h1:a.length=p.length+(q.length+1):=by rw[ha];simp
   have h2:b.length=p'.length:=by rw[hb];simp
   omega
 | x :: q, y :: r, p, p', ha, hb, hp => by
   have h1:a.length=p.length+(q.length+1):=by rw[ha];simp
   have hx:a[p.length]?=some x:=by rw[ha];simp
   have hy:b[p.length]?=some y:=by rw[hb,hp];simp
   have ln:=ra.rd.len
   obtain⟨ad,a1,a2⟩:=ra.at_
   obtain⟨bd,b1,b2⟩:=rb.at_
   obtain⟨a3,a4,a5⟩:=a1 p.length ⟨by omega,by omega⟩
   obtain⟨b3,b4,b5⟩:=b1 p.length ⟨by omega,by omega⟩
   obtain⟨a6,a7⟩:=a2 p.length x hx
   obtain⟨b6,b7⟩:=b2 p.length y hy
   obtain⟨vx,lx⟩:=ra.vec x (by rw[ha];simp)
   obtain⟨vy,ly⟩:=rb.vec y (by rw[hb];simp)
   have k1:=BH h x.2 y.2 x.1.2 y.1.2 vx vy lx
   have en:bp .neq (.str x.1.1) (.str y.1.1)=some (.bool (!(x.1.1.data.toList==y.1.1.data.toList))):=AK _ _
   have ih:=GJ hab hl h ra rb q r (p++[x]) (p'++[y]) (by rw[ha];simp) (by rw[hb];simp) (by simp [hp])
   have w1:((p++[x]).length:Int)=(p.length:Int)+1:=by simp
   rw[w1]at ih
   obtain⟨B1,hB1⟩:∃B,B=(x.1.1.data.toList==y.1.1.data.toList):=⟨_,rfl⟩
   rw[←hB1]at en
   have key:x.1=y.1↔B1=true∧x.1.2=y.1.2:=by
    constructor
    · intro e;rw[hB1,e];simp
    · rintro ⟨e1,e2⟩
      have e3:x.1.1=y.1.1:=by
       rw[hB1,beq_iff_eq]at e1
       have e4:x.1.1.data=y.1.1.data:=Array.ext' e1
       cases h1:x.1.1;cases h2:y.1.1;rw[h1,h2]at e4;simp_all
      exact Prod.ext e3 e2
   by_cases hk:x.1=y.1
   · obtain⟨k2,k3⟩:=key.1 hk
     rw[k2]at en
     rw[dt k3]at k1
     have step:aK (aQ AP.A) bz AP.f182L0 (ax [(0,v),(1,w),(5,.int .i64 p.length)] [0,1,5]) h=some (.normal,[(0,v),(1,w),(5,.int .i64 ((p.length:Int)+1))],h):=by
      clear ih ra rb a1 a2 b1 b2 vx vy ha hb key
      simp (disch:=omega)only[go_sem,vh,AP.f182L0,ln,a3,a4,a5,a6,a7,b3,b4,b5,b6,b7,en,k1]
     rw[U5,U5]
     rcases ih with ⟨e',r1,r2⟩|⟨e',r1,r2,r3⟩
     · exact .inl ⟨e',sZ step r1,by rw[hk,r2]⟩
     · exact .inr ⟨e',sZ step r1,r2,fun q=>r3 (List.cons.inj q).2⟩
   · refine .inr ⟨[(4,.bool false)],tC ?_,rfl,fun q=>hk (List.cons.inj q).1⟩
     cases B1 with
     | false =>
       clear ih ra rb a1 a2 b1 b2 vx vy ha hb key
       simp (disch:=omega)only[go_sem,vh,AP.f182L0,ln,a3,a4,a5,a6,a7,b3,b4,b5,b6,b7,en,k1]
     | true =>
       rw[df (fun q=>hk (key.2 ⟨rfl,q⟩))]at k1
       clear ih ra rb a1 a2 b1 b2 vx vy ha hb key
       simp (disch:=omega)only[go_sem,vh,AP.f182L0,ln,a3,a4,a5,a6,a7,b3,b4,b5,b6,b7,en,k1]
theorem Kx (h:H) (v w:AV) (a b:List xO) (ra:Hb h v a) (rb:Hb h w b) (hl:a.length<1125899906842624):aQ AP.A 182 [v,w] h=some (.bool (decide (a.map (·.1)=b.map (·.1))),h):=by
 have xf:Ext h h.dX:=fun i c q=>q
 have l1:=(ra.mono xf).rd.len
 have l2:=(rb.mono xf).rd.len
 by_cases c:a.length=b.length
 · have c':(a.length:Int)=b.length:=by omega
   rcases GJ c hl h.dX (ra.mono xf) (rb.mono xf) a b [] [] rfl rfl rfl with ⟨e',r1,r2⟩|⟨e',r1,r2,r3⟩
   · have r1':Lp AP.A [0,1,5] AP.f182L0 [(0,v),(1,w),(5,.int .i64 0)] h.dX=some (.exit 0,e',h.dX):=r1
     rw[dt r2]
     refine tM (fn:=AP.f182) (h2:=h.dX) (e:=[(4,.bool true)]) rfl rfl rfl ?_ rfl rfl
     clear ra rb r1 r2
     simp (disch:=omega)only[go_sem,vh,AP.f182,l1,l2,rR,r1']
   · have r1':Lp AP.A [0,1,5] AP.f182L0 [(0,v),(1,w),(5,.int .i64 0)] h.dX=some (.ret,e',h.dX):=r1
     rw[df r3]
     refine tM (fn:=AP.f182) (h2:=h.dX) (e:=e') (vs:=[.bool false]) rfl rfl rfl ?_ (by simp only[AP.f182,cL,mQ,r2];rfl) rfl
     clear ra rb r1 r3
     simp (disch:=omega)only[go_sem,vh,AP.f182,l1,l2,rR,r1']
 · have c':¬(a.length:Int)=b.length:=by omega
   have e:a.map (·.1)≠b.map (·.1):=fun q=>c (by have:=Vi List.length q;simpa using this)
   rw[df e]
   refine tM (fn:=AP.f182) (h2:=h.dX) (e:=[(4,.bool false)]) rfl rfl rfl ?_ rfl rfl
   clear ra rb
   simp (disch:=omega)only[go_sem,vh,AP.f182,l1,l2]
theorem PN {g:H} {n:Nat} {E:List AV} (hg:g.get n=some E) (hE:E.length=9):wO 9 g (.aD n 0 1 9) 1 E:=by
 refine⟨?_,by omega,fun _=>by simp⟩
 simp only[aR,if_true,hg,uC,uK,Nat.one_mul]
 rw[if_pos (by omega),U1,uU (by omega)]
theorem He (x:Int) (k:Nat) (hk:k≤62):bits .and .i64 x ((2^k-1:Nat):Int)=x%((2^k:Nat):Int):=by
 have h2:2^k≤2^62:=U4 (by omega) hk
 have h3:0<2^k:=Nat.pow_pos (by omega)
 show IntKind.wrap .i64 (((BitVec.ofInt 64 x&&&BitVec.ofInt 64 ((2^k-1:Nat):Int)).toNat:Nat):Int)=_
 rw[BitVec.toNat_and,xr 64 (2^k-1) (by omega),BitVec.toNat_ofInt,Nat.and_two_pow_sub_one_eq_mod,u5 (by
  have:=Nat.mod_lt (x%((2^64:Nat):Int)).toNat h3
  omega)]
 have e:(((x%((2^64:Nat):Int)).toNat:Nat):Int)=x%((2^64:Nat):Int):=Int.toNat_of_nonneg (Int.emod_nonneg _ (by decide))
 rw[Int.natCast_emod,e]
 refine Int.emod_emod_of_dvd x ?_
 refine Int.natCast_dvd_natCast.2 (Nat.pow_dvd_pow 2 (by omega))
theorem Lq (x:Int):bits .and .i64 x 3=x%4:=He x 2 (by omega)
theorem Co:∀{a b c:List UInt8},Op.bytesLess a b=true→Op.bytesLess b c=true→Op.bytesLess a c=true
 |_,[],_,h,_=>by simp [Op.bytesLess]at h
 |_,_::_,[],_,h=>by simp [Op.bytesLess]at h
 |[],y::b,z::c,_,_=>rfl
 | x :: a, y :: b, z :: c, h1, h2 => by
   simp only[Op.bytesLess,uS,UY,uG,beq_iff_eq]at h1 h2 ⊢
   rcases h1 with h1|⟨rfl,h1⟩
   · rcases h2 with h2|⟨rfl,h2⟩
     · exact .inl (UInt8.lt_trans h1 h2)
     · exact .inl h1
   · rcases h2 with h2|⟨rfl,h2⟩
     · exact .inl h2
     · exact .inr ⟨rfl,Co h1 h2⟩
theorem z4 : ∀ (a b : List UInt8), Op.bytesLess b a = !(Op.bytesLess a b || a == b)
 |[],[]=>rfl
 |[],_::_=>rfl
 |_::_,[]=>rfl
 | x :: a, y :: b => by
   have ih:=z4 a b
   simp only[Op.bytesLess]
   rw[ih]
   by_cases h1:x<y
   · have h2:¬y<x:=fun q=>absurd (UInt8.lt_trans h1 q) (UInt8.lt_irrefl _)
     have h3:¬y=x:=fun q=>by subst q;exact absurd h1 (UInt8.lt_irrefl _)
     simp [h1,h2,h3]
   · by_cases h2:y<x
     · have h3:¬x=y:=fun q=>by subst q;exact absurd h2 (UInt8.lt_irrefl _)
       simp [h1,h2,h3]
     · have h3:x=y:=UInt8.le_antisymm (UInt8.not_lt.1 h2) (UInt8.not_lt.1 h1)
       subst h3
       simp [h1]
def CC (p:Option vQ) (e:vQ):Bool:=match p with|none=>true|some q=>Op.bytesLess q.name.toList e.name.toList
theorem Iq (p:Option vQ) (e:vQ):xR p e=(wR [e]&&CC p e):=by
 rw[IJ]
 unfold xR CC
 cases wo e.name<;>cases wg e<;>cases wV e<;>cases p<;>simp
theorem GY {v : AV} {l : List vF} (hl : l.length ≤ 6) (h : H) (b : Nat) (hb : h.get b = some [v]) (rd : wO 9 h v l.length (vD l)) (hv : ∀ x ∈ l, wS h x ∧ x.2.sc = true) : ∀ (q p : List vF), l = p ++ q →
 (∃e',Lp AP.A [1,3] AP.f212L0 [(1,.aC b 0),(3,.int .i64 p.length)] h=some (.exit 0,e',h)∧xi (p.getLast?.map (·.1)) (q.map (·.1))=true)∨
 (∃e',Lp AP.A [1,3] AP.f212L0 [(1,.aC b 0),(3,.int .i64 p.length)] h=some (.ret,e',h)∧look e' 2=.bool false∧xi (p.getLast?.map (·.1)) (q.map (·.1))=false)
 | [], p, hp => by
   rw[UX]at hp;subst hp
   have ln:=rd.len
   refine .inl ⟨[(1,.aC b 0),(3,.int .i64 l.length),(12,.bool false)],sY ?_,rfl⟩
   simp (disch:=omega)only[go_sem,vh,AP.f212L0,hb,ln]
 | x :: q, p, hp => by
   have hlen:l.length=p.length+(q.length+1):=by rw[hp];simp
   have hx:l[p.length]?=some x:=by rw[hp];simp
   have ln:=rd.len
   obtain⟨ad,a1,a2⟩:=rd.FB
   have b1:=a1 p.length ⟨by omega,by omega⟩
   obtain⟨pe,b2⟩:=a2 h (Ext.refl h) p.length x hx
   obtain⟨qq,f1,f2⟩:=pe.th
   have l0:=f2 h (Ext.refl h) 0 _ rfl
   obtain⟨ok,sc⟩:=hv x (by rw[hp];simp)
   have k1:=ID h x.1 x.2 sc ok
   have ih:=GY hl h b hb rd hv q (p++[x]) (by rw[hp];simp)
   have w1:((p++[x]).length:Int)=(p.length:Int)+1:=by simp
   rw[w1,List.getLast?_concat]at ih
   have step:aK (aQ AP.A) bz AP.f212L0 (ax [(1,.aC b 0),(3,.int .i64 p.length)] [1,3]) h=if xR (p.getLast?.map (·.1)) x.1 then some (.normal,[(1,.aC b 0),(3,.int .i64 ((p.length:Int)+1))],h)else some (.ret,[(2,.bool false)],h):=by
    rw[Iq]
    generalize wR [x.1]=B at *
    cases hq:p.getLast? with
    | none =>
      have hp0:p=[]:=List.getLast?_eq_none_iff.1 hq
      have hp1:p.length=0:=by rw[hp0];rfl
      clear ih rd a1 a2 hp w1 pe f2 hv ok
      rw[U6,show CC none x.1=true from rfl,Bool.and_true]
      generalize vq x.1 x.2=E at *
      cases B with
      | false =>
        rw[if_neg (by decide)]
        simp (disch:=omega)only[go_sem,vh,AP.f212L0,hb,ln,b1,b2,f1,l0,k1]
      | true =>
        rw[if_pos rfl]
        simp (disch:=omega)only[go_sem,vh,AP.f212L0,hb,ln,b1,b2,f1,l0,k1]
    | some y =>
      obtain⟨p',rfl⟩:∃p',p=p'++[y]:=List.getLast?_eq_some_iff.1 hq
      have hpl:(p'++[y]).length=p'.length+1:=by simp
      have hy:l[p'.length]?=some y:=by rw[hp];simp
      have bj:=a1 p'.length ⟨by omega,by omega⟩
      obtain⟨pj,_⟩:=a2 h (Ext.refl h) p'.length y hy
      obtain⟨qj,fj1,fj2⟩:=pj.th
      have lj:=fj2 h (Ext.refl h) 0 _ rfl
      have n2:(((p'++[y]).length:Nat):Int)-1=(p'.length:Int):=by rw[hpl];omega
      have n3:0<(((p'++[y]).length:Nat):Int):=by rw[hpl];omega
      have cmp:bp .leq (.str x.1.name) (.str y.1.name)=some (.bool (!(CC (some y.1) x.1))):=by
       show _=some (AV.bool (!(Op.bytesLess y.1.name.toList x.1.name.toList)))
       rw[z4 x.1.name.toList y.1.name.toList,Bool.not_not];rfl
      clear ih rd a1 a2 hp w1 hx hy hq pe f2 pj fj2 hv ok
      rw[UU]
      generalize vq x.1 x.2=E at *
      generalize CC (some y.1) x.1=B2 at *
      generalize (p'++[y]).length=pl at *
      cases B with
      | false =>
        rw[UZ,if_neg (by decide)]
        simp (disch:=omega)only[go_sem,vh,AP.f212L0,hb,ln,b1,b2,f1,l0,k1]
      | true =>
        cases B2 with
        | false =>
          rw[U3,if_neg (by decide)]
          simp (disch:=omega)only[go_sem,vh,AP.f212L0,hb,ln,b1,b2,f1,l0,k1,bj,fj1,lj,n2,cmp]
        | true =>
          rw[Ve,if_pos rfl]
          simp (disch:=omega)only[go_sem,vh,AP.f212L0,hb,ln,b1,b2,f1,l0,k1,bj,fj1,lj,n2,cmp]
   have hmay:xi (p.getLast?.map (·.1)) ((x::q).map (·.1))=(xR (p.getLast?.map (·.1)) x.1&&xi (some x.1) (q.map (·.1))):=rfl
   rw[hmay]
   by_cases hok:xR (p.getLast?.map (·.1)) x.1=true
   · rw[if_pos hok]at step
     rw[hok,U7]
     rcases ih with ⟨e',r1,r2⟩|⟨e',r1,r2,r3⟩
     · exact .inl ⟨e',sZ step r1,r2⟩
     · exact .inr ⟨e',sZ step r1,r2,r3⟩
   · have hok':xR (p.getLast?.map (·.1)) x.1=false:=by simpa using hok
     rw[if_neg hok]at step
     rw[hok',UZ]
     exact .inr ⟨_,tC step,rfl,rfl⟩
theorem JD (h:H) (v:AV) (l:List vF) (hvs:v.sc=true) (hn:l.length<1125899906842624) (rd:wO 9 h v l.length (vD l)) (hv:∀x∈l,wS h x∧x.2.sc=true):aQ AP.A 212 [.agg [v]] h=some (.bool (wR (l.map (·.1))),h):=by
 obtain⟨h1,eh1⟩:∃g,g=h.dX.alloc [v]:=⟨_,rfl⟩
 have hx0:Ext h h1:=by rw[eh1];exact fun i c q=>((Ext.refl h.dX).alloc _) i c q
 have hn0:h.dX.next=h.next:=rfl
 have g1:h1.get h.next=some [v]:=by rw[eh1];exact vk rfl
 have rd1:=rd.mono fun i c q=>hx0 i c q
 have ln:=rd1.len
 unfold wR
 rw[UW]
 by_cases c:l.length≤6
 · have c':¬(6:Int)<l.length:=by omega
   rw[dt c,Bool.and_true]
   rcases GY c h1 h.next g1 rd1 (fun x hx=>⟨(hv x hx).1.mono hx0,(hv x hx).2⟩) l [] rfl with ⟨e',r1,r2⟩|⟨e',r1,r2,r3⟩
   · have r1':Lp AP.A [1,3] AP.f212L0 [(1,.aC h.next 0),(3,.int .i64 0)] h1=some (.exit 0,e',h1):=r1
     have r2':xi none (l.map (·.1))=true:=r2
     rw[r2']
     refine tM (fn:=AP.f212) (h2:=h1) (e:=[(2,.bool true)]) rfl rfl rfl ?_ rfl rfl
     clear rd rd1 hv hx0 r1 r2 r2'
     simp (disch:=omega)only[go_sem,vh,AP.f212,hvs,hn0,←eh1,g1,ln,rR,r1']
   · have r1':Lp AP.A [1,3] AP.f212L0 [(1,.aC h.next 0),(3,.int .i64 0)] h1=some (.ret,e',h1):=r1
     have r3':xi none (l.map (·.1))=false:=r3
     rw[r3']
     refine tM (fn:=AP.f212) (h2:=h1) (e:=e') (vs:=[.bool false]) rfl rfl rfl ?_ (by simp only[AP.f212,cL,mQ,r2];rfl) rfl
     clear rd rd1 hv hx0 r1 r3 r3'
     simp (disch:=omega)only[go_sem,vh,AP.f212,hvs,hn0,←eh1,g1,ln,rR,r1']
 · have c':(6:Int)<l.length:=by omega
   rw[df c,U3]
   refine tM (fn:=AP.f212) (h2:=h1) (e:=[(2,.bool false)]) rfl rfl rfl ?_ rfl rfl
   clear rd rd1 hv hx0
   simp (disch:=omega)only[go_sem,vh,AP.f212,hvs,hn0,←eh1,g1,ln]
theorem Gj {v:AV} {l:List vF} (h:H) (b:Nat) (hb:h.get b=some [v]) (rd:wO 9 h v l.length (vD l)) (hm:wR (l.map (·.1))=true):∀(q p:List vF),l=p++q→
 ∃e',Lp AP.A [1,3,4] AP.f213L0 [(1,.aC b 0),(3,.int .i64 (22+AL (p.map (·.1)):Nat)),(4,.int .i64 p.length)] h=some (.exit 0,e',h)∧look e' 3=.int .i64 (xC (l.map (·.1)):Nat)
 | [], p, hp => by
   rw[UX]at hp;subst hp
   have ln:=rd.len
   refine⟨[(1,.aC b 0),(3,.int .i64 (22+AL (l.map (·.1)):Nat)),(4,.int .i64 l.length),(12,.bool false)],sY ?_,rfl⟩
   simp (disch:=omega)only[go_sem,vh,AP.f213L0,hb,ln]
 | x :: q, p, hp => by
   obtain⟨m1,m2,m3⟩:=vV hm
   have hx:l[p.length]?=some x:=by rw[hp];simp
   have hlen:l.length=p.length+(q.length+1):=by rw[hp];simp
   rw[UW]at m1
   obtain⟨_,_,c3⟩:=m2 x.1 (by rw[hp];simp)
   have c1:=wY (m2 x.1 (by rw[hp];simp)).1
   have c2:=yZ c3
   have ln:=rd.len
   obtain⟨ad,a1,a2⟩:=rd.FB
   have b1:=a1 p.length ⟨by omega,by omega⟩
   obtain⟨pe,_⟩:=a2 h (Ext.refl h) p.length x hx
   obtain⟨qq,f1,f2⟩:=pe.th
   have l0:=f2 h (Ext.refl h) 0 _ rfl
   have l6:=f2 h (Ext.refl h) 6 _ rfl
   obtain⟨e',r1,r2⟩:=Gj h b hb rd hm q (p++[x]) (by rw[hp];simp)
   have sz:xC (l.map (·.1))=22+(AL (p.map (·.1))+(JG x.1+AL (q.map (·.1)))):=by unfold xC;rw[hp,Va,BL,U5,AL]
   have e1:22+AL ((p++[x]).map (·.1))=22+AL (p.map (·.1))+JG x.1:=by rw[Va,BL];simp [AL];omega
   have n1:((p++[x]).length:Int)=(p.length:Int)+1:=by simp
   rw[e1,n1]at r1
   have se:JG x.1=128+2* x.1.name.size+x.1.packed.size:=rfl
   obtain⟨N,hN⟩:∃N,N=22+AL (p.map (·.1)):=⟨_,rfl⟩
   rw[←hN]at r1 ⊢
   have hN2:N≤4096:=by omega
   have w:(N:Int)+76+2* (x.1.name.size:Int)+52+(x.1.packed.size:Int)=((N+JG x.1:Nat):Int):=by omega
   refine⟨e',sZ ?_ r1,r2⟩
   clear r1 r2 e1 sz hN rd a1 a2 f2 pe m2 m3 hm hp n1
   simp (disch:=omega)only[go_sem,vh,AP.f213L0,hb,ln,b1,f1,l0,l6,w]
theorem JX (h:H) (v:AV) (l:List vF) (hvs:v.sc=true) (hn:l.length<1125899906842624) (rd:wO 9 h v l.length (vD l)) (hv:∀x∈l,wS h x∧x.2.sc=true) (hm:wR (l.map (·.1))=true):aQ AP.A 213 [.agg [v]] h=some (.int .i64 (xC (l.map (·.1)):Nat),h):=by
 obtain⟨h1,eh1⟩:∃g,g=h.dX.alloc [v]:=⟨_,rfl⟩
 have hx0:Ext h h1:=by rw[eh1];exact fun i c q=>((Ext.refl h.dX).alloc _) i c q
 have hn0:h.dX.next=h.next:=rfl
 have g1:h1.get h.next=some [v]:=by rw[eh1];exact vk rfl
 have rd1:=rd.mono fun i c q=>hx0 i c q
 have k1:=JD h1 v l hvs hn rd1 (fun x hx=>⟨(hv x hx).1.mono hx0,(hv x hx).2⟩)
 rw[hm]at k1
 obtain⟨e',r1,r2⟩:=Gj h1 h.next g1 rd1 hm l [] rfl
 have r1':Lp AP.A [1,3,4] AP.f213L0 [(1,.aC h.next 0),(3,.int .i64 22),(4,.int .i64 0)] h1=some (.exit 0,e',h1):=r1
 clear r1 hm
 generalize xC (l.map (·.1))=N at *
 refine tM (fn:=AP.f213) (h2:=h1) (e:=[(2,.int .i64 N)]) (vs:=[.int .i64 N]) rfl rfl rfl ?_ rfl rfl
 clear rd rd1 hv hx0
 simp (disch:=omega)only[go_sem,vh,AP.f213,hvs,hn0,←eh1,g1,wM,k1,rR,r1',r2]
theorem Gp {v : AV} {l : List vF} (hl : l.length ≤ 6) (h : H) (b : Nat) (hb : h.get b = some [v]) (rd : wO 9 h v l.length (vD l)) (hv : ∀ x ∈ l, wS h x ∧ x.2.sc = true) : ∀ (q p : List vF), l = p ++ q →
 (∃e',Lp AP.A [1,3] AP.f205L0 [(1,.aC b 0),(3,.int .i64 p.length)] h=some (.exit 0,e',h)∧(q.map (·.1)).all wG=true)∨
 (∃e',Lp AP.A [1,3] AP.f205L0 [(1,.aC b 0),(3,.int .i64 p.length)] h=some (.ret,e',h)∧look e' 2=.bool false∧(q.map (·.1)).all wG=false)
 | [], p, hp => by
   rw[UX]at hp;subst hp
   have ln:=rd.len
   refine .inl ⟨[(1,.aC b 0),(3,.int .i64 l.length),(16,.bool false)],sY ?_,rfl⟩
   simp (disch:=omega)only[go_sem,vh,AP.f205L0,hb,ln]
 | x :: q, p, hp => by
   have hlen:l.length=p.length+(q.length+1):=by rw[hp];simp
   have hx:l[p.length]?=some x:=by rw[hp];simp
   have ln:=rd.len
   obtain⟨ad,a1,a2⟩:=rd.FB
   have b1:=a1 p.length ⟨by omega,by omega⟩
   obtain⟨_,b2⟩:=a2 h (Ext.refl h) p.length x hx
   obtain⟨ok,sc⟩:=hv x (by rw[hp];simp)
   have k1:=Gk h x.1 x.2 sc ok
   have ih:=Gp hl h b hb rd hv q (p++[x]) (by rw[hp];simp)
   have w1:((p++[x]).length:Int)=(p.length:Int)+1:=by simp
   rw[w1]at ih
   rw[U5,Vl]
   cases hm:wG x.1 with
   | false =>
     rw[hm]at k1
     refine .inr ⟨[(2,.bool false)],tC ?_,rfl,rfl⟩
     clear ih rd a1 a2 hv hp ok
     generalize vq x.1 x.2=E at *
     simp (disch:=omega)only[go_sem,vh,AP.f205L0,hb,ln,b1,b2,k1]
   | true =>
     rw[hm]at k1
     rw[U7]
     have step:aK (aQ AP.A) bz AP.f205L0 (ax [(1,.aC b 0),(3,.int .i64 p.length)] [1,3]) h=some (.normal,[(1,.aC b 0),(3,.int .i64 ((p.length:Int)+1))],h):=by
      clear ih rd a1 a2 hv hp ok
      generalize vq x.1 x.2=E at *
      simp (disch:=omega)only[go_sem,vh,AP.f205L0,hb,ln,b1,b2,k1]
     rcases ih with ⟨e',r1,r2⟩|⟨e',r1,r2,r3⟩
     · exact .inl ⟨e',sZ step r1,r2⟩
     · exact .inr ⟨e',sZ step r1,r2,r3⟩
theorem D3 (h:H) (v:AV) (l:List vF) (hvs:v.sc=true) (hn:l.length<1125899906842624) (rd:wO 9 h v l.length (vD l)) (hv:∀x∈l,wS h x∧x.2.sc=true):aQ AP.A 205 [.agg [v]] h=some (.bool (vY (l.map (·.1))),h):=by
 obtain⟨h1,eh1⟩:∃g,g=h.dX.alloc [v]:=⟨_,rfl⟩
 have hx0:Ext h h1:=by rw[eh1];exact fun i c q=>((Ext.refl h.dX).alloc _) i c q
 have hn0:h.dX.next=h.next:=rfl
 have g1:h1.get h.next=some [v]:=by rw[eh1];exact vk rfl
 have rd1:=rd.mono fun i c q=>hx0 i c q
 have hv1:∀x∈l,wS h1 x∧x.2.sc=true:=fun x hx=>⟨(hv x hx).1.mono hx0,(hv x hx).2⟩
 have k1:=JD h1 v l hvs hn rd1 hv1
 unfold vY
 cases hm:wR (l.map (·.1))with
 | false =>
   rw[hm]at k1
   rw[UZ]
   refine tM (fn:=AP.f205) (h2:=h1) (e:=[(2,.bool false)]) rfl rfl rfl ?_ rfl rfl
   clear rd rd1 hv hv1 hx0
   simp (disch:=omega)only[go_sem,vh,AP.f205,hvs,hn0,←eh1,g1,wM,k1]
 | true =>
   rw[hm]at k1
   rw[U7]
   have k2:=JX h1 v l hvs hn rd1 hv1 hm
   obtain⟨m1,_,m3⟩:=vV hm
   rw[UW]at m1
   generalize xC (l.map (·.1))=N at *
   rcases Gp m1 h1 h.next g1 rd1 hv1 l [] rfl with ⟨e',r1,r2⟩|⟨e',r1,r2,r3⟩
   · have r1':Lp AP.A [1,3] AP.f205L0 [(1,.aC h.next 0),(3,.int .i64 0)] h1=some (.exit 0,e',h1):=r1
     rw[r2]
     refine tM (fn:=AP.f205) (h2:=h1) (e:=[(2,.bool true)]) rfl rfl rfl ?_ rfl rfl
     clear rd rd1 hv hv1 hx0 r1 r2
     simp (disch:=omega)only[go_sem,vh,AP.f205,hvs,hn0,←eh1,g1,wM,k1,k2,rR,r1']
   · have r1':Lp AP.A [1,3] AP.f205L0 [(1,.aC h.next 0),(3,.int .i64 0)] h1=some (.ret,e',h1):=r1
     rw[r3]
     refine tM (fn:=AP.f205) (h2:=h1) (e:=e') (vs:=[.bool false]) rfl rfl rfl ?_ (by simp only[AP.f205,cL,mQ,r2];rfl) rfl
     clear rd rd1 hv hv1 hx0 r1 r3
     simp (disch:=omega)only[go_sem,vh,AP.f205,hvs,hn0,←eh1,g1,wM,k1,k2,rR,r1']
theorem Da (h:H) (s:ByteArray) (hs:s.size<1125899906842624):aQ AP.A 200 [.str s] h=some (.int .i64 ((xE s%8:Nat):Int),h):=by
 have k1:=B6 h.dX s hs
 have rm:bp .rem (.int .i64 (xE s:Int)) (.int .i64 8)=some (.int .i64 ((xE s%8:Nat):Int)):=by
  show(if(8:Int)=0 then none else some (AV.int .i64 ((xE s:Int).tmod 8)))=_
  rw[if_neg (by decide),Int.tmod_eq_emod_of_nonneg (by omega)];rfl
 generalize ((xE s%8:Nat):Int)=M at *
 refine tM (fn:=AP.f200) (h2:=h.dX) (e:=[(2,.int .i64 M)]) rfl rfl rfl ?_ rfl rfl
 simp (disch:=omega)only[go_sem,vh,AP.f200,k1,rm]
theorem B9 {v : AV} {l : List vF} (m : Nat) (hm : vY (l.map (·.1)) = true) (h0 : H) (b : Nat) (hb : h0.get b = some [v]) (rd : wO 9 h0 v l.length (vD l)) (hv : ∀ x ∈ l, wS h0 x ∧ x.2.sc = true) (outv : AV) : ∀ (q p : List vF), l = p ++ q → ∀ (h : H) (ov : AV), Ext h0 h → h.floor ≤ h.next → h0.next ≤ h.next →
 vM 1 h ov (xk (p.map (·.1)) m).length (ints (xk (p.map (·.1)) m))→(∀j,ov.id?=some j→h0.next≤j)→
 ∃ e' h' ov', Lp AP.A [1, 4, 5, 6, 7] AP.f197L0 [(1, .aC b 0), (4, outv), (5, .int .i64 m), (6, ov), (7, .int .i64 p.length)] h = some (.exit 2, e', h') ∧ look e' 1 = .aC b 0 ∧ look e' 4 = outv ∧ look e' 5 = .int .i64 m ∧ look e' 6 = ov' ∧
   vM 1 h' ov' (xk (l.map (·.1)) m).length (ints (xk (l.map (·.1)) m))∧Ext h0 h'∧h'.floor=h.floor∧h.next≤h'.next∧∀j,ov'.id?=some j→h0.next≤j
 | [], p, hp, h, ov, hx, hf, hn, o, hge => by
   rw[UX]at hp;subst hp
   have gb:=hx _ _ hb
   have ln:=(rd.mono fun i c q=>hx i c q).len
   refine⟨[(1,.aC b 0),(4,outv),(5,.int .i64 m),(6,ov),(7,.int .i64 l.length),(23,.bool false)],h,ov,sY ?_,rfl,rfl,rfl,rfl,o,hx,rfl,uF _,hge⟩
   simp (disch:=omega)only[go_sem,vh,AP.f197L0,gb,ln]
 | x :: q, p, hp, h, ov, hx, hf, hn, o, hge => by
   have hm':=hm
   unfold vY at hm'
   rw[uG]at hm'
   obtain⟨m1,m2,m3⟩:=vV hm'.1
   rw[UW]at m1
   have gb:=hx _ _ hb
   have hlx:l[p.length]?=some x:=by rw[hp];simp
   have hlen:l.length=p.length+(q.length+1):=by rw[hp];simp
   have may:wG x.1=true:=Vd.1 hm'.2 x.1 (by rw[hp];simp)
   have ln:=(rd.mono fun i c q=>hx i c q).len
   obtain⟨ad,a1,a2⟩:=rd.FB
   have b1:=a1 p.length ⟨by omega,by omega⟩
   obtain⟨pe,b2⟩:=a2 h hx p.length x hlx
   obtain⟨qq,f1,f2⟩:=pe.th
   have l0:=f2 h (Ext.refl h) 0 _ rfl
   obtain⟨ok,sc⟩:=hv x (by rw[hp];simp)
   have k1:=Da h x.1.name ok.nl
   have k1':aQ AP.A 200 [.str x.1.name] h=some (.int .i64 ((Bl x.1:Nat):Int),h):=k1
   have k2:=Ho h x.1 x.2 sc (ok.mono hx)
   unfold Hn at k2
   rw[if_pos may]at k2
   have k2':aQ AP.A 151 [.agg (vq x.1 x.2)] h=some (.bO [.int .i64 (Ih x.1),.int .i64 0],h):=k2
   have w1:((p++[x]).length:Int)=(p.length:Int)+1:=by simp
   have bs:=C9 (p.map (·.1)) x.1 m
   have bl:=Ai (p.map (·.1)) m
   rw[UW]at bl
   by_cases c:Bl x.1=m
   · rw[if_pos c]at bs
     rw[c]at k1'
     obtain⟨v',h',p1,p2,p3,p4,p5,p6⟩:=o.push hf (z:=8) (m:=1) (by omega) (by omega) [.int .i64 (Ih x.1)] rfl rfl (by simp [roomy];omega)
     have ea:ints (xk (p.map (·.1)) m)++[.int .i64 (Ih x.1)]=ints (xk ((p++[x]).map (·.1)) m):=by rw[Va,Vj,bs];simp [ints,I]
     have el:(xk (p.map (·.1)) m).length+1=(xk ((p++[x]).map (·.1)) m).length:=by rw[Va,Vj,bs];simp
     rw[ea,el]at p2
     obtain⟨e',h2,ov',r1,r2⟩:=B9 m hm h0 b hb rd hv outv q (p++[x]) (by rw[hp];simp) h' v' (fun i c q=>by
      have:=h0.lt _ _ q
      rw[p5 i (fun q2=>by have:=hge i q2;omega) (by omega)];exact hx i c q) (by omega) (by omega) p2 (fun j q=>by rw[p6]at q;have:=uv q;omega)
     rw[w1]at r1
     refine⟨e',h2,ov',sZ ?_ r1,r2.1,r2.2.1,r2.2.2.1,r2.2.2.2.1,r2.2.2.2.2.1,r2.2.2.2.2.2.1,by rw[r2.2.2.2.2.2.2.1,p3],by have:=r2.2.2.2.2.2.2.2.1;omega,r2.2.2.2.2.2.2.2.2⟩
     clear r1 r2 rd hv a1 a2 o bs ea el p2 pe f2 hm hm' m2 k2
     generalize vq x.1 x.2=F at *
     generalize Ih x.1=D at *
     simp (disch:=omega)only[go_sem,vh,AP.f197L0,gb,ln,b1,b2,f1,l0,k1',k2',p1]
   · rw[if_neg c]at bs
     have c':¬((Bl x.1:Nat):Int)=(m:Int):=by omega
     obtain⟨e',h2,ov',r1,r2⟩:=B9 m hm h0 b hb rd hv outv q (p++[x]) (by rw[hp];simp) h ov hx hf hn (by rw[Va,Vj,bs];exact o) hge
     rw[w1]at r1
     refine⟨e',h2,ov',sZ ?_ r1,r2⟩
     clear r1 r2 rd hv a1 a2 o bs pe f2 hm hm' m2 k2 k1
     generalize vq x.1 x.2=F at *
     generalize ((Bl x.1:Nat):Int)=B at *
     simp (disch:=omega)only[go_sem,vh,AP.f197L0,gb,ln,b1,b2,f1,l0,k1']
theorem EM {v:AV} {l:List vF} (hm:vY (l.map (·.1))=true) (h0:H) (b:Nat) (hb:h0.get b=some [v]) (rd:wO 9 h0 v l.length (vD l)) (hv:∀x∈l,wS h0 x∧x.2.sc=true):∀(n i:Nat),i+n=8→∀(h:H) (ov:AV),Ext h0 h→h.floor≤h.next→h0.next≤h.next→
 vM 1 h ov i (ints ((List.range i).map fun b=>vX (xk (l.map (·.1)) b)))→(∀j,ov.id?=some j→h0.next≤j)→
 ∃e' h' ov',Lp AP.A [1,4,5] AP.f197L1 [(1,.aC b 0),(4,ov),(5,.int .i64 i)] h=some (.exit 0,e',h')∧look e' 4=ov'∧vM 1 h' ov' 8 (ints (vK (l.map (·.1))))∧h'.floor=h.floor
 | 0, i, hi, h, ov, hx, hf, hn, o, hge => by
   obtain rfl:i=8:=by omega
   refine⟨[(1,.aC b 0),(4,ov),(5,.int .i64 8),(16,.bool false)],h,ov,sY ?_,rfl,o,rfl⟩
   simp (disch:=omega)only[go_sem,vh,AP.f197L1]
 | n + 1, i, hi, h, ov, hx, hf, hn, o, hge => by
   obtain⟨e1,h1,dv,r1,r2,r3,r4,r5,r6,r7,r8,r9,r10⟩:=B9 i hm h b (hx _ _ hb) (rd.mono fun i c q=>hx i c q) (fun x hx'=>⟨(hv x hx').1.mono hx,(hv x hx').2⟩) ov l [] rfl h .aO (Ext.refl h) hf (uF _) vM.nil (fun j q=>by cases q)
   have r1':Lp AP.A [1,4,5,6,7] AP.f197L0 [(1,.aC b 0),(4,ov),(5,.int .i64 i),(6,.aO),(7,.int .i64 0)] h=some (.exit 2,e1,h1):=r1
   have bl:=Ai (l.map (·.1)) i
   have hm':=hm
   unfold vY at hm'
   rw[uG]at hm'
   have m1:=(vV hm'.1).1
   have k1:=Ki h1 dv (xk (l.map (·.1)) i) (by have:=r6.rd;exact⟨by rw[pt];exact this.1,this.2.2⟩) (by omega)
   rw[E4 (F9 _ _)]at k1
   have k1':aQ AP.A 152 [dv] h1=some (.bO [.int .i64 (vX (xk (l.map (·.1)) i)),.int .i64 0],h1):=k1
   have o1:vM 1 h1 ov i (ints ((List.range i).map fun b=>vX (xk (l.map (·.1)) b))):=o.mono r8 fun j q=>by
    obtain⟨_,⟨q1,_⟩|⟨j',q1,q2,_⟩⟩:=o
    · rw[q1]at q;cases q
    · rw[q1]at q;obtain rfl:=uv q;rw[q2];exact r7 _ _ q2
   obtain⟨v',h',p1,p2,p3,p4,p5,p6⟩:=o1.push (by omega) (z:=8) (m:=1) (by omega) (by omega) [.int .i64 (vX (xk (l.map (·.1)) i))] rfl rfl (by simp [roomy];omega)
   have e:ints ((List.range i).map fun b=>vX (xk (l.map (·.1)) b))++[.int .i64 (vX (xk (l.map (·.1)) i))]=ints ((List.range (i+1)).map fun b=>vX (xk (l.map (·.1)) b)):=by rw[CE];simp [ints,I]
   rw[e]at p2
   obtain⟨e',h2,ov',s1,s2,s3,s4⟩:=EM hm h0 b hb rd hv n (i+1) (by omega) h' v' (fun j c q=>by
    have:=h0.lt _ _ q
    rw[p5 j (fun q2=>by have:=hge j q2;omega) (by omega)];exact r7 _ _ (hx j c q)) (by omega) (by omega) p2 (fun j q=>by rw[p6]at q;have:=uv q;omega)
   have w1:((i+1:Nat):Int)=(i:Int)+1:=by omega
   rw[w1]at s1
   refine⟨e',h2,ov',sZ ?_ s1,s2,s3,by rw[s4,p3,r8]⟩
   clear r1 r6 r7 s1 s3 o o1 e p2 rd hv hx hm hm' k1
   generalize vX (xk (l.map (·.1)) i)=D at *
   simp (disch:=omega)only[go_sem,vh,AP.f197L1,rR,r1',r2,r3,r4,r5,k1',p1]
def Ik (l:List vQ):AV:=if vY l then .bO [wk (vK l),.int .i64 0]else .bO [.aO,.int .i64 1600]
theorem JW (h:H) (v:AV) (l:List vF) (hvs:v.sc=true) (hn:l.length<1125899906842624) (rd:wO 9 h v l.length (vD l)) (hv:∀x∈l,wS h x∧x.2.sc=true):aQ AP.A 197 [.agg [v]] h=some (Ik (l.map (·.1)),h):=by
 obtain⟨h1,eh1⟩:∃g,g=h.dX.alloc [v]:=⟨_,rfl⟩
 have hx0:Ext h h1:=by rw[eh1];exact fun i c q=>((Ext.refl h.dX).alloc _) i c q
 have hn0:h.dX.next=h.next:=rfl
 have f1:h1.floor=h.next:=by rw[eh1];simp
 have n1:h1.next=h.next+1:=by rw[eh1];simp
 have g1:h1.get h.next=some [v]:=by rw[eh1];exact vk rfl
 have rd1:=rd.mono fun i c q=>hx0 i c q
 have hv1:∀x∈l,wS h1 x∧x.2.sc=true:=fun x hx=>⟨(hv x hx).1.mono hx0,(hv x hx).2⟩
 have k1:=D3 h1 v l hvs hn rd1 hv1
 unfold Ik
 cases hm:vY (l.map (·.1))with
 | false =>
   rw[hm]at k1
   refine tM (fn:=AP.f197) (h2:=h1) (e:=[(2,.aO),(3,.int .i64 1600)]) (vs:=[.aO,.int .i64 1600]) rfl rfl rfl ?_ rfl rfl
   clear rd rd1 hv hv1 hx0
   simp (disch:=omega)only[go_sem,vh,AP.f197,hvs,hn0,←eh1,g1,wM,k1]
 | true =>
   rw[hm]at k1
   obtain⟨e',h2,ov,r1,r2,r3,r4⟩:=EM hm h1 h.next g1 rd1 hv1 8 0 rfl h1 .aO (Ext.refl _) (by omega) (uF _) vM.nil (fun j q=>by cases q)
   have r1':Lp AP.A [1,4,5] AP.f197L1 [(1,.aC h.next 0),(4,.aO),(5,.int .i64 0)] h1=some (.exit 0,e',h2):=r1
   refine tM (fn:=AP.f197) (h2:=h2) (e:=[(2,ov),(3,.int .i64 0)]) (vs:=[ov,.int .i64 0]) rfl rfl rfl ?_ rfl ?_
   · clear rd rd1 hv hv1 hx0 r1 r3
     simp (disch:=omega)only[go_sem,vh,AP.f197,hvs,hn0,←eh1,g1,wM,k1,rR,r1',r2]
   · have s:=r3.yw (fl:=h.next) (m:=13) (t:=true) (by rw[r4,f1];exact uF _)
     have e:DI 1 8 (ints (vK (l.map (·.1))))=wk (vK (l.map (·.1))):=by unfold DI wk;rw[vI];rfl
     rw[e]at s
     show(fJ (snap h2.get h.next 15 true) [ov,.int .i64 0]).bind _=_
     simp only[fJ,s,uC]
     rfl
theorem EE {v : AV} {l : List Int} (hl : l.length < 1125899906842624) (h : H) (rd : Rd h v (ints l)) : ∀ (q p : List Int), l = p ++ q →
 (∃e',Lp AP.A [0,3] AP.f206L0 [(0,v),(3,.int .i64 p.length)] h=some (.exit 0,e',h)∧xF p.getLast? q=true)∨
 (∃e',Lp AP.A [0,3] AP.f206L0 [(0,v),(3,.int .i64 p.length)] h=some (.ret,e',h)∧look e' 2=.bool false∧xF p.getLast? q=false)
 | [], p, hp => by
   rw[UX]at hp;subst hp
   have r2:=rd.Ef
   rw[pt]at r2
   have ln:=r2.len
   refine .inl ⟨[(0,v),(3,.int .i64 l.length),(7,.bool false)],sY ?_,rfl⟩
   simp (disch:=omega)only[go_sem,vh,AP.f206L0,ln]
 | x :: q, p, hp => by
   have r2:=rd.Ef
   rw[pt]at r2
   have ln:=r2.len
   have hlen:l.length=p.length+(q.length+1):=by rw[hp];simp
   have hx:l[p.length]?=some x:=by rw[hp];simp
   obtain⟨ad,a1,a2⟩:=rd.wI
   have b1:=a1 p.length ⟨by omega,by omega⟩
   have b2:=a2 h (Ext.refl h) p.length x hx
   have ih:=EE hl h rd q (p++[x]) (by rw[hp];simp)
   have w1:((p++[x]).length:Int)=(p.length:Int)+1:=by simp
   rw[w1,List.getLast?_concat]at ih
   rw[F8]
   have step : aK (aQ AP.A) bz AP.f206L0 (ax [(0, v), (3, .int .i64 p.length)] [0, 3]) h = if JN p.getLast? x then some (.normal, [(0, v), (3, .int .i64 ((p.length : Int) + 1))], h) else some (.ret, [(2, .bool false)], h) := by
    unfold JN
    cases hq:p.getLast? with
    | none =>
      have hp0:p=[]:=List.getLast?_eq_none_iff.1 hq
      have hp1:p.length=0:=by rw[hp0];rfl
      clear ih rd r2 a1 a2 hp w1
      by_cases c1:0≤x
      · by_cases c2:x<8
        · simp only[dt c1,dt c2,Ve,if_true]
          simp (disch:=omega)only[go_sem,vh,AP.f206L0,ln,b1,b2]
        · simp only[dt c1,df c2,UZ,U3,uD,u0]
          simp (disch:=omega)only[go_sem,vh,AP.f206L0,ln,b1,b2]
      · simp only[df c1,UZ,uD,u0]
        simp (disch:=omega)only[go_sem,vh,AP.f206L0,ln,b1,b2]
    | some y =>
      obtain⟨p',rfl⟩:∃p',p=p'++[y]:=List.getLast?_eq_some_iff.1 hq
      have hpl:(p'++[y]).length=p'.length+1:=by simp
      have hy:l[p'.length]?=some y:=by rw[hp];simp
      have bj:=a1 p'.length ⟨by omega,by omega⟩
      have lj:=a2 h (Ext.refl h) p'.length y hy
      have n2:(((p'++[y]).length:Nat):Int)-1=(p'.length:Int):=by rw[hpl];omega
      have n3:0<(((p'++[y]).length:Nat):Int):=by rw[hpl];omega
      clear ih rd r2 a1 a2 hp w1 hx hy hq
      generalize (p'++[y]).length=pl at *
      by_cases c1:0≤x
      · by_cases c2:x<8
        · by_cases c3:y<x
          · rw[dt c1,dt c2]
            simp only[dt c3,Ve,if_true]
            simp (disch:=omega)only[go_sem,vh,AP.f206L0,ln,b1,b2,bj,lj,n2]
          · rw[dt c1,dt c2]
            simp only[df c3,U3,uD,u0]
            simp (disch:=omega)only[go_sem,vh,AP.f206L0,ln,b1,b2,bj,lj,n2]
        · simp only[dt c1,df c2,UZ,U3,uD,u0]
          simp (disch:=omega)only[go_sem,vh,AP.f206L0,ln,b1,b2]
      · simp only[df c1,UZ,uD,u0]
        simp (disch:=omega)only[go_sem,vh,AP.f206L0,ln,b1,b2]
   by_cases hok:JN p.getLast? x=true
   · rw[if_pos hok]at step
     rw[hok,U7]
     rcases ih with ⟨e',r1,r2⟩|⟨e',r1,r2,r3⟩
     · exact .inl ⟨e',sZ step r1,r2⟩
     · exact .inr ⟨e',sZ step r1,r2,r3⟩
   · have hok':JN p.getLast? x=false:=by simpa using hok
     rw[if_neg hok]at step
     rw[hok',UZ]
     exact .inr ⟨_,tC step,rfl,rfl⟩
theorem JP (h:H) (v:AV) (l:List Int) (rd:Rd h v (ints l)) (hl:l.length<1125899906842624):aQ AP.A 206 [v] h=some (.bool (yz l),h):=by
 have xf:Ext h h.dX:=fun i c q=>q
 have rdf:Rd h.dX v (ints l):=rd.mono fun i c q=>xf i c q
 unfold yz
 rcases EE hl h.dX rdf l [] rfl with ⟨e',r1,r3⟩|⟨e',r1,r3,r4⟩
 · have r1':Lp AP.A [0,3] AP.f206L0 [(0,v),(3,.int .i64 0)] h.dX=some (.exit 0,e',h.dX):=r1
   have r3':xF none l=true:=r3
   rw[r3']
   refine tM (fn:=AP.f206) (h2:=h.dX) (e:=[(2,.bool true)]) rfl rfl rfl ?_ rfl rfl
   clear rd rdf r1 r3
   simp (disch:=omega)only[go_sem,vh,AP.f206,rR,r1']
 · have r1':Lp AP.A [0,3] AP.f206L0 [(0,v),(3,.int .i64 0)] h.dX=some (.ret,e',h.dX):=r1
   have r4':xF none l=false:=r4
   rw[r4']
   refine tM (fn:=AP.f206) (h2:=h.dX) (e:=e') (vs:=[.bool false]) rfl rfl rfl ?_ (by simp only[AP.f206,cL,mQ,r3];rfl) rfl
   clear rd rdf r1 r4
   simp (disch:=omega)only[go_sem,vh,AP.f206,rR,r1']
def HQ (e:vQ) (bs:List Int):List Ha:=List.replicate (bs.count ((Bl e:Nat):Int)) (e.name,e.vec)
theorem H9 (e:vQ) (p:List Int) (y:Int):HQ e (p++[y])=if((Bl e:Nat):Int)=y then HQ e p++[(e.name,e.vec)]else HQ e p:=by
 unfold HQ
 rw[List.count_append,List.count_singleton]
 by_cases c:((Bl e:Nat):Int)=y
 · rw[if_pos c,if_pos (by simp [c]),List.replicate_succ']
 · rw[if_neg c,if_neg (by simpa using fun q=>c q.symm)];rfl
theorem Hj {e:vQ} {bs:List Int} (h:bs.Nodup):HQ e bs=if bs.contains ((Bl e:Nat):Int)then [(e.name,e.vec)]else []:=by
 unfold HQ
 by_cases c:((Bl e:Nat):Int)∈bs
 · rw[if_pos (by simpa using c),List.Nodup.count h,if_pos c];rfl
 · rw[if_neg (by simpa using c),List.count_eq_zero_of_not_mem c];rfl
theorem B8 {v w:AV} {l:List vF} {bs:List Int} (h0:H) (b:Nat) (hb:h0.get b=some [v]) (rd:wO 9 h0 v l.length (vD l)) (rdb:Rd h0 w (ints bs)) (hbs:bs.length≤8) (i:Nat) (x:vF) (hi:i<l.length) (hl:l[i]?=some x) (ok:wS h0 x) (v4:x.1.vec.length=4) (A0:List Ha) (hA:A0.length≤100):∀(q p:List Int),bs=p++q→∀(h:H) (ov:AV) (acc:List xO),Ext h0 h→h.floor≤h.next→h0.next≤h.next→
 vM 2 h ov acc.length (wv acc)→acc.map (·.1)=A0++HQ x.1 p→(∀y∈acc,HP h0 h ov y)→(∀j,ov.id?=some j→h0.next≤j)→h0.floor=h.floor→h.floor≤h0.next→
 ∃ e' h' ov' acc', Lp AP.A [1, 2, 6, 7, 8] AP.f199L0 [(1, w), (2, .aC b 0), (6, ov), (7, .int .i64 i), (8, .int .i64 p.length)] h = some (.exit 2, e', h') ∧ look e' 1 = w ∧ look e' 2 = .aC b 0 ∧ look e' 6 = ov' ∧ look e' 7 = .int .i64 i ∧
   vM 2 h' ov' acc'.length (wv acc')∧acc'.map (·.1)=A0++HQ x.1 bs∧(∀y∈acc',HP h0 h' ov' y)∧Ext h0 h'∧h'.floor=h.floor∧h.next≤h'.next∧∀j,ov'.id?=some j→h0.next≤j
 | [], p, hp, h, ov, acc, hx, hf, hn, o, ha, hbk, hge, hfl, hf0 => by
   rw[UX]at hp;subst hp
   have r2:=(rdb.mono fun i c q=>hx i c q:Rd h w (ints bs)).Ef
   rw[pt]at r2
   have lnb:=r2.len
   refine⟨[(1,w),(2,.aC b 0),(6,ov),(7,.int .i64 i),(8,.int .i64 bs.length),(27,.bool false)],h,ov,acc,sY ?_,rfl,rfl,rfl,rfl,o,ha,hbk,hx,rfl,uF _,hge⟩
   simp (disch:=omega)only[go_sem,vh,AP.f199L0,lnb]
 | y :: q, p, hp, h, ov, acc, hx, hf, hn, o, ha, hbk, hge, hfl, hf0 => by
   have r2:=(rdb.mono fun i c q=>hx i c q:Rd h w (ints bs)).Ef
   rw[pt]at r2
   have lnb:=r2.len
   have hlen:bs.length=p.length+(q.length+1):=by rw[hp];simp
   have hy:bs[p.length]?=some y:=by rw[hp];simp
   have gb:=hx _ _ hb
   obtain⟨ad,a1,a2⟩:=rd.FB
   have b1:=a1 i ⟨by omega,by omega⟩
   obtain⟨pe,_⟩:=a2 h hx i x hl
   obtain⟨qq,f1,f2⟩:=pe.th
   have l0:=f2 h (Ext.refl h) 0 _ rfl
   have l2:=f2 h (Ext.refl h) 2 _ rfl
   obtain⟨bd,c1,c2⟩:=rdb.wI
   have c3:=c1 p.length ⟨by omega,by omega⟩
   have c4:=c2 h hx p.length y hy
   have k1:=Da h x.1.name ok.nl
   have k1':aQ AP.A 200 [.str x.1.name] h=some (.int .i64 ((Bl x.1:Nat):Int),h):=k1
   have w1:((p++[y]).length:Int)=(p.length:Int)+1:=by simp
   have bs':=H9 x.1 p y
   have al:=Vi List.length ha
   rw[UW,uZ]at al
   have cl:(HQ x.1 p).length≤p.length:=by unfold HQ;rw[Vc];exact List.count_le_length
   by_cases c:((Bl x.1:Nat):Int)=y
   · rw [if_pos c] at bs'
     rw[c]at k1'
     obtain⟨g2,eg2⟩:∃g,g=((h.alloc []).del h.next).alloc (ints x.1.vec):=⟨_,rfl⟩
     have rv:=(ok.vec.mono fun i c q=>hx i c q:Rd h x.2 (ints x.1.vec)).Ef
     rw[pt]at rv
     have ap:=C5 rv hf (by omega) (by omega) (z:=8) (by simp [roomy];omega) (zZ x.1.vec)
     rw[v4,←eg2]at ap
     have low2:∀i,i<h.next→g2.get i=h.get i:=fun i hi=>by rw[eg2,vN (by simp;omega),yN (by omega),vN (by omega)]
     have fl2:g2.floor=h.floor:=by rw[eg2];simp
     have n2:g2.next=h.next+2:=by rw[eg2];simp
     have zv:g2.get (h.next+1)=some (ints x.1.vec):=by rw[eg2,vk (by simp)]
     have x2:Ext h0 g2:=fun i c q=>by rw[low2 i (by have:=h0.lt _ _ q;omega)];exact hx i c q
     have gb2:=x2 _ _ hb
     have xA:Ext h (h.alloc []):=(Ext.refl h).alloc _
     have gbA:=xA _ _ gb
     have l2A:=f2 (h.alloc []) xA 2 _ rfl
     have xB:Ext h (g2.alloc [.str x.1.name,.aD (h.next+1) 0 4 1]):=fun i c q=>(Ext.refl g2).alloc _ _ _ (by rw[low2 i (h.lt _ _ q)];exact q)
     have gbB:=xB _ _ gb
     have l0B:=f2 _ xB 0 _ rfl
     obtain⟨pe2,_⟩:=a2 g2 x2 i x hl
     have l0':=f2 g2 (fun i c q=>by rw[low2 i (h.lt _ _ q)];exact q) 0 _ rfl
     have o2:vM 2 g2 ov acc.length (wv acc):=o.mono fl2 fun i q=>low2 i (o.lt q).2
     obtain⟨v',h',p1,p2,p3,p4,p5,p6⟩:=o2.push (by omega) (z:=40) (m:=1) (by omega) (by omega) [.str x.1.name,.aD (h.next+1) 0 4 1] rfl rfl (by simp [roomy];omega)
     have ea:wv acc++[.str x.1.name,.aD (h.next+1) 0 4 1]=wv (acc++[((x.1.name,x.1.vec),.aD (h.next+1) 0 4 1)]):=by rw[BW];rfl
     rw[ea]at p2
     have ovl:∀j,ov.id?=some j→j<h.next:=fun j q=>(o.lt q).2
     obtain⟨e',h2,ov',acc',r1,r2⟩:=B8 h0 b hb rd rdb hbs i x hi hl ok v4 A0 hA q (p++[y]) (by rw[hp];simp) h' v' (acc++[((x.1.name,x.1.vec),.aD (h.next+1) 0 4 1)]) (fun i c q=>by
      have:=h0.lt _ _ q
      rw[p5 i (fun q2=>by have:=hge i q2;omega) (by omega)];exact x2 i c q) (by omega) (by omega) (by rw[uZ,List.length_singleton];exact p2) (by rw[Va,Vj,bs',ha,List.append_assoc]) (fun z hz=>by
      rcases List.mem_append.1 hz with hz|hz
      · refine(hbk z hz).mono (by rw[p3,fl2]) (fun j q1 q2=>by rw[p5 j q2 (by omega),low2 j q1]) (fun j q1 _=>by rw[p6];intro q2;have:=uv q2;omega)
      · obtain rfl:z=_:=List.mem_singleton.1 hz
        refine⟨⟨h.next+1,rfl, ?_,by omega,by rw[p6];intro q2;have:=uv q2;omega,by rw[p3,fl2];omega⟩,v4⟩
        rw[p5 _ (fun q2=>by have:=ovl _ q2;omega) (by omega)]
        exact zv) (fun j q=>by rw[p6]at q;have:=uv q;omega) (by rw[p3,fl2,hfl]) (by rw[p3,fl2];exact hf0)
     rw[w1]at r1
     refine⟨e',h2,ov',acc',sZ ?_ r1,r2.1,r2.2.1,r2.2.2.1,r2.2.2.2.1,r2.2.2.2.2.1,r2.2.2.2.2.2.1,r2.2.2.2.2.2.2.1,r2.2.2.2.2.2.2.2.1,by rw[r2.2.2.2.2.2.2.2.2.1,p3,fl2],by have:=r2.2.2.2.2.2.2.2.2.2.1;omega,r2.2.2.2.2.2.2.2.2.2.2⟩
     clear r1 r2 rd a1 a2 pe pe2 f2 hx x2 xA xB o o2 hbk ha ea p2 rdb c1 c2 ok rv bs' k1 low2 zv eg2 ovl
     subst c
     generalize ((Bl x.1:Nat):Int)=B at *
     simp (disch:=omega)only[go_sem,vh,AP.f199L0,lnb,gb,b1,f1,l0,l2,k1',c3,c4,gbA,l2A,ap,gbB,l0B,p1]
   · rw[if_neg c]at bs'
     obtain⟨e',h2,ov',acc',r1,r2⟩:=B8 h0 b hb rd rdb hbs i x hi hl ok v4 A0 hA q (p++[y]) (by rw[hp];simp) h ov acc hx hf hn o (by rw[bs'];exact ha) hbk hge hfl hf0
     rw[w1]at r1
     refine⟨e',h2,ov',acc',sZ ?_ r1,r2⟩
     clear r1 r2 rd a1 a2 pe f2 hx o hbk ha rdb c1 c2 ok bs' k1
     generalize ((Bl x.1:Nat):Int)=B at *
     simp (disch:=omega)only[go_sem,vh,AP.f199L0,lnb,gb,b1,f1,l0,l2,k1',c3,c4]
theorem DV (l:List vQ) (e:vQ) {bs:List Int} (h:bs.Nodup):vL (l++[e]) bs=vL l bs++HQ e bs:=by
 rw[Bn,Hj h]
 split<;>simp
theorem EL {v w:AV} {l:List vF} {bs:List Int} (hm:vY (l.map (·.1))=true) (h0:H) (b:Nat) (hb:h0.get b=some [v]) (rd:wO 9 h0 v l.length (vD l)) (hv:∀x∈l,wS h0 x∧x.2.sc=true) (rdb:Rd h0 w (ints bs)) (hbs:bs.length≤8) (nd:bs.Nodup):∀(q p:List vF),l=p++q→∀(h:H) (ov:AV) (acc:List xO),Ext h0 h→h.floor≤h.next→h0.next≤h.next→
 vM 2 h ov acc.length (wv acc)→acc.map (·.1)=vL (p.map (·.1)) bs→(∀y∈acc,HP h0 h ov y)→(∀j,ov.id?=some j→h0.next≤j)→h.floor≤h0.next→h0.floor=h.floor→
 ∃e' h' ov' acc',Lp AP.A [1,2,6,7] AP.f199L1 [(1,w),(2,.aC b 0),(6,ov),(7,.int .i64 p.length)] h=some (.exit 0,e',h')∧look e' 6=ov'∧vM 2 h' ov' acc'.length (wv acc')∧acc'.map (·.1)=vL (l.map (·.1)) bs∧(∀y∈acc',HP h0 h' ov' y)∧h'.floor=h.floor
 | [], p, hp, h, ov, acc, hx, hf, hn, o, ha, hbk, hge, hf0, hfl => by
   rw[UX]at hp;subst hp
   have gb:=hx _ _ hb
   have ln:=(rd.mono fun i c q=>hx i c q).len
   refine⟨[(1,w),(2,.aC b 0),(6,ov),(7,.int .i64 l.length),(21,.bool false)],h,ov,acc,sY ?_,rfl,o,ha,hbk,rfl⟩
   simp (disch:=omega)only[go_sem,vh,AP.f199L1,gb,ln]
 | x :: q, p, hp, h, ov, acc, hx, hf, hn, o, ha, hbk, hge, hf0, hfl => by
   have hm':=hm
   unfold vY at hm'
   rw[uG]at hm'
   obtain⟨m1,m2,m3⟩:=vV hm'.1
   rw[UW]at m1
   have gb:=hx _ _ hb
   have hlx:l[p.length]?=some x:=by rw[hp];simp
   have hlen:l.length=p.length+(q.length+1):=by rw[hp];simp
   have ln:=(rd.mono fun i c q=>hx i c q).len
   have v4:x.1.vec.length=4:=(xz (m2 x.1 (by rw[hp];simp)).2.1).1
   obtain⟨ok,sc⟩:=hv x (by rw[hp];simp)
   have bl:=yW (p.map (·.1)) bs
   rw[UW]at bl
   have al:=Vi List.length ha
   rw[UW]at al
   obtain⟨e1,h1,ov1,acc1,r1,r2,r3,r4,r5,r6,r7,r8,r9,r10,r11,r12⟩:=B8 h0 b hb rd rdb hbs p.length x (by omega) hlx ok v4 (vL (p.map (·.1)) bs) (by omega) bs [] rfl h ov acc hx hf hn o (by rw[ha];unfold HQ;simp) hbk hge hfl hf0
   rw[←DV _ _ nd]at r7
   have r1':Lp AP.A [1,2,6,7,8] AP.f199L0 [(1,w),(2,.aC b 0),(6,ov),(7,.int .i64 p.length),(8,.int .i64 0)] h=some (.exit 2,e1,h1):=r1
   obtain⟨e',h',ov',acc',s1,s2⟩:=EL hm h0 b hb rd hv rdb hbs nd q (p++[x]) (by rw[hp];simp) h1 ov1 acc1 r9 (by omega) (by omega) r6 (by rw[Va,Vj];exact r7) r8 r12 (by omega) (by rw[r10];exact hfl)
   have w1:((p++[x]).length:Int)=(p.length:Int)+1:=by simp
   rw[w1]at s1
   refine⟨e',h',ov',acc',sZ ?_ s1,s2.1,s2.2.1,s2.2.2.1,s2.2.2.2.1,by rw[s2.2.2.2.2,r10]⟩
   clear r1 s1 s2 rd hv rdb r6 r7 r8 r9 o ha hbk hm hm' m2 hx ok
   simp (disch:=omega)only[go_sem,vh,AP.f199L1,gb,ln,rR,r1',r2,r3,r4,r5]
def Hx (b:Ha):xO:=(b,wk b.2)
def Ah (l:List Ha):AV:=DI 2 l.length (wv (l.map Hx))
theorem AQ (l:List xO):(wv l).length=l.length* 2:=FT zI l
theorem DJ {h:H} {fl:Nat} {h0:H} {ov:AV} (hfl:fl≤h0.next) (m:Nat):∀{acc:List xO},(∀y∈acc,HP h0 h ov y)→fJ (snap h.get fl (m+3) false) (wv acc)=some (wv ((acc.map (·.1)).map Hx))
 |[],_=>rfl
 | y :: acc, hb => by
   obtain⟨j,e1,e2,e3,e4,e5⟩:=(hb y (by simp)).ex
   have l4:=(hb y (by simp)).l4
   have ih:=DJ (ov:=ov) hfl m (acc:=acc) fun z hz=>hb z (by simp [hz])
   have s1:snap h.get fl (m+3) false y.2=some (wk y.1.2):=by
    have o:vM 1 ⟨h.next,fl,h.cF,h.len⟩ (.aD j 0 4 1) 4 (ints y.1.2):=⟨by rw[pt];omega,.inr ⟨j,rfl,e2,by show fl≤j;omega,by omega⟩⟩
    have:=o.yw (fl:=fl) (m:=m+1) (t:=false) (uF _)
    rw[e1]
    have e:DI 1 4 (ints y.1.2)=wk y.1.2:=by unfold DI wk;rw[l4];rfl
    rw[e]at this;exact this
   show fJ (snap h.get fl (m+3) false) (.str y.1.1::y.2::wv acc)=_
   have s0:snap h.get fl (m+3) false (.str y.1.1)=some (.str y.1.1):=rfl
   simp only[fJ,s0,s1,ih,uC]
   rfl
def Lu (l:List vQ) (bs:List Int):AV:=if vY l&&yz bs then .bO [Ah (vL l bs),.int .i64 0]else .bO [.aO,.int .i64 1600]
theorem Ic (g:H) {l:List Ha} (hl:∀b∈l,b.2.length<1125899906842624):Hb g (Ah l) (l.map Hx):=by
 refine⟨?_,fun x hx=> ?_⟩
 · unfold Ah
   have:=Eg (n:=2) (k:=l.length) (h:=g) (cs:=wv (l.map Hx)) (by rw[AQ,UW])
   rw[UW];exact this
 · obtain⟨b,hb,rfl⟩:=U8.1 hx
   exact⟨yg g b.2,hl b hb⟩
theorem Hk (h : H) (v w : AV) (l : List vF) (bs : List Int) (hvs : v.sc = true) (hn : l.length < 1125899906842624) (rd : wO 9 h v l.length (vD l)) (hv : ∀ x ∈ l, wS h x ∧ x.2.sc = true) (rdb : Rd h w (ints bs)) (hbs : bs.length < 1125899906842624) : aQ AP.A 199 [.agg [v], w] h = some (Lu (l.map (·.1)) bs, h) := by
 obtain⟨h1,eh1⟩:∃g,g=h.dX.alloc [v]:=⟨_,rfl⟩
 have hx0:Ext h h1:=by rw[eh1];exact fun i c q=>((Ext.refl h.dX).alloc _) i c q
 have hn0:h.dX.next=h.next:=rfl
 have f1:h1.floor=h.next:=by rw[eh1];simp
 have n1:h1.next=h.next+1:=by rw[eh1];simp
 have g1:h1.get h.next=some [v]:=by rw[eh1];exact vk rfl
 have rd1:=rd.mono fun i c q=>hx0 i c q
 have hv1:∀x∈l,wS h1 x∧x.2.sc=true:=fun x hx=>⟨(hv x hx).1.mono hx0,(hv x hx).2⟩
 have rdb1:Rd h1 w (ints bs):=rdb.mono fun i c q=>hx0 i c q
 have k1:=D3 h1 v l hvs hn rd1 hv1
 have k2:=JP h1 w bs rdb1 hbs
 unfold Lu
 cases hm:vY (l.map (·.1))with
 | false =>
   rw[hm]at k1
   refine tM (fn:=AP.f199) (h2:=h1) (e:=[(4,.aO),(5,.int .i64 1600)]) (vs:=[.aO,.int .i64 1600]) rfl rfl rfl ?_ rfl rfl
   clear rd rd1 hv hv1 hx0 rdb rdb1
   simp (disch:=omega)only[go_sem,vh,AP.f199,hvs,hn0,←eh1,g1,wM,k1,k2]
 | true =>
   rw[hm]at k1
   cases hb:yz bs with
   | false =>
     rw[hb]at k2
     refine tM (fn:=AP.f199) (h2:=h1) (e:=[(4,.aO),(5,.int .i64 1600)]) (vs:=[.aO,.int .i64 1600]) rfl rfl rfl ?_ rfl rfl
     clear rd rd1 hv hv1 hx0 rdb rdb1
     simp (disch:=omega)only[go_sem,vh,AP.f199,hvs,hn0,←eh1,g1,wM,k1,k2]
   | true =>
     rw[hb]at k2
     obtain⟨bf,nd⟩:=Bm hb
     have b8:bs.length≤8:=by
      have sub:bs.Subset [0,1,2,3,4,5,6,7]:=fun y hy=>by
       have:=bf y hy
       simp only[uW,List.not_mem_nil,or_false]
       omega
      have:=List.Nodup.length_le_of_subset nd sub
      simpa using this
     obtain⟨e',h2,ov,acc,r1,r2,r3,r4,r5,r6⟩:=EL hm h1 h.next g1 rd1 hv1 rdb1 b8 nd l [] rfl h1 .aO [] (Ext.refl _) (by omega) (uF _) vM.nil rfl (fun y hy=>by cases hy) (fun j q=>by cases q) (by omega) rfl
     have r1':Lp AP.A [1,2,6,7] AP.f199L1 [(1,w),(2,.aC h.next 0),(6,.aO),(7,.int .i64 0)] h1=some (.exit 0,e',h2):=r1
     refine tM (fn:=AP.f199) (h2:=h2) (e:=[(4,ov),(5,.int .i64 0)]) (vs:=[ov,.int .i64 0]) rfl rfl rfl ?_ rfl ?_
     · clear rd rd1 hv hv1 hx0 rdb rdb1 r1 r3 r4 r5
       simp (disch:=omega)only[go_sem,vh,AP.f199,hvs,hn0,←eh1,g1,wM,k1,k2,rR,r1',r2]
     · have al:=Vi List.length r4
       rw[UW]at al
       have s:snap h2.get h.next 15 true ov=some (Ah (vL (l.map (·.1)) bs)):=by
        unfold Ah DI
        obtain⟨q0,⟨q1,q2⟩|⟨j,q1,q2,q3,q4⟩⟩:=r3
        · rw[q1,←al,q2];rfl
        · rw[q1,if_neg (by omega)]
          show(if j<h.next then _ else _)=_
          rw[if_neg (by rw[r6,f1]at q3;omega),q2,uC,if_pos (by rw[AQ];omega),U1,uU (by rw[AQ];exact uF _)]
          have:=DJ (h:=h2) (fl:=h.next) (h0:=h1) (ov:=ov) (by omega) 11 r5
          rw[this,r4,al];rfl
       show(fJ (snap h2.get h.next 15 true) [ov,.int .i64 0]).bind _=_
       simp only[fJ,s,uC]
       rfl
instance:DecidableEq vQ:=fun a b=>decidable_of_iff _ (Aa a b)
theorem GK {v w : AV} {a b : List vF} (hab : a.length = b.length) (hl : a.length < 1125899906842624) (h : H) (ra : wO 9 h v a.length (vD a)) (rb : wO 9 h w b.length (vD b)) (ha : ∀ x ∈ a, wS h x ∧ x.2.sc = true) (hb : ∀ x ∈ b, wS h x ∧ x.2.sc = true) : ∀ (q r p p' : List vF), a = p ++ q → b = p' ++ r → p.length = p'.length →
 (∃e',Lp AP.A [0,1,5] AP.f207L0 [(0,v),(1,w),(5,.int .i64 p.length)] h=some (.exit 0,e',h)∧q.map (·.1)=r.map (·.1))∨
 (∃e',Lp AP.A [0,1,5] AP.f207L0 [(0,v),(1,w),(5,.int .i64 p.length)] h=some (.ret,e',h)∧look e' 4=.bool false∧q.map (·.1)≠r.map (·.1))
 | [], r, p, p', hp, hr, hpp => by
   rw[UX]at hp;subst hp
   have h1:b.length=p'.length+r.length:=by rw[hr];simp
   have hr0:r=[]:=U2 (by omega)
   have ln:=ra.len
   refine .inl ⟨[(0,v),(1,w),(5,.int .i64 a.length),(14,.bool false)],sY ?_,by rw[hr0]⟩
   simp (disch:=omega)only[go_sem,vh,AP.f207L0,ln]
 | x :: q, [], p, p', hp, hr, hpp => by
   exfalso
   have h1:a.length=p.length+(q.length+1):=by rw[hp];simp
   have h2:b.length=p'.length:=by rw[hr];simp
   omega
 | x :: q, y :: r, p, p', hp, hr, hpp => by
   have h1:a.length=p.length+(q.length+1):=by rw[hp];simp
   have hx:a[p.length]?=some x:=by rw[hp];simp
   have hy:b[p.length]?=some y:=by rw[hr,hpp];simp
   have ln:=ra.len
   obtain⟨ad,a1,a2⟩:=ra.FB
   obtain⟨bd,b1,b2⟩:=rb.FB
   have a3:=a1 p.length ⟨by omega,by omega⟩
   have b3:=b1 p.length ⟨by omega,by omega⟩
   obtain⟨_,a4⟩:=a2 h (Ext.refl h) p.length x hx
   obtain⟨_,b4⟩:=b2 h (Ext.refl h) p.length y hy
   obtain⟨ox,sx⟩:=ha x (by rw[hp];simp)
   obtain⟨oy,sy⟩:=hb y (by rw[hr];simp)
   have k1:=Ky h x.1 y.1 x.2 y.2 sx sy ox oy
   have ih:=GK hab hl h ra rb ha hb q r (p++[x]) (p'++[y]) (by rw[hp];simp) (by rw[hr];simp) (by simp [hpp])
   have w1:((p++[x]).length:Int)=(p.length:Int)+1:=by simp
   rw[w1]at ih
   rw[U5,U5]
   cases hk:Be x.1 y.1 with
   | true =>
     rw[hk]at k1
     have e:=(Aa _ _).1 hk
     have step:aK (aQ AP.A) bz AP.f207L0 (ax [(0,v),(1,w),(5,.int .i64 p.length)] [0,1,5]) h=some (.normal,[(0,v),(1,w),(5,.int .i64 ((p.length:Int)+1))],h):=by
      clear ih ra rb a1 a2 b1 b2 ha hb ox oy hp hr e
      generalize vq x.1 x.2=E at *
      generalize vq y.1 y.2=F at *
      simp (disch:=omega)only[go_sem,vh,AP.f207L0,ln,a3,a4,b3,b4,k1]
     rcases ih with ⟨e',r1,r2⟩|⟨e',r1,r2,r3⟩
     · exact .inl ⟨e',sZ step r1,by rw[e,r2]⟩
     · exact .inr ⟨e',sZ step r1,r2,fun q=>r3 (List.cons.inj q).2⟩
   | false =>
     rw[hk]at k1
     refine .inr ⟨[(4,.bool false)],tC ?_,rfl,fun q=>by
      have:=(Aa x.1 y.1).2 (List.cons.inj q).1
      rw[hk]at this;cases this⟩
     clear ih ra rb a1 a2 b1 b2 ha hb ox oy hp hr
     generalize vq x.1 x.2=E at *
     generalize vq y.1 y.2=F at *
     simp (disch:=omega)only[go_sem,vh,AP.f207L0,ln,a3,a4,b3,b4,k1]
theorem Fk (h:H) (v w:AV) (a b:List vF) (hl:a.length<1125899906842624) (ra:wO 9 h v a.length (vD a)) (rb:wO 9 h w b.length (vD b)) (ha:∀x∈a,wS h x∧x.2.sc=true) (hb:∀x∈b,wS h x∧x.2.sc=true):aQ AP.A 207 [v,w] h=some (.bool (decide (a.map (·.1)=b.map (·.1))),h):=by
 have xf:Ext h h.dX:=fun i c q=>q
 have ra':=ra.mono fun i c q=>xf i c q
 have rb':=rb.mono fun i c q=>xf i c q
 have l1:=ra'.len
 have l2:=rb'.len
 by_cases c:a.length=b.length
 · have c':(a.length:Int)=b.length:=by omega
   rcases GK c hl h.dX ra' rb' (fun x hx=>⟨(ha x hx).1.mono xf,(ha x hx).2⟩) (fun x hx=>⟨(hb x hx).1.mono xf,(hb x hx).2⟩) a b [] [] rfl rfl rfl with ⟨e',r1,r2⟩|⟨e',r1,r2,r3⟩
   · have r1':Lp AP.A [0,1,5] AP.f207L0 [(0,v),(1,w),(5,.int .i64 0)] h.dX=some (.exit 0,e',h.dX):=r1
     rw[dt r2]
     refine tM (fn:=AP.f207) (h2:=h.dX) (e:=[(4,.bool true)]) rfl rfl rfl ?_ rfl rfl
     clear ra rb ra' rb' ha hb r1 r2
     simp (disch:=omega)only[go_sem,vh,AP.f207,l1,l2,rR,r1']
   · have r1':Lp AP.A [0,1,5] AP.f207L0 [(0,v),(1,w),(5,.int .i64 0)] h.dX=some (.ret,e',h.dX):=r1
     rw[df r3]
     refine tM (fn:=AP.f207) (h2:=h.dX) (e:=e') (vs:=[.bool false]) rfl rfl rfl ?_ (by simp only[AP.f207,cL,mQ,r2];rfl) rfl
     clear ra rb ra' rb' ha hb r1 r3
     simp (disch:=omega)only[go_sem,vh,AP.f207,l1,l2,rR,r1']
 · have c':¬(a.length:Int)=b.length:=by omega
   have e:a.map (·.1)≠b.map (·.1):=fun q=>c (by have:=Vi List.length q;simpa using this)
   rw[df e]
   refine tM (fn:=AP.f207) (h2:=h.dX) (e:=[(4,.bool false)]) rfl rfl rfl ?_ rfl rfl
   clear ra rb ra' rb' ha hb
   simp (disch:=omega)only[go_sem,vh,AP.f207,l1,l2]
def AH (n:Nat):aF:=(.seq (.oI [⟨(some 11),.bin .lss (.t 10) (.t 9),none⟩] [0,1,2,9,10,11]) (.seq (.cond (.t 11) (.skip) (.exit 0) [0,1,2,9,10]) (.seq (.block 1 (.seq (.oI [⟨(some 12),.mv (.t 10),none⟩,⟨(some 7),.mv (.t 12),none⟩] [0,1,2,7,9,10]) (.seq (.iS [0,1,2,3,4,5,6,7,8,9,10,11,12,13,14,15,16,17,18,19,20,21,22,23,24] [⟨(some 13),.mv (.t 2),none⟩,⟨(some 14),.mv (.t 0),none⟩,⟨(some 15),.mv (.t 7),none⟩,⟨(some 16),.nJ n (.t 14) (.t 15),none⟩,⟨(some 17),.call (.t 13) [(.t 16)],none⟩,⟨(some 18),.call (.c (.fn 121 [] [])) [(.t 17)],none⟩,⟨(some 19),.not (.t 18),none⟩,⟨(some 20),.mv (.t 19),none⟩,⟨(some 21),.mv (.t 7),(some (20,false))⟩,⟨(some 22),.bin .gtr (.t 21) (.c (.int .i64 0)),(some (20,false))⟩,⟨(some 23),.mv (.t 22),(some (20,false))⟩,⟨(some 24),.mv (.t 2),(some (23,true))⟩,⟨(some 25),.mv (.t 0),(some (23,true))⟩,⟨(some 26),.mv (.t 7),(some (23,true))⟩,⟨(some 27),.bin .sub (.t 26) (.c (.int .i64 1)),(some (23,true))⟩,⟨(some 28),.nJ n (.t 25) (.t 27),(some (23,true))⟩,⟨(some 29),.call (.t 24) [(.t 28)],(some (23,true))⟩,⟨(some 30),.mv (.t 2),(some (23,true))⟩,⟨(some 31),.mv (.t 0),(some (23,true))⟩,⟨(some 32),.mv (.t 7),(some (23,true))⟩,⟨(some 33),.nJ n (.t 31) (.t 32),(some (23,true))⟩,⟨(some 34),.call (.t 30) [(.t 33)],(some (23,true))⟩,⟨(some 35),.bin .geq (.t 29) (.t 34),(some (23,true))⟩,⟨(some 36),.pick (.t 23) (.t 35) (.c (.bool false)),(some (20,false))⟩,⟨(some 37),.pick (.t 20) (.c (.bool true)) (.t 36),none⟩] [] [0,1,2,9,10,37]) (.cond (.t 37) (.seq (.oI [⟨(some 6),.mv (.c (.bool false)),none⟩] [6]) (.ret)) (.skip) [0,1,2,9,10]))) [0,1,2,9,10]) (.oI [⟨(some 38),.bin .add (.t 10) (.c (.int .i64 1)),none⟩,⟨(some 10),.mv (.t 38),none⟩] [0,1,2,9,10]))))
def D5 (n:Nat):aF:=(.seq (.oI [⟨(some 9),.bin .lss (.t 8) (.t 7),none⟩] [0,1,7,8,9]) (.seq (.cond (.t 9) (.skip) (.exit 0) [0,1,7,8]) (.seq (.block 1 (.seq (.oI [⟨(some 10),.mv (.t 8),none⟩,⟨(some 5),.mv (.t 10),none⟩] [0,1,5,7,8]) (.seq (.oI [⟨(some 11),.mv (.t 1),none⟩,⟨(some 12),.mv (.t 0),none⟩,⟨(some 13),.mv (.t 5),none⟩,⟨(some 14),.nJ n (.t 12) (.t 13),none⟩,⟨(some 15),.load true n (.t 14),none⟩,⟨(some 16),.call (.t 11) [(.t 15)],none⟩] [0,1,5,7,8,16]) (.cond (.t 16) (.seq (.oI [⟨(some 17),.mv (.t 5),none⟩,⟨(some 4),.mv (.t 17),none⟩] [4]) (.ret)) (.skip) [0,1,7,8]))) [0,1,7,8]) (.oI [⟨(some 18),.bin .add (.t 8) (.c (.int .i64 1)),none⟩,⟨(some 8),.mv (.t 18),none⟩] [0,1,7,8]))))
def Cn (p:Option ByteArray) (s:ByteArray):Bool:=match p with|none=>true|some q=>Op.bytesLess q.toList s.toList
theorem GF (p:Option ByteArray) (s:ByteArray) (r:List ByteArray):wD p (s::r)=((wo s&&Cn p s)&&wD (some s) r):=by cases p<;>rfl
theorem DD {v : AV} {k sz : Nat} {least : AV} {ns : List ByteArray} (hn : ns.length < 1125899906842624) (hs : ∀ s ∈ ns, s.size < 1125899906842624) (h : H) (ad : Int → AV) (ha : ∀ i : Int, 0 ≤ i ∧ i < ns.length → fU sz v (.int .i64 i) = some (ad i))
 (hk:∀(i:Nat) (s:ByteArray),ns[i]?=some s→aQ AP.A k [ad i] h=some (.str s,h)):∀(q p:List ByteArray),ns=p++q→
 (∃e',Lp AP.A [0,1,2,9,10] (AH sz) [(0,v),(1,least),(2,.fn k [] []),(9,.int .i64 ns.length),(10,.int .i64 p.length)] h=some (.exit 0,e',h)∧look e' 0=v∧look e' 1=least∧wD p.getLast? q=true)∨
 (∃e',Lp AP.A [0,1,2,9,10] (AH sz) [(0,v),(1,least),(2,.fn k [] []),(9,.int .i64 ns.length),(10,.int .i64 p.length)] h=some (.ret,e',h)∧look e' 6=.bool false∧wD p.getLast? q=false)
 | [], p, hp => by
   rw[UX]at hp;subst hp
   refine .inl ⟨[(0,v),(1,least),(2,.fn k [] []),(9,.int .i64 ns.length),(10,.int .i64 ns.length),(11,.bool false)],sY ?_,rfl,rfl,rfl⟩
   simp (disch:=omega)only[go_sem,vh,AH]
 | s :: q, p, hp => by
   have hlen:ns.length=p.length+(q.length+1):=by rw[hp];simp
   have hx:ns[p.length]?=some s:=by rw[hp];simp
   have b1:=ha p.length ⟨by omega,by omega⟩
   have b2:=hk p.length s hx
   have k1:=IQ h s (hs s (by rw[hp];simp))
   have ih:=DD (least:=least) hn hs h ad ha hk q (p++[s]) (by rw[hp];simp)
   have w1:(((p++[s]).length:Nat):Int)=(p.length:Int)+1:=by simp
   rw[w1,List.getLast?_concat]at ih
   rw[GF]
   have step:aK (aQ AP.A) bz (AH sz) (ax [(0,v),(1,least),(2,.fn k [] []),(9,.int .i64 ns.length),(10,.int .i64 p.length)] [0,1,2,9,10]) h=if(wo s&&Cn p.getLast? s)=true then some (.normal,[(0,v),(1,least),(2,.fn k [] []),(9,.int .i64 ns.length),(10,.int .i64 ((p.length:Int)+1))],h)else some (.ret,[(6,.bool false)],h):=by
    cases hl:p.getLast? with
    | none =>
      have hp1:p.length=0:=by rw[List.getLast?_eq_none_iff.1 hl];rfl
      clear ih w1 hp hx
      rw[show Cn none s=true from rfl]
      generalize wo s=B1 at *
      cases B1<;>simp only[UZ,Ve,U7,if_true,uD,u0]<;>simp (disch:=omega)only[go_sem,vh,AH,b1,b2,k1,nv]
    | some y =>
      obtain⟨p',rfl⟩:∃p',p=p'++[y]:=List.getLast?_eq_some_iff.1 hl
      have hpl:(p'++[y]).length=p'.length+1:=by simp
      have hy:ns[p'.length]?=some y:=by rw[hp];simp
      have bj:=ha p'.length ⟨by omega,by omega⟩
      have kj:=hk p'.length y hy
      have cmp:bp .geq (.str y) (.str s)=some (.bool (!(Op.bytesLess y.toList s.toList))):=rfl
      have n2:(((p'++[y]).length:Nat):Int)-1=(p'.length:Int):=by rw[hpl];omega
      clear ih w1 hp hx hy
      rw[show Cn (some y) s=Op.bytesLess y.toList s.toList from rfl]
      generalize Op.bytesLess y.toList s.toList=B2 at *
      generalize wo s=B1 at *
      generalize (p'++[y]).length=pl at *
      cases B1<;>cases B2<;>simp only[UZ,Ve,U3,U7,if_true,uD,u0]<;>simp (disch:=omega)only[go_sem,vh,AH,b1,b2,k1,bj,kj,cmp,n2,nv]
   generalize (wo s&&Cn p.getLast? s)=ok at *
   cases ok with
   | true =>
     rw[if_pos rfl]at step
     rw[U7]
     rcases ih with ⟨e',r1,r2,r3,r4⟩|⟨e',r1,r2,r3⟩
     · exact .inl ⟨e',sZ step r1,r2,r3,r4⟩
     · exact .inr ⟨e',sZ step r1,r2,r3⟩
   | false =>
     rw[if_neg (by decide)]at step
     rw[UZ]
     exact .inr ⟨_,tC step,rfl,rfl⟩
def CI (n:Nat):fh:={np:=3,res:=[.tmp 6],pure:=true,body:=(.seq (.oI [⟨(some 6),.mv (.c (.bool false)),none⟩] [0,1,2]) (.seq (.seq (.oI [⟨(some 8),.mv (.t 0),none⟩,⟨(some 9),.len false (.t 8),none⟩,⟨(some 10),.mv (.c (.int .i64 0)),none⟩] [0,1,2,9,10]) (.block 0 (.loop [0,1,2,9,10] (AH n)) [0,1])) (.seq (.oI [⟨(some 39),.mv (.t 0),none⟩,⟨(some 40),.len false (.t 39),none⟩,⟨(some 41),.mv (.t 1),none⟩,⟨(some 42),.bin .geq (.t 40) (.t 41),none⟩,⟨(some 43),.mv (.t 42),none⟩,⟨(some 44),.mv (.t 0),(some (43,true))⟩,⟨(some 45),.len false (.t 44),(some (43,true))⟩,⟨(some 46),.bin .leq (.t 45) (.c (.int .i64 6)),(some (43,true))⟩,⟨(some 47),.pick (.t 43) (.t 46) (.c (.bool false)),none⟩,⟨(some 6),.mv (.t 47),none⟩] [6]) (.ret))))}
theorem Ej {f sz k:Nat} (hf:AP.A f=some (CI sz)) {v:AV} {least:Int} {ns:List ByteArray} (hn:ns.length<1125899906842624) (hs:∀s∈ns,s.size<1125899906842624) (h:H) (ln:jc false v=some (.int .i64 ns.length)) (ad:Int→AV) (ha:∀i:Int,0≤i∧i<ns.length→fU sz v (.int .i64 i)=some (ad i))
 (hk:∀(i:Nat) (s:ByteArray),ns[i]?=some s→aQ AP.A k [ad i] h.dX=some (.str s,h.dX)):aQ AP.A f [v,.int .i64 least,.fn k [] []] h=some (.bool (wD none ns&&(decide (least≤ns.length)&&decide (ns.length≤6))),h):=by
 rcases DD (least:=.int .i64 least) hn hs h.dX ad ha hk ns [] rfl with ⟨e',r1,r2,r3,r4⟩|⟨e',r1,r2,r3⟩
 · have r1':Lp AP.A [0,1,2,9,10] (AH sz) [(0,v),(1,.int .i64 least),(2,.fn k [] []),(9,.int .i64 ns.length),(10,.int .i64 0)] h.dX=some (.exit 0,e',h.dX):=r1
   have r4':wD none ns=true:=r4
   rw[r4',U7]
   refine tM (fn:=CI sz) (h2:=h.dX) (e:=[(6,.bool (decide (least≤ns.length)&&decide (ns.length≤6)))]) hf rfl rfl ?_ rfl rfl
   clear ha hk r1 r4 r4'
   by_cases c1:least≤(ns.length:Int)
   · by_cases c2:ns.length≤6<;>simp (disch:=omega)only[go_sem,vh,CI,ln,rR,r1',r2,r3]
   · simp (disch:=omega)only[go_sem,vh,CI,ln,rR,r1',r2,r3]
 · have r1':Lp AP.A [0,1,2,9,10] (AH sz) [(0,v),(1,.int .i64 least),(2,.fn k [] []),(9,.int .i64 ns.length),(10,.int .i64 0)] h.dX=some (.ret,e',h.dX):=r1
   have r4':wD none ns=false:=r3
   rw[r4',UZ]
   refine tM (fn:=CI sz) (h2:=h.dX) (e:=e') (vs:=[.bool false]) hf rfl rfl ?_ (by simp only[CI,cL,mQ,r2];rfl) rfl
   clear ha hk r1 r3 r4'
   simp (disch:=omega)only[go_sem,vh,CI,ln,rR,r1']
theorem EV {v : AV} {k sz n : Nat} {B : Nat → Bool} (hn : n < 1125899906842624) (h : H) (ad : Int → AV) (el : Nat → AV) (ha : ∀ i : Int, 0 ≤ i ∧ i < n → fU sz v (.int .i64 i) = some (ad i)) (hl : ∀ i : Nat, i < n → bS true sz (ad i) h = some (el i))
 (hk:∀i,i<n→aQ AP.A k [el i] h=some (.bool (B i),h)):∀(m i:Nat),i+m=n→
 (∃e',Lp AP.A [0,1,7,8] (D5 sz) [(0,v),(1,.fn k [] []),(7,.int .i64 n),(8,.int .i64 i)] h=some (.exit 0,e',h)∧∀j,i≤j→j<n→B j=false)∨
 (∃e',Lp AP.A [0,1,7,8] (D5 sz) [(0,v),(1,.fn k [] []),(7,.int .i64 n),(8,.int .i64 i)] h=some (.ret,e',h)∧(∃j:Nat,look e' 4=.int .i64 j∧j<n∧B j=true))
 | 0, i, hi => by
   obtain rfl:i=n:=by omega
   refine .inl ⟨[(0,v),(1,.fn k [] []),(7,.int .i64 i),(8,.int .i64 i),(9,.bool false)],sY ?_,fun j h1 h2=>by omega⟩
   clear ha hl hk
   simp (disch:=omega)only[go_sem,vh,D5]
 | m + 1, i, hi => by
   have b1:=ha i ⟨by omega,by omega⟩
   have b2:=hl i (by omega)
   have k1:=hk i (by omega)
   have ih:=EV hn h ad el ha hl hk m (i+1) (by omega)
   have w1:((i+1:Nat):Int)=(i:Int)+1:=by omega
   rw[w1]at ih
   cases c:B i with
   | true =>
     rw[c]at k1
     refine .inr ⟨[(4,.int .i64 i)],tC ?_,i,rfl,by omega,c⟩
     clear ha hl hk ih
     simp (disch:=omega)only[go_sem,vh,D5,b1,b2,k1,nv]
   | false =>
     rw[c]at k1
     have step:aK (aQ AP.A) bz (D5 sz) (ax [(0,v),(1,.fn k [] []),(7,.int .i64 n),(8,.int .i64 i)] [0,1,7,8]) h=some (.normal,[(0,v),(1,.fn k [] []),(7,.int .i64 n),(8,.int .i64 ((i:Int)+1))],h):=by
      clear ha hl hk ih
      simp (disch:=omega)only[go_sem,vh,D5,b1,b2,k1,nv]
     rcases ih with ⟨e',r1,r2⟩|⟨e',r1,r2⟩
     · exact .inl ⟨e',sZ step r1,fun j h1 h2=>by
        by_cases q:j=i
        · rw[q];exact c
        · exact r2 j (by omega) h2⟩
     · exact .inr ⟨e',sZ step r1,r2⟩
def HB (n:Nat):fh:={np:=2,res:=[.tmp 4],pure:=true,body:=(.seq (.oI [⟨(some 4),.mv (.c (.int .i64 0)),none⟩] [0,1]) (.seq (.seq (.oI [⟨(some 6),.mv (.t 0),none⟩,⟨(some 7),.len false (.t 6),none⟩,⟨(some 8),.mv (.c (.int .i64 0)),none⟩] [0,1,7,8]) (.block 0 (.loop [0,1,7,8] (D5 n)) [])) (.seq (.oI [⟨(some 4),.mv (.c (.int .i64 (-1))),none⟩] [4]) (.ret))))}
def SY (g:Nat):fh:={np:=2,res:=[.tmp 4],pure:=true,body:=(.seq (.oI [⟨(some 4),.mv (.c (.bool false)),none⟩] [0,1]) (.seq (.oI [⟨(some 5),.mv (.t 0),none⟩,⟨(some 6),.mv (.t 1),none⟩,⟨(some 7),.call (.c (.fn g [] [])) [(.t 5),(.t 6)],none⟩,⟨(some 8),.bin .geq (.t 7) (.c (.int .i64 0)),none⟩,⟨(some 4),.mv (.t 8),none⟩] [4]) (.ret)))}
theorem Gd {f g sz k n:Nat} (hf:AP.A f=some (SY g)) (hg:AP.A g=some (HB sz)) {v:AV} {B:Nat→Bool} (hn:n<1125899906842624) (h:H) (ln:jc false v=some (.int .i64 n)) (ad:Int→AV) (el:Nat→AV) (ha:∀i:Int,0≤i∧i<n→fU sz v (.int .i64 i)=some (ad i)) (hl:∀i:Nat,i<n→bS true sz (ad i) h=some (el i))
 (hk:∀(g:H),Ext h g→g.next=h.next→g.floor=g.next→∀i,i<n→aQ AP.A k [el i] g=some (.bool (B i),g)):∃b,aQ AP.A f [v,.fn k [] []] h=some (.bool b,h)∧(b=false↔∀j,j<n→B j=false):=by
 have k1:∃j:Int,aQ AP.A g [v,.fn k [] []] h.dX=some (.int .i64 j,h.dX)∧(j<0↔∀j,j<n→B j=false):=by
  have hl':∀i:Nat,i<n→bS true sz (ad i) h.dX.dX=some (el i):=fun i hi=>by
   have:=hl i hi
   unfold bS at this ⊢
   cases hq:ad i<;>rw[hq]at this<;>first|exact this|cases this
  rcases EV hn h.dX.dX ad el ha hl' (hk h.dX.dX (fun i c q=>q) rfl rfl) n 0 (by omega)with ⟨e',r1,r2⟩|⟨e',r1,j,r2,r3,r4⟩
  · have r1':Lp AP.A [0,1,7,8] (D5 sz) [(0,v),(1,.fn k [] []),(7,.int .i64 n),(8,.int .i64 0)] h.dX.dX=some (.exit 0,e',h.dX.dX):=r1
    refine⟨-1,tM (fn:=HB sz) (h2:=h.dX.dX) (e:=[(4,.int .i64 (-1))]) hg rfl rfl ?_ rfl rfl,by simp only[Int.reduceNeg,Int.reduceLT,true_iff];exact fun j hj=>r2 j (by omega) hj⟩
    clear ha hl hl' hk r1 r2
    simp (disch:=omega)only[go_sem,vh,HB,ln,rR,r1']
  · have r1':Lp AP.A [0,1,7,8] (D5 sz) [(0,v),(1,.fn k [] []),(7,.int .i64 n),(8,.int .i64 0)] h.dX.dX=some (.ret,e',h.dX.dX):=r1
    refine⟨j,tM (fn:=HB sz) (h2:=h.dX.dX) (e:=e') (vs:=[.int .i64 j]) hg rfl rfl ?_ (by simp only[HB,cL,mQ,r2];rfl) rfl,⟨fun q=>by omega,fun q=>by rw[q j r3]at r4;cases r4⟩⟩
    clear ha hl hl' hk r1 r2
    simp (disch:=omega)only[go_sem,vh,HB,ln,rR,r1']
 obtain⟨j,k1,k2⟩:=k1
 refine⟨decide (0≤j),tM (fn:=SY g) (h2:=h.dX) (e:=[(4,.bool (decide (0≤j)))]) hf rfl rfl ?_ rfl rfl,by rw[←k2,decide_eq_false_iff_not];omega⟩
 clear ha hl hk k2 ln
 by_cases c:0≤j<;>simp (disch:=omega)only[go_sem,vh,SY,k1]
def pk:List Nat→Nat
 |[]=>0
 |b::l=>b^^^(pk l* 2^8)
theorem Kk (e : vQ) : wG e = (wo e.name && (wg e && wV e) && (e.gone || (match xM e.method e.packed e.size with | some t => decide ((xE t : Int) = e.yI) | none => false))) := by
 unfold wG y6
 have hm:wR [e]=(wo e.name&&(wg e&&wV e)):=by simp [wR,xi,Aq]
 rw[hm]
 cases (wo e.name&&(wg e&&wV e))with
 |false=>rfl
 | true =>
   rw[if_neg (by decide)]
   cases e.gone with
   |true=>rfl
   | false =>
     rw[if_neg (by decide)]
     cases xM e.method e.packed e.size with
     |none=>rfl
     | some t =>
       dsimp only
       by_cases c:(xE t:Int)=e.yI
       · rw[if_pos c];simp [c]
       · rw[if_neg c];simp [c]
def xX (l:List ByteArray):List AV:=l.map .str
theorem w9 (l:List ByteArray):(xX l).length=l.length:=by simp [xX]
theorem Rd.BK {h:H} {v:AV} {l:List ByteArray} (r:Rd h v (xX l)):∃ad:Int→AV,(∀i:Int,0≤i∧i<l.length→fU 1 v (.int .i64 i)=some (ad i))∧(∀(i:Int) (g:H),0≤i∧i<l.length→jz g (ad i)=some (ad i,g))∧
 ∀g:H,Ext h g→∀(i:Nat) (s:ByteArray),l[i]?=some s→bS false 1 (ad i) g=some (.str s):=by
 have r2:=r.Ef
 rw[w9]at r2
 obtain⟨ad,a1,_,a4,a3⟩:=r2.at_
 refine⟨fun i=>ad i 0,a1,fun i g hi=>a4 i 0 g hi,fun g hg i n hn=> ?_⟩
 have hi:i<l.length:=(uB.1 hn).1
 refine(a3 g hg).1 i 0 _ ⟨by omega,by omega⟩ ?_
 rw[xc,Vk,Vg]
 simp [xX,hn]
structure wc where
 m:zj
 vd:AV
 vb:AV
 vf:AV
 vn:AV
 ve:AV
 fs:List xO
 es:List vF
def u9 (x:wc):List AV:=[.int .i64 x.m.kind,.int .i64 x.m.src,.int .i64 x.m.dst,.int .i64 x.m.root,x.vd,x.vb,x.vf,x.vn,x.ve]
structure zl (h:H) (x:wc):Prop where
 rd:Rd h x.vd (ints x.m.wA)
 rb:Rd h x.vb (ints x.m.wF)
 rf:Hb h x.vf x.fs
 hf:x.fs.map (·.1)=x.m.vt
 rn:Rd h x.vn (xX x.m.names)
 re:wO 9 h x.ve x.es.length (vD x.es)
 he:x.es.map (·.1)=x.m.wj
 ve:∀y∈x.es,wS h y∧y.2.sc=true
 vf:∀y∈x.fs,y.2.sc=true
 sc:x.vd.sc=true∧x.vb.sc=true∧x.vf.sc=true∧x.vn.sc=true∧x.ve.sc=true
 zd:x.m.wA.length<140737488355328
 zb:x.m.wF.length<140737488355328
 zf:x.m.vt.length<140737488355328
 zn:x.m.names.length<140737488355328
 ze:x.m.wj.length<140737488355328
 zs:(∀s∈x.m.names,s.size<1125899906842624)∧∀b∈x.m.vt,b.1.size<1125899906842624
theorem zl.mono {h g:H} {x:wc} (o:zl h x) (e:Ext h g):zl g x:=
 ⟨o.rd.mono fun i c q=>e i c q,o.rb.mono fun i c q=>e i c q,o.rf.mono e,o.hf,o.rn.mono fun i c q=>e i c q,o.re.mono fun i c q=>e i c q,o.he,fun y hy=>⟨(o.ve y hy).1.mono e,(o.ve y hy).2⟩,o.vf,o.sc,o.zd,o.zb,o.zf,o.zn,o.ze,o.zs⟩
def vB:wc:=⟨⟨0,0,0,0,[],[],[],[],[]⟩,.aO,.aO,.aO,.aO,.aO,[],[]⟩
theorem Cu (x:wc):(u9 x).length=9:=rfl
theorem yo {h:H} {x:wc} (o:zl h x):AV.aB (u9 x)=true:=by
 obtain⟨a,b,c,d,e⟩:=o.sc
 simp [u9,a,b,c,d,e]
theorem Pw {m:zj} (h:m.kind=0):yB m=decide (((((m.wA.length:Int)+m.wF.length)+m.vt.length)+m.names.length)+m.wj.length=0):=by
 rw[yB,h];generalize m.wA.length=a;generalize m.wF.length=b;generalize m.vt.length=c;generalize m.names.length=d;generalize m.wj.length=e;rw[Bool.eq_iff_iff];simp;omega
theorem Px {m:zj} (h:m.kind=1):yB m=(decide (m.root=0)&&decide ((((0+(m.wF.length:Int))+m.vt.length)+m.names.length)+m.wj.length=0)):=by
 rw[yB,h];generalize m.wA.length=a;generalize m.wF.length=b;generalize m.vt.length=c;generalize m.names.length=d;generalize m.wj.length=e;rw[Bool.eq_iff_iff];simp;omega
theorem Py {m:zj} (h:m.kind=2):yB m=(decide (m.root=0)&&decide (((((m.wA.length:Int)+0)+0)+m.names.length)+m.wj.length=0)):=by
 rw[yB,h];generalize m.wA.length=a;generalize m.wF.length=b;generalize m.vt.length=c;generalize m.names.length=d;generalize m.wj.length=e;rw[Bool.eq_iff_iff];simp;omega
theorem lean_3 {m:zj} (h:m.kind=3):yB m=(decide (m.root=0)&&decide (((((m.wA.length:Int)+m.wF.length)+m.vt.length)+0)+m.wj.length=0)):=by
 rw[yB,h];generalize m.wA.length=a;generalize m.wF.length=b;generalize m.vt.length=c;generalize m.names.length=d;generalize m.wj.length=e;rw[Bool.eq_iff_iff];simp;omega
theorem Pz {m:zj} (h:m.kind=4):yB m=(decide (m.root=0)&&decide (((((m.wA.length:Int)+m.wF.length)+m.vt.length)+m.names.length)+0=0)):=by
 rw[yB,h];generalize m.wA.length=a;generalize m.wF.length=b;generalize m.vt.length=c;generalize m.names.length=d;generalize m.wj.length=e;rw[Bool.eq_iff_iff];simp;omega
theorem Fj : ∀ (l : List vQ) (p : Option vQ), (xi p l && l.all wG) = (wD (p.map (·.name)) (l.map (·.name)) && l.all wG)
 |[],_=>rfl
 | e :: l, p => by
   have ih:=Fj l (some e)
   rw[U5,GF,xi,Vl]
   cases hm:wG e with
   |false=>simp
   | true =>
     have hk:wg e=true∧wV e=true:=by
      rw[Kk]at hm
      simp only[IJ,uG]at hm
      exact hm.1.2
     have ek:xR p e=(wo e.name&&Cn (p.map (·.name)) e.name):=by
      unfold xR
      rw[hk.1,hk.2]
      cases p<;>simp [Cn]
     rw[ek,U7,Bool.and_assoc,ih];simp only[Bool.and_assoc];rfl
theorem KZ {h:H} {v:AV} {l:List xO} (r:Hb h v l):∃ad:Int→AV,(∀i:Int,0≤i∧i<l.length→fU 2 v (.int .i64 i)=some (ad i))∧(∀(i:Nat) (x:xO),l[i]?=some x→bS true 2 (ad i) h=some (.agg (JQ x))∧aQ AP.A 264 [ad i] h=some (.str x.1.1,h)):=by
 obtain⟨ad,a1,a2,a4,a3⟩:=r.rd.at_
 refine⟨fun i=>ad i 0,a1,fun i x hx=> ?_⟩
 have hi:i<l.length:=(uB.1 hx).1
 have hI:(0:Int)≤(i:Int)∧(i:Int)<l.length:=⟨by omega,by omega⟩
 have f:=a2 i 0 0 hI
 rw[Vg]at f
 have n:=a4 i 0 h hI
 have l0:=(a3 h fun _ _ q=>q).1 i 0 (.str x.1.1) hI (by
  rw[xc,show wv l=l.flatMap JQ from rfl,zu zI hx (by omega)];rfl)
 refine⟨?_,tr (fn:=AP.f264) (h2:=h) (e:=[(2,.str x.1.1)]) (vs:=[.str x.1.1]) rfl rfl rfl ?_ rfl⟩
 · rw[(a3 h fun _ _ q=>q).2 _ hI,xc,show wv l=l.flatMap JQ from rfl,D0 zI hx]
 · clear a1 a2 a3 a4
   simp (disch:=omega)only[go_sem,vh,AP.f264,n,f,l0]
theorem Sw {h:H} {v:AV} {l:List ByteArray} (r:Rd h v (xX l)):∃ad:Int→AV,(∀i:Int,0≤i∧i<l.length→fU 1 v (.int .i64 i)=some (ad i))∧∀(i:Nat) (s:ByteArray),l[i]?=some s→aQ AP.A 267 [ad i] h=some (.str s,h):=by
 obtain⟨ad,a1,a4,a3⟩:=r.BK
 refine⟨ad,a1,fun i s hs=> ?_⟩
 have hi:i<l.length:=(uB.1 hs).1
 have n:=a4 i h ⟨by omega,by omega⟩
 have l0:=a3 h (Ext.refl h) i s hs
 refine tr (fn:=AP.f267) (h2:=h) (e:=[(2,.str s)]) (vs:=[.str s]) rfl rfl rfl ?_ rfl
 clear a1 a3 a4
 simp (disch:=omega)only[go_sem,vh,AP.f267,n,l0]
theorem K0 {h:H} {v:AV} {l:List vF} (r:wO 9 h v l.length (vD l)):∃ad:Int→AV,(∀i:Int,0≤i∧i<l.length→fU 9 v (.int .i64 i)=some (ad i))∧(∀(i:Nat) (x:vF),l[i]?=some x→bS true 9 (ad i) h=some (.agg (vq x.1 x.2))∧aQ AP.A 270 [ad i] h=some (.str x.1.name,h)):=by
 obtain⟨ad,a1,a2⟩:=r.FB
 refine⟨fun i=>ad i 0,a1,fun i x hx=> ?_⟩
 obtain⟨pe,ld⟩:=a2 h (Ext.refl h) i x hx
 obtain⟨q,f1,f2⟩:=pe.th
 have n:=pe.nil
 have l0:=f2 h (Ext.refl h) 0 _ rfl
 refine⟨ld,tr (fn:=AP.f270) (h2:=h) (e:=[(2,.str x.1.name)]) (vs:=[.str x.1.name]) rfl rfl rfl ?_ rfl⟩
 clear a1 a2 pe f2
 simp (disch:=omega)only[go_sem,vh,AP.f270,n,f1,l0]
theorem Ku (h:H) {x:wc} (o:zl h x):aQ AP.A 263 [x.vf,.int .i64 0,.fn 264 [] []] h=some (.bool (wD none (x.m.vt.map (·.1))&&decide (x.m.vt.length≤6)),h):=by
 obtain⟨ad,a1,a2⟩:=KZ (o.mono (g:=h.dX) fun i c q=>q).rf
 have e:(x.m.vt.map (·.1)).length=x.fs.length:=by rw[←o.hf];simp
 have z:=o.zf
 have e2:x.m.vt.length=x.fs.length:=by rw[←o.hf];simp
 have:=Ej (f:=263) (sz:=2) (k:=264) rfl (v:=x.vf) (least:=0) (ns:=x.m.vt.map (·.1)) (by omega) (fun s hs=>by obtain⟨b,hb,rfl⟩:=U8.1 hs;exact o.zs.2 b hb) h (by rw[e];exact o.rf.rd.len) ad (fun i hi=>a1 i (by rw[e]at hi;exact hi)) (fun i s hs=>by
  rw[←o.hf,List.map_map,uO]at hs
  cases hx:x.fs[i]? with
  |none=>rw[hx]at hs;cases hs
  |some y=>rw[hx]at hs;obtain rfl:=uv hs;exact(a2 i y hx).2)
 rw[this,e,e2,dt (by omega),U7]
theorem Kw (h:H) {x:wc} (o:zl h x):aQ AP.A 266 [x.vn,.int .i64 1,.fn 267 [] []] h=some (.bool (wD none x.m.names&&(decide (1≤x.m.names.length)&&decide (x.m.names.length≤6))),h):=by
 obtain⟨ad,a1,a2⟩:=Sw (o.mono (g:=h.dX) fun i c q=>q).rn
 have z:=o.zn
 have ln:=o.rn.Ef.len
 rw[w9]at ln
 have:=Ej (f:=266) (sz:=1) (k:=267) rfl (v:=x.vn) (least:=1) (ns:=x.m.names) (by omega) o.zs.1 h ln ad a1 a2
 rw[this]
 congr 5
 rw[decide_eq_decide];omega
theorem Kv (h:H) {x:wc} (o:zl h x):aQ AP.A 269 [x.ve,.int .i64 1,.fn 270 [] []] h=some (.bool (wD none (x.m.wj.map (·.name))&&(decide (1≤x.m.wj.length)&&decide (x.m.wj.length≤6))),h):=by
 obtain⟨ad,a1,a2⟩:=K0 (o.mono (g:=h.dX) fun i c q=>q).re
 have e2:x.m.wj.length=x.es.length:=by rw[←o.he];simp
 have e:(x.m.wj.map (·.name)).length=x.es.length:=by simp [e2]
 have z:=o.ze
 have:=Ej (f:=269) (sz:=9) (k:=270) rfl (v:=x.ve) (least:=1) (ns:=x.m.wj.map (·.name)) (by omega) (fun s hs=>by
  obtain⟨b,hb,rfl⟩:=U8.1 hs
  rw[←o.he]at hb
  obtain⟨y,hy,rfl⟩:=U8.1 hb
  exact(o.ve y hy).1.nl) h (by rw[e];exact o.re.len) ad (fun i hi=>a1 i (by rw[e]at hi;exact hi)) (fun i s hs=>by
  rw[←o.he,List.map_map,uO]at hs
  cases hx:x.es[i]? with
  |none=>rw[hx]at hs;cases hs
  |some y=>rw[hx]at hs;obtain rfl:=uv hs;exact(a2 i y hx).2)
 rw[this,e,e2]
 congr 5
 rw[decide_eq_decide];omega
theorem H7 (h:H) (s:ByteArray) (v:AV) (l:List Int) (hv:v.sc=true) (rd:Rd h v (ints l)) (hl:l.length<1125899906842624):aQ AP.A 262 [.agg [.str s,v]] h=some (.bool (!xo l),h):=by
 obtain⟨h1,eh1⟩:∃g,g=h.dX.alloc [.str s,v]:=⟨_,rfl⟩
 have x1:Ext h h1:=fun i c q=>by rw[eh1];exact((Ext.refl h.dX).alloc _) i c q
 have g1:h1.get h.next=some [.str s,v]:=by rw[eh1];exact vk rfl
 have n0:h.dX.next=h.next:=rfl
 have k1:=GW h1 v l (rd.mono fun i c q=>x1 i c q) hl
 refine tM (fn:=AP.f262) (h2:=h1) (e:=[(2,.bool (!xo l))]) rfl rfl rfl ?_ rfl rfl
 clear rd x1
 simp (disch:=omega)only[go_sem,vh,AP.f262,hv,n0,←eh1,g1,k1]
theorem JU (h : H) {x : wc} (o : zl h x) : aQ AP.A 265 [x.vf, .fn 262 [] []] h = some (.bool (!x.m.vt.all fun b => xo b.2), h) := by
 obtain⟨ad,a1,a2⟩:=KZ o.rf
 have z:=o.zf
 have e2:x.m.vt.length=x.fs.length:=by rw[←o.hf];simp
 obtain⟨b,k1,k2⟩:=Gd (f:=265) (g:=299) (sz:=2) (k:=262) (n:=x.fs.length) (B:=fun i=>match x.fs[i]? with|some y=> !xo y.1.2|none=>false) rfl rfl (v:=x.vf) (by omega) h o.rf.rd.len ad (fun i=>match x.fs[i]? with|some y=>.agg (JQ y)|none=>.bot) a1 (fun i hi=>by
  obtain⟨y,hy⟩:∃y,x.fs[i]?=some y:=⟨x.fs[i],by simp⟩
  rw[hy];exact(a2 i y hy).1) (fun g hg _ _ i hi=>by
  obtain⟨y,hy⟩:∃y,x.fs[i]?=some y:=⟨x.fs[i],by simp⟩
  have hm:=uJ hy
  rw[hy]
  obtain⟨r1,r2⟩:=o.rf.vec y hm
  exact H7 g y.1.1 y.2 y.1.2 (o.vf y hm) (r1.mono fun i c q=>hg i c q) r2)
 rw[k1]
 congr 3
 cases hb:b with
 | false =>
   have:=k2.1 hb
   have q:(x.m.vt.all fun b=>xo b.2)=true:=by
    rw[Vd]
    intro c hc
    rw[←o.hf]at hc
    obtain⟨y,hy,rfl⟩:=U8.1 hc
    obtain⟨i,hi,e⟩:=List.mem_iff_getElem.1 hy
    have:=this i hi
    rw[Vb hi,e]at this
    simpa using this
   rw[q];rfl
 | true =>
   cases q:(x.m.vt.all fun b=>xo b.2)with
   |false=>rfl
   | true =>
     have:b=false:=k2.2 fun j hj=>by
      rw[Vb hj]
      rw[Vd]at q
      have:=q (x.fs[j]).1 (by rw[←o.hf];exact U8.2 ⟨_,List.getElem_mem hj,rfl⟩)
      simpa using this
     rw[this]at hb;cases hb
theorem H8 (h:H) (hf:h.floor≤h.next) (e:vQ) (v:AV) (hv:v.sc=true) (ok:wS h (e,v)):aQ AP.A 268 [.agg (vq e v)] h=some (.bool (!wG e),h):=by
 obtain⟨E,hE⟩:∃E,E=vq e v:=⟨_,rfl⟩
 have lE:E.length=9:=by rw[hE];rfl
 have cE:AV.aB E=true:=by rw[hE];exact yf hv
 have rE:hR true 9 E 0=some (.agg E):=by rw[hE];rfl
 obtain⟨h1,eh1⟩:∃g,g=h.dX.alloc E:=⟨_,rfl⟩
 have x1:Ext h h1:=fun i c q=>by rw[eh1];exact((Ext.refl h.dX).alloc _) i c q
 have g1:h1.get h.next=some E:=by rw[eh1];exact vk rfl
 have n0:h.dX.next=h.next:=rfl
 have k1:=FK h1 (by rw[eh1];simp) e v hv (ok.mono x1)
 rw[←hE]at k1 ⊢
 refine tM (fn:=AP.f268) (h2:=h1) (e:=[(2,.bool (!wG e))]) rfl rfl rfl ?_ rfl rfl
 clear ok x1 hE
 simp (disch:=omega)only[go_sem,vh,AP.f268,lE,cE,n0,←eh1,g1,rE,k1]
theorem JV (h : H) {x : wc} (o : zl h x) : aQ AP.A 187 [x.ve, .fn 268 [] []] h = some (.bool (!x.m.wj.all wG), h) := by
 obtain⟨ad,a1,a2⟩:=K0 o.re
 have z:=o.ze
 have e2:x.m.wj.length=x.es.length:=by rw[←o.he];simp
 obtain⟨b,k1,k2⟩:=Gd (f:=187) (g:=191) (sz:=9) (k:=268) (n:=x.es.length) (B:=fun i=>match x.es[i]? with|some y=> !wG y.1|none=>false) rfl rfl (v:=x.ve) (by omega) h o.re.len ad (fun i=>match x.es[i]? with|some y=>.agg (vq y.1 y.2)|none=>.bot) a1 (fun i hi=>by
  obtain⟨y,hy⟩:∃y,x.es[i]?=some y:=⟨x.es[i],by simp⟩
  rw[hy];exact(a2 i y hy).1) (fun g hg _ hf i hi=>by
  obtain⟨y,hy⟩:∃y,x.es[i]?=some y:=⟨x.es[i],by simp⟩
  have hm:=uJ hy
  rw[hy]
  exact H8 g (by omega) y.1 y.2 (o.ve y hm).2 ((o.ve y hm).1.mono hg))
 rw[k1]
 congr 3
 cases hb:b with
 | false =>
   have:=k2.1 hb
   have q:(x.m.wj.all wG)=true:=by
    rw[Vd]
    intro c hc
    rw[←o.he]at hc
    obtain⟨y,hy,rfl⟩:=U8.1 hc
    obtain⟨i,hi,e⟩:=List.mem_iff_getElem.1 hy
    have:=this i hi
    rw[Vb hi,e]at this
    simpa using this
   rw[q];rfl
 | true =>
   cases q:(x.m.wj.all wG)with
   |false=>rfl
   | true =>
     have:b=false:=k2.2 fun j hj=>by
      rw[Vb hj]
      rw[Vd]at q
      have:=q (x.es[j]).1 (by rw[←o.he];exact U8.2 ⟨_,List.getElem_mem hj,rfl⟩)
      simpa using this
     rw[this]at hb;cases hb
def vO (s:ByteArray):List vQ→Nat×Bool
 |[]=>(0,false)
 |e::r=>if Op.bytesLess e.name.toList s.toList then((vO s r).1+1,(vO s r).2)else(0,e.name.toList==s.toList)
def I2 (bs:List Nat):List Nat:=IZ bs 0 []
structure Wr (h:H) (w:Nat) (bs:List Nat) (ov:AV):Prop where
 get:h.get w=some [ov,.int .i64 (bs.length:Nat)]
 own:vM 1 h ov (I2 bs).length (yH (I2 bs))
 fl:h.floor≤w
 UL:h.floor≤h.next
 ne:ov.id?≠some w
 UK:Ug (I2 bs)
structure Qd (h:H) (w:Nat) (ov:AV) (h':H) (ov':AV):Prop where
 floor:h'.floor=h.floor
 next:h.next≤h'.next
 wN:∀i,i<h.next→i≠w→ov.id?≠some i→h'.get i=h.get i
 ids:∀j,ov'.id?=some j→ov.id?=some j∨h.next≤j
theorem Qd.refl (h:H) (w:Nat) (ov:AV):Qd h w ov h ov:=⟨rfl,uF _,fun _ _ _ _=>rfl,fun _ h=>.inl h⟩
theorem Qd.trans {h1 h2 h3:H} {w:Nat} {o1 o2 o3:AV} (a:Qd h1 w o1 h2 o2) (b:Qd h2 w o2 h3 o3):Qd h1 w o1 h3 o3:=
 ⟨by rw [b.floor, a.floor], uX a.next b.next, fun i h hw ho => by
   rw[b.wN i (by have:=a.next;omega) hw (fun q=>by rcases a.ids i q with q|q;exact ho q;omega),a.wN i h hw ho],
  fun j h=>by
   rcases b.ids j h with q|q
   · exact a.ids j q
   · exact .inr (uX a.next q)⟩
theorem vM.hi {h:H} {w:AV} {k n:Nat} {cs:List AV} (o:vM n h w k cs) (hn:0<n) {m:Nat} (hm:m≤k):∃u,rL h n w none (some (.int .i64 m)) none=some u∧aR h n u=some (m,cs.take (m* n))∧u.sc=true:=by
 obtain⟨l,⟨rfl,rfl⟩|⟨id,rfl,hg,hf,hk⟩⟩:=o
 · obtain rfl:m=0:=by omega
   obtain rfl:cs=[]:=U2 (by omega)
   exact⟨.aO,rfl,by simp [aR],rfl⟩
 · have d:(cs.length-0)/n=k:=by rw[l,Nat.sub_zero,Nat.mul_div_cancel _ hn]
   refine⟨.aD id 0 m n, ?_, ?_,rfl⟩
   · have:=SG (h:=h) (n:=n) (p:=id) (o:=0) (k:=k) (m:=m) hg hn (by omega) ⟨by omega,by rw[d];simpa using hm⟩
     rw[this];rfl
   · simp only[aR,if_true,hg,uC,uK,U1]
     rw[if_pos (by rw[l];exact uI _ hm)]
theorem vM.lo {h : H} {w : AV} {k n : Nat} {cs : List AV} (o : vM n h w k cs) (hn : 0 < n) {m : Nat} (hm : m ≤ k) : ∃ u, rL h n w (some (.int .i64 m)) none none = some u ∧ aR h n u = some (k - m, cs.drop (m * n)) ∧ u.sc = true := by
 obtain⟨l,⟨rfl,rfl⟩|⟨id,rfl,hg,hf,hk⟩⟩:=o
 · obtain rfl:m=0:=by omega
   obtain rfl:cs=[]:=U2 (by omega)
   exact⟨.aO,rfl,by simp [aR],rfl⟩
 · have d:cs.length/n=k:=by rw[l,Nat.mul_div_cancel _ hn]
   have mk:=uI n hm
   refine⟨.aD id (0+m* n) (k-m) n, ?_, ?_,rfl⟩
   · simp only[rL,hn,and_self,if_true,hg,uC,aA,Nat.sub_zero,d]
     rw[if_pos ⟨by omega,uF _⟩]
     have h3:kb (.int .i64 m) k=some m:=by
      simp only[kb,nk,uC]
      rw[if_pos]
      · rfl
      · omega
     simp [h3]
   · simp only[aR,if_true,hg,uC,uK]
     have e:m* n+(k-m)* n=k* n:=by rw[←uV];congr 1;omega
     rw[if_pos (by omega)]
     rw[uU]
     rw[List.length_drop];omega
def Qf (e:vQ):vF:=(e,wk e.vec)
def J4 (L:List vQ):AV:=DI 9 L.length (vD (L.map Qf))
theorem J6 (L:List vQ):(J4 L).sc=true:=by unfold J4 DI;split<;>rfl
theorem J5 (g:H) (L:List vQ):wO 9 g (J4 L) (L.map Qf).length (vD (L.map Qf)):=by
 have:=Eg (n:=9) (k:=L.length) (h:=g) (cs:=vD (L.map Qf)) (by rw[yO,UW])
 rw[UW];exact this
theorem zN:∀{a b c:List UInt8},Op.bytesLess a b=true→Op.bytesLess b c=true→Op.bytesLess a c=true
 |_,[],_,h,_=>by simp [Op.bytesLess]at h
 |_,_::_,[],_,h=>by simp [Op.bytesLess]at h
 |[],y::b,z::c,_,_=>rfl
 | x :: a, y :: b, z :: c, h1, h2 => by
   simp only[Op.bytesLess,uS,UY,uG,beq_iff_eq]at h1 h2 ⊢
   rcases h1 with h1|⟨rfl,h1⟩
   · rcases h2 with h2|⟨rfl,h2⟩
     · exact .inl (UInt8.lt_trans h1 h2)
     · exact .inl h1
   · rcases h2 with h2|⟨rfl,h2⟩
     · exact .inl h2
     · exact .inr ⟨rfl,zN h1 h2⟩
def Ql (l:List vQ):Prop:=∀(i j:Nat) (x y:vQ),i<j→l[i]?=some x→l[j]?=some y→Op.bytesLess x.name.toList y.name.toList=true
theorem Fi : ∀ {l : List vQ} {p : vQ}, xi (some p) l = true → (∀ x ∈ l, Op.bytesLess p.name.toList x.name.toList = true) ∧ Ql l
 |[],p,_=>⟨fun x h=>(by cases h),fun i j x y _ h _=>(by simp at h)⟩
 | e :: l, p, h => by
   rw[xi,uG]at h
   obtain⟨i1,i2⟩:=Fi h.2
   have h1:Op.bytesLess p.name.toList e.name.toList=true:=by
    have:=h.1
    unfold xR at this
    simp only[uG]at this
    exact this.2.1
   refine⟨fun x hx=> ?_,fun i j x y hij hx hy=> ?_⟩
   · rcases uW.1 hx with rfl|hx
     · exact h1
     · exact zN h1 (i1 x hx)
   · match i,j,hij with
     | 0, j + 1, _ =>
       simp only[List.getElem?_cons_zero,uy]at hx
       subst hx
       exact i1 y (uJ (by simpa using hy))
     |i+1,j+1,hij=>exact i2 i j x y (by omega) (by simpa using hx) (by simpa using hy)
theorem Je {l:List vQ} (h:wR l=true):Ql l:=by
 unfold wR at h
 rw[uG]at h
 match l,h.1 with
 |[],_=>exact fun i j x y _ h _=>by simp at h
 | e :: l, h1 =>
   rw[xi,uG]at h1
   obtain⟨i1,i2⟩:=Fi h1.2
   intro i j x y hij hx hy
   match i,j,hij with
   | 0, j + 1, _ =>
     simp only[List.getElem?_cons_zero,uy]at hx
     subst hx
     exact i1 y (uJ (by simpa using hy))
   |i+1,j+1,hij=>exact i2 i j x y (by omega) (by simpa using hx) (by simpa using hy)
theorem Fc (s:ByteArray):∀(l:List vQ) (i:Nat),i≤l.length→(∀(k:Nat) (x:vQ),k<i→l[k]?=some x→Op.bytesLess x.name.toList s.toList=true)→(∀x:vQ,l[i]?=some x→Op.bytesLess x.name.toList s.toList=false)→
 vO s l=(i,match l[i]? with|some x=>x.name.toList==s.toList|none=>false)
 | [], i, hi, _, _ => by
   have:i=0:=by simpa using hi
   subst this;rfl
 | e :: l, 0, _, _, h2 => by
   have:=h2 e rfl
   rw[vO,this,if_neg (by decide)];rfl
 | e :: l, i + 1, hi, h1, h2 => by
   have he:=h1 0 e (by omega) rfl
   rw[vO,he,if_pos rfl,Fc s l i (by simpa using hi) (fun k x hk hx=>h1 (k+1) x (by omega) (by simpa using hx)) (fun x hx=>h2 x (by simpa using hx))]
   simp
theorem PU (h:H) (a b:ByteArray):aQ AP.A 314 [.str a,.str b] h=some (.int .i64 (if Op.bytesLess a.toList b.toList then-1 else if a.toList==b.toList then 0 else 1),h):=by
 have n1:∀(g:H) (x:ByteArray),aQ AP.A 315 [.str x] g=some (.bool false,g):=fun g x=>by
  have:bp .neq (.str x) (.str x)=some (.bool false):=by rw[AK];simp
  refine tM (fn:=AP.f315) (h2:=g.dX) (e:=[(2,.bool false)]) rfl rfl rfl ?_ rfl rfl
  simp (disch:=omega)only[go_sem,vh,AP.f315,this]
 have c1:bp .lss (.str a) (.str b)=some (.bool (Op.bytesLess a.toList b.toList)):=rfl
 have c2:bp .gtr (.str a) (.str b)=some (.bool (!(Op.bytesLess a.toList b.toList||a.toList==b.toList))):=rfl
 refine tM (fn:=AP.f314) (h2:=h.dX) (e:=[(4,.int .i64 (if Op.bytesLess a.toList b.toList then-1 else if a.toList==b.toList then 0 else 1))]) rfl rfl rfl ?_ rfl rfl
 generalize Op.bytesLess a.toList b.toList=B1 at *
 generalize (a.toList==b.toList)=B2 at *
 cases B1<;>cases B2<;>simp only[uD,if_true,u0]<;>simp (disch:=omega)only[go_sem,vh,AP.f314,n1,c1,c2]
theorem IU (h:H) (e:vQ) (v:AV) (hv:v.sc=true) (s:ByteArray):aQ AP.A 313 [.agg (vq e v),.str s] h=some (.int .i64 (if Op.bytesLess e.name.toList s.toList then-1 else if e.name.toList==s.toList then 0 else 1),h):=by
 obtain⟨E,hE⟩:∃E,E=vq e v:=⟨_,rfl⟩
 have lE:E.length=9:=by rw[hE];rfl
 have cE:AV.aB E=true:=by rw[hE];exact yf hv
 have e0:E[0]?=some (.str e.name):=by rw[hE];rfl
 obtain⟨h1,eh1⟩:∃g,g=h.dX.alloc E:=⟨_,rfl⟩
 have g1:h1.get h.next=some E:=by rw[eh1];exact vk rfl
 have n0:h.dX.next=h.next:=rfl
 have k1:=PU h1 e.name s
 rw[←hE]
 generalize (if Op.bytesLess e.name.toList s.toList then(-1:Int)else if e.name.toList==s.toList then 0 else 1)=V at *
 refine tM (fn:=AP.f313) (h2:=h1) (e:=[(4,.int .i64 V)]) rfl rfl rfl ?_ rfl rfl
 clear hE
 simp (disch:=omega)only[go_sem,vh,AP.f313,lE,cE,n0,←eh1,g1,e0,k1]
theorem JR {v : AV} {l : List vF} (hl : l.length ≤ 6) (h : H) (rd : wO 9 h v l.length (vD l)) (hv : ∀ x ∈ l, x.2.sc = true) (s : ByteArray) (ris : Ql (l.map (·.1))) : ∀ (m i j : Nat), j - i ≤ m → i ≤ j → j ≤ l.length →
 (∀(k:Nat) (x:vQ),k<i→(l.map (·.1))[k]?=some x→Op.bytesLess x.name.toList s.toList=true)→(∀(k:Nat) (x:vQ),j≤k→(l.map (·.1))[k]?=some x→Op.bytesLess x.name.toList s.toList=false)→
 ∃ e' k, Lp AP.A [0, 1, 2, 8, 9, 10] AP.f312L0 [(0, v), (1, .str s), (2, .fn 313 [] []), (8, .int .i64 l.length), (9, .int .i64 i), (10, .int .i64 j)] h = some (.exit 0, e', h) ∧ look e' 0 = v ∧ look e' 1 = .str s ∧ look e' 2 = .fn 313 [] [] ∧ look e' 8 = .int .i64 l.length ∧ look e' 9 = .int .i64 (k : Nat) ∧ k ≤ l.length ∧
   (∀(q:Nat) (x:vQ),q<k→(l.map (·.1))[q]?=some x→Op.bytesLess x.name.toList s.toList=true)∧(∀x:vQ,(l.map (·.1))[k]?=some x→Op.bytesLess x.name.toList s.toList=false):=by
 intro m
 induction m with
 | zero =>
   intro i j hm hij hj h1 h2
   obtain rfl:i=j:=by omega
   refine⟨[(0,v),(1,.str s),(2,.fn 313 [] []),(8,.int .i64 l.length),(9,.int .i64 i),(10,.int .i64 i),(17,.bool false)],i,sY ?_,rfl,rfl,rfl,rfl,rfl,hj,h1,fun x hx=>h2 i x (uF _) hx⟩
   clear h1 h2 ris hv rd
   simp (disch:=omega)only[go_sem,vh,AP.f312L0]
 | succ m ih =>
   intro i j hm hij hj h1 h2
   by_cases c:i=j
   · subst c
     exact ih i i (by omega) (uF _) hj h1 h2
   have lt:i<j:=by omega
   obtain⟨q,hq⟩:∃q,q=(i+j)/2:=⟨_,rfl⟩
   obtain⟨x,hx⟩:∃x,l[q]?=some x:=⟨l[q]'(by omega),by simp⟩
   have hx':(l.map (·.1))[q]?=some x.1:=by rw[uO,hx];rfl
   obtain⟨ad,a1,a2⟩:=rd.FB
   have b1:=a1 q ⟨by omega,by omega⟩
   have b2:=(a2 h (Ext.refl h) q x hx).2
   have k1:=IU h x.1 x.2 (hv x (uJ hx)) s
   have w1:IntKind.wrap .u64 ((i:Int)+j)=((i+j:Nat):Int):=by simp [IntKind.wrap,IntKind.bits,IntKind.signed];omega
   have w2:oV .shr .u64 ((i+j:Nat):Int) 1=some (.int .u64 (q:Nat)):=by
    unfold oV
    rw[if_neg (by decide),hq]
    simp [IntKind.bits,Int.fdiv_eq_ediv_of_nonneg]
   have w3:IntKind.wrap .i64 (q:Int)=q:=wi (by omega)
   have w4:((q+1:Nat):Int)=(q:Int)+1:=by omega
   by_cases cl:Op.bytesLess x.1.name.toList s.toList=true
   · rw[if_pos cl]at k1
     obtain⟨e',k,r1,r2⟩:=ih (q+1) j (by omega) (by omega) hj (fun t y ht hy=>by
      by_cases ct:t=q
      · subst ct;rw[hx']at hy;obtain rfl:=uv hy;exact cl
      · exact zN (ris t q y x.1 (by omega) hy hx') cl) h2
     rw[w4]at r1
     refine⟨e',k,sZ ?_ r1,r2⟩
     clear h1 h2 ris hv rd r1 r2 a1 a2 hx hx' ih
     simp (disch:=omega)only[go_sem,vh,AP.f312L0,w1,w2,w3,b1,b2,k1,nv]
   · have cl':Op.bytesLess x.1.name.toList s.toList=false:=by simpa using cl
     rw[if_neg cl]at k1
     obtain⟨e',k,r1,r2⟩:=ih i q (by omega) (by omega) (by omega) h1 (fun t y ht hy=>by
      by_cases ct:t=q
      · subst ct;rw[hx']at hy;obtain rfl:=uv hy;exact cl'
      · cases cy:Op.bytesLess y.name.toList s.toList with
        |false=>rfl
        |true=>exact absurd (zN (ris q t x.1 y (by omega) hx' hy) cy) cl)
     refine⟨e',k,sZ ?_ r1,r2⟩
     have k0:(if(x.1.name.toList==s.toList)=true then(0:Int)else 1)=0∨(if(x.1.name.toList==s.toList)=true then(0:Int)else 1)=1:=by split<;>simp
     generalize (if(x.1.name.toList==s.toList)=true then(0:Int)else 1)=V at *
     have k2:¬V<0:=by omega
     clear h1 h2 ris hv rd r1 r2 a1 a2 hx hx' ih k0
     simp (disch:=omega)only[go_sem,vh,AP.f312L0,w1,w2,w3,b1,b2,k1,nv,df k2]
theorem Qr (h:H) (v:AV) (l:List vF) (hl:l.length≤6) (rd:wO 9 h v l.length (vD l)) (hv:∀x∈l,x.2.sc=true) (s:ByteArray) (ris:Ql (l.map (·.1))):aQ AP.A 312 [v,.str s,.fn 313 [] []] h=some (.bO [.int .i64 (vO s (l.map (·.1))).1,.bool (vO s (l.map (·.1))).2],h):=by
 have rdf:wO 9 h.dX v l.length (vD l):=rd.mono fun i c q=>q
 have ln:=rdf.len
 obtain⟨e',k,r1,r2,r3,r4,r5,r6,r7,r8,r9⟩:=JR hl h.dX rdf hv s ris l.length 0 l.length (by omega) (by omega) (uF _) (fun k x hk=>by omega) (fun k x hk hx=>by
  rw[List.getElem?_eq_none (by simpa using hk)]at hx;cases hx)
 have r1':Lp AP.A [0,1,2,8,9,10] AP.f312L0 [(0,v),(1,.str s),(2,.fn 313 [] []),(8,.int .i64 l.length),(9,.int .i64 0),(10,.int .i64 l.length)] h.dX=some (.exit 0,e',h.dX):=r1
 rw[Fc s _ k (by simpa using r7) r8 r9]
 by_cases c:k<l.length
 · obtain⟨x,hx⟩:∃x,l[k]?=some x:=⟨l[k],by simp⟩
   have hx':(l.map (·.1))[k]?=some x.1:=by rw[uO,hx];rfl
   have nl:=r9 _ hx'
   rw[hx']
   obtain⟨ad,a1,a2⟩:=rdf.FB
   have b1:=a1 k ⟨by omega,by omega⟩
   have b2:=(a2 h.dX (Ext.refl _) k x hx).2
   have k1:=IU h.dX x.1 x.2 (hv x (uJ hx)) s
   rw[nl,if_neg (by decide)]at k1
   refine tM (fn:=AP.f312) (h2:=h.dX) (e:=[(6,.int .i64 k),(7,.bool (x.1.name.toList==s.toList))]) (vs:=[.int .i64 k,.bool (x.1.name.toList==s.toList)]) rfl rfl rfl ?_ rfl rfl
   generalize (x.1.name.toList==s.toList)=B at *
   clear rd rdf ris hv r1 r8 r9 a1 a2 hx hx' nl
   cases B
   · rw[if_neg (by decide)]at k1
     simp (disch:=omega)only[go_sem,vh,AP.f312,ln,rR,r1',r2,r3,r4,r5,r6,b1,b2,k1,nv]
   · rw[if_pos rfl]at k1
     simp (disch:=omega)only[go_sem,vh,AP.f312,ln,rR,r1',r2,r3,r4,r5,r6,b1,b2,k1,nv]
 · have e:(l.map (·.1))[k]?=none:=List.getElem?_eq_none (by simpa using c)
   rw[e]
   refine tM (fn:=AP.f312) (h2:=h.dX) (e:=[(6,.int .i64 k),(7,.bool false)]) (vs:=[.int .i64 k,.bool false]) rfl rfl rfl ?_ rfl rfl
   clear rd rdf ris hv r1 r8 r9 e
   simp (disch:=omega)only[go_sem,vh,AP.f312,ln,rR,r1',r2,r3,r4,r5,r6]
theorem KS (h:H) (b o:Nat) {C:List AV} (v:AV) (g:h.get b=some C) (ho:C[o]?=some v) (l:List vF) (hl:l.length≤6) (rd:wO 9 h v l.length (vD l)) (hv:∀x∈l,x.2.sc=true) (s:ByteArray) (ris:Ql (l.map (·.1))):
 aQ AP.A 307 [.aC b o,.str s] h=some (.bO [.int .i64 (vO s (l.map (·.1))).1,.bool (vO s (l.map (·.1))).2],h):=by
 have k1:=Qr h v l hl rd hv s ris
 generalize vO s (l.map (·.1))=P at *
 refine tr (fn:=AP.f307) (h2:=h) (e:=[(4,.int .i64 P.1),(5,.bool P.2)]) (vs:=[.int .i64 P.1,.bool P.2]) rfl rfl rfl ?_ rfl
 clear rd hv ris
 simp (disch:=omega)only[go_sem,vh,AP.f307,Vg,g,ho,k1]
theorem Gl {v w : AV} {a b : List Int} (hab : a.length = b.length) (hl : a.length < 1125899906842624) (h : H) (ra : Rd h v (ints a)) (rb : Rd h w (ints b)) : ∀ (q r p p' : List Int), a = p ++ q → b = p' ++ r → p.length = p'.length →
 (∃e',Lp AP.A [0,1,12,13] AP.f311L0 [(0,v),(1,w),(12,.int .i64 a.length),(13,.int .i64 p.length)] h=some (.exit 0,e',h)∧q=r)∨
 (∃e',Lp AP.A [0,1,12,13] AP.f311L0 [(0,v),(1,w),(12,.int .i64 a.length),(13,.int .i64 p.length)] h=some (.ret,e',h)∧look e' 4=.bool false∧q≠r)
 | [], r, p, p', hp, hp', hpp => by
   rw[UX]at hp;subst hp
   have hr:r=[]:=U2 (by rw[hp',uZ]at hab;omega)
   refine .inl ⟨[(0,v),(1,w),(12,.int .i64 a.length),(13,.int .i64 a.length),(14,.bool false)],sY ?_,hr.symm⟩
   simp (disch:=omega)only[go_sem,vh,AP.f311L0]
 | x :: q, [], p, p', hp, hp', hpp => by
   rw[hp,hp']at hab;simp at hab;omega
 | x :: q, y :: r, p, p', hp, hp', hpp => by
   have hlen:a.length=p.length+(q.length+1):=by rw[hp];simp
   obtain⟨ad,a1,a3⟩:=ra.wI
   obtain⟨bd,b1,b3⟩:=rb.wI
   have i1:=a1 p.length ⟨by omega,by omega⟩
   have i2:=a3 h (Ext.refl h) p.length x (by rw[hp];simp)
   have j1:=b1 p.length ⟨by omega,by omega⟩
   have j2:=b3 h (Ext.refl h) p.length y (by rw[hp',hpp];simp)
   have ih:=Gl hab hl h ra rb q r (p++[x]) (p'++[y]) (by rw[hp];simp) (by rw[hp'];simp) (by simp [hpp])
   have w1:(((p++[x]).length:Nat):Int)=(p.length:Int)+1:=by simp
   rw[w1]at ih
   by_cases c:x=y
   · have step:aK (aQ AP.A) bz AP.f311L0 (ax [(0,v),(1,w),(12,.int .i64 a.length),(13,.int .i64 p.length)] [0,1,12,13]) h=some (.normal,[(0,v),(1,w),(12,.int .i64 a.length),(13,.int .i64 ((p.length:Int)+1))],h):=by
      clear ih ra rb a1 a3 b1 b3 hp hp'
      simp (disch:=omega)only[go_sem,vh,AP.f311L0,i1,i2,j1,j2,KY c]
     rcases ih with ⟨e',r1,r2⟩|⟨e',r1,r2,r3⟩
     · exact .inl ⟨e',sZ step r1,by rw[c,r2]⟩
     · exact .inr ⟨e',sZ step r1,r2,fun q=>r3 (List.cons.inj q).2⟩
   · refine .inr ⟨[(4,.bool false)],tC ?_,rfl,fun q=>c (List.cons.inj q).1⟩
     clear ih ra rb a1 a3 b1 b3 hp hp'
     simp (disch:=omega)only[go_sem,vh,AP.f311L0,i1,i2,j1,j2,PK c]
theorem Rq (h:H) (v w:AV) (a b:List Int) (ra:Rd h v (ints a)) (rb:Rd h w (ints b)) (hl:a.length<1125899906842624) (hb:b.length<1125899906842624):aQ AP.A 311 [v,w] h=some (.bool (decide (a=b)),h):=by
 have la:=ra.len
 have lb:=rb.len
 rw[pt]at la lb
 simp only[I]at la lb
 have ra':Rd h.dX v (ints a):=ra.mono fun i c q=>q
 have rb':Rd h.dX w (ints b):=rb.mono fun i c q=>q
 by_cases c:a.length=b.length
 · rcases Gl c hl h.dX ra' rb' a b [] [] rfl rfl rfl with ⟨e',r1,r2⟩|⟨e',r1,r2,r3⟩
   · have r1':Lp AP.A [0,1,12,13] AP.f311L0 [(0,v),(1,w),(12,.int .i64 a.length),(13,.int .i64 0)] h.dX=some (.exit 0,e',h.dX):=r1
     rw[dt r2]
     refine tM (fn:=AP.f311) (h2:=h.dX) (e:=[(4,.bool true)]) rfl rfl rfl ?_ rfl rfl
     clear ra rb ra' rb' r1 r2
     have c':((a.length:Nat):Int)=b.length:=by omega
     simp (disch:=omega)only[go_sem,vh,AP.f311,la,lb,rR,r1',KY c']
   · have r1':Lp AP.A [0,1,12,13] AP.f311L0 [(0,v),(1,w),(12,.int .i64 a.length),(13,.int .i64 0)] h.dX=some (.ret,e',h.dX):=r1
     rw[df r3]
     refine tM (fn:=AP.f311) (h2:=h.dX) (e:=e') (vs:=[.bool false]) rfl rfl rfl ?_ (by simp only[AP.f311,cL,mQ,r2];rfl) rfl
     clear ra rb ra' rb' r1 r3
     have c':((a.length:Nat):Int)=b.length:=by omega
     simp (disch:=omega)only[go_sem,vh,AP.f311,la,lb,rR,r1',KY c']
 · rw[df (fun q=>c (by rw[q]))]
   refine tM (fn:=AP.f311) (h2:=h.dX) (e:=[(4,.bool false)]) rfl rfl rfl ?_ rfl rfl
   clear ra rb ra' rb'
   have c':¬((a.length:Nat):Int)=b.length:=by omega
   simp (disch:=omega)only[go_sem,vh,AP.f311,la,lb,PK c']
structure SB (B:Nat) (h:H) (o n i:Nat) (cs:List AV):Prop where
 get:h.get o=some cs
 len:cs.length=n* 2
 fl:h.floor≤o
 bo:B≤o
 el:∀k,k<n→∃(s:ByteArray) (j:Nat) (l:List Int),cs[k* 2]?=some (.str s)∧s.size≤8+(if k<i then 1 else 0)∧cs[k* 2+1]?=some (.aD j 0 4 1)∧h.get j=some (ints l)∧l.length=4∧B≤j∧j≠o∧h.floor≤j
structure SE (z f B N:Nat) (h:H) (o n i:Nat) (cs:List AV):Prop where
 get:h.get o=some cs
 len:cs.length=n* z
 fl:h.floor≤o
 bo:B≤o∧o<N
 el:∀k,k<n→∃(s:ByteArray) (j:Nat) (l:List Int),cs[k* z]?=some (.str s)∧s.size≤8+(if k<i then 1 else 0)∧cs[k* z+f]?=some (.aD j 0 4 1)∧h.get j=some (ints l)∧l.length=4∧B≤j∧j≠o∧h.floor≤j∧j<N
structure WE (B:Nat) (h:H) (v:AV) (l:List vF):Prop where
 own:vM 9 h v l.length (vD l)
 ge:∀i,v.id?=some i→B≤i
 el:∀x∈l,x.1.name.size≤8∧x.1.vec.length=4∧∃j,x.2=.aD j 0 4 1∧h.get j=some (ints x.1.vec)∧B≤j∧v.id?≠some j∧h.floor≤j
theorem WE.mono {B:Nat} {h g:H} {v:AV} {l:List vF} (w:WE B h v l) (hf:g.floor=h.floor) (hg:∀i,B≤i→i<h.next→(v.id?=some i∨∃x∈l,x.2.id?=some i)→g.get i=h.get i):WE B g v l:=
 ⟨w.own.mono hf fun i q=>hg i (w.ge i q) (w.own.lt q).2 (.inl q),w.ge,fun x hx=>by
  obtain⟨c1,c2,j,a1,a2,a3,a4,a5⟩:=w.el x hx
  exact⟨c1,c2,j,a1,by rw[hg j a3 (h.lt _ _ a2) (.inr ⟨x,hx,by rw[a1];rfl⟩)];exact a2,a3,a4,by rw[hf];exact a5⟩⟩
def WI (B:Nat) (h:H) (v:AV) (l:List Int):Prop:=v=.aO∨∃i,v=.aD i 0 l.length 1∧h.get i=some (ints l)∧h.floor≤i∧B≤i∧l.length<1000000
theorem WI.ge {B:Nat} {h:H} {v:AV} {l:List Int} (w:WI B h v l) {k:Nat} (hk:k<B):v.id?≠some k:=fun q=>by
 rcases w with rfl|⟨i,rfl,_,_,w3,_⟩
 · cases q
 · have:=uv q;omega
def WS (B:Nat) (h:H) (v:AV) (l:List ByteArray):Prop:=v=.aO∨∃i,v=.aD i 0 l.length 1∧h.get i=some (xX l)∧h.floor≤i∧B≤i∧l.length<1000000∧∀s∈l,s.size≤1000
structure WB (B:Nat) (h:H) (v:AV) (l:List xO):Prop where
 own:vM 2 h v l.length (wv l)
 ge:∀i,v.id?=some i→B≤i
 el:∀x∈l,x.1.1.size≤8∧x.1.2.length=4∧∃j,x.2=.aD j 0 4 1∧h.get j=some (ints x.1.2)∧B≤j∧v.id?≠some j∧h.floor≤j
theorem WB.mono {B:Nat} {h g:H} {v:AV} {l:List xO} (w:WB B h v l) (hf:g.floor=h.floor) (hg:∀i,B≤i→i<h.next→(v.id?=some i∨∃x∈l,x.2.id?=some i)→g.get i=h.get i):WB B g v l:=
 ⟨w.own.mono hf fun i q=>hg i (w.ge i q) (w.own.lt q).2 (.inl q),w.ge,fun x hx=>by
  obtain⟨c1,c2,j,a1,a2,a3,a4,a5⟩:=w.el x hx
  exact⟨c1,c2,j,a1,by rw[hg j a3 (h.lt _ _ a2) (.inr ⟨x,hx,by rw[a1];rfl⟩)];exact a2,a3,a4,by rw[hf];exact a5⟩⟩
inductive WM (B:Nat) (h:H) (y:wc):Prop where
 |d (hd:WI B h y.vd y.m.wA) (e1:y.vb=.aO) (e2:y.vf=.aO) (e3:y.vn=.aO) (e4:y.ve=.aO)
 |b (hb:WI B h y.vb y.m.wF) (hf:WB B h y.vf y.fs) (hn:y.fs.length≤1000) (ap:∀i,y.vb.id?=some i→y.vf.id?≠some i∧∀x∈y.fs,x.2.id?≠some i) (e1:y.vd=.aO) (e3:y.vn=.aO) (e4:y.ve=.aO)
 |n (hn:WS B h y.vn y.m.names) (e1:y.vd=.aO) (e2:y.vb=.aO) (e3:y.vf=.aO) (e4:y.ve=.aO)
 |e (he:WE B h y.ve y.es) (hn:y.es.length≤1000) (e1:y.vd=.aO) (e2:y.vb=.aO) (e3:y.vf=.aO) (e4:y.vn=.aO)
theorem Kf {m:zj} (h:¬(m.kind=0∨m.kind=1∨m.kind=2∨m.kind=3∨m.kind=4)):xS m=false:=by
 unfold xS
 rw[if_neg (by omega),if_neg (by omega),if_neg (by omega),if_neg (by omega),if_neg (by omega)]
theorem SK (h:H) (n:Int):aQ AP.A 261 [.int .i64 n] h=some (.bool (!y9 n),h):=by
 have k1:=Kd h.dX n
 refine tM (fn:=AP.f261) (h2:=h.dX) (e:=[(2,.bool (!y9 n))]) rfl rfl rfl ?_ rfl rfl
 simp (disch:=omega)only[go_sem,vh,AP.f261,k1]
def SL (v:AV):Bool:=match v with| .int .i64 n=> !y9 n|_=>false
theorem Eu:∀l:List Int,(ints l).any SL= !l.all y9
 |[]=>rfl
 |n::l=>by
  have:=Eu l
  simp only[ints,U5,List.any_cons,Vl,Bool.not_and]at *
  rw[this];rfl
theorem IM {G:H} {P:Nat} {D:List AV} {r:Int} {v4 v5 v6 v7 v8:AV} {a b c d e:Nat} (g:G.get P=some D) (d3:D[3]?=some (.int .i64 r)) (d4:D[4]?=some v4) (d5:D[5]?=some v5) (d6:D[6]?=some v6) (d7:D[7]?=some v7) (d8:D[8]?=some v8)
 (l4:jc false v4=some (.int .i64 a)) (l5:jc false v5=some (.int .i64 b)) (l6:jc false v6=some (.int .i64 c)) (l7:jc false v7=some (.int .i64 d)) (l8:jc false v8=some (.int .i64 e)) (za:a<140737488355328) (zb:b<140737488355328) (zc:c<140737488355328) (zd:d<140737488355328) (ze:e<140737488355328) (F:Bool):
 aK (aQ AP.A) bz (F3 4 AP.f233.body) [(1,.aC P 0),(3,.bool F)] G=some (.ret,[(2,.bool (F&&(decide (r=0)&&decide ((((a:Int)+b)+c+d)+e=0))))],G):=by
 cases F with
 |false=>simp (disch:=omega)only[go_sem,vh,AP.f233,CR,CS]
 | true =>
   by_cases cr:r=0
   · by_cases ct:(((a:Int)+b)+c+d)+e=0<;>simp (disch:=omega)only[go_sem,vh,AP.f233,CR,CS,g,d3,d4,d5,d6,d7,d8,l4,l5,l6,l7,l8]
   · simp (disch:=omega)only[go_sem,vh,AP.f233,CR,CS,g,d3,d4,d5,d6,d7,d8,l4,l5,l6,l7,l8]
theorem IL {G : H} {P : Nat} {C : List AV} {s d : Int} (g : G.get P = some C) (e1 : C[1]? = some (.int .i64 s)) (e2 : C[2]? = some (.int .i64 d)) : aK (aQ AP.A) bz (at_ 1 AP.f233.body) [(1, .aC P 0)] G = if (vW s && (vW d && !decide (s = d))) = true then some (.normal, [(1, .aC P 0)], G) else some (.ret, [(2, .bool false)], G) := by
 have q1:=Cv G s
 have q2:=Cv G d
 cases b1:vW s with
 | false =>
   rw[b1]at q1
   rw[UZ,if_neg (by decide)]
   simp (disch:=omega)only[go_sem,vh,AP.f233,wC,wx,g,e1,e2,q1,q2]
 | true =>
   rw[b1]at q1
   cases b2:vW d with
   | false =>
     rw[b2]at q2
     rw[UZ,U3,if_neg (by decide)]
     simp (disch:=omega)only[go_sem,vh,AP.f233,wC,wx,g,e1,e2,q1,q2]
   | true =>
     rw[b2]at q2
     by_cases c:s=d
     · rw[dt c,Bool.not_true,U3,U3,if_neg (by decide)]
       simp (disch:=omega)only[go_sem,vh,AP.f233,wC,wx,g,e1,e2,q1,q2]
     · rw[df c,Bool.not_false,Ve,Ve,if_pos rfl]
       simp (disch:=omega)only[go_sem,vh,AP.f233,wC,wx,g,e1,e2,q1,q2]
theorem IK:AP.f233.body=.seq (at_ 0 AP.f233.body) (.seq (at_ 1 AP.f233.body) (.seq (at_ 2 AP.f233.body) (.seq (at_ 3 AP.f233.body) (F3 4 AP.f233.body)))):=rfl
theorem PC (G:H) (x:wc) (o:zl G x) (P:Nat) (hP:G.floor≤P) (g:G.get P=some (u9 x)) (hk:x.m.kind=0):∃H2,aK (aQ AP.A) bz (at_ 3 AP.f233.body) [(1,.aC P 0),(3,.bool false)] G=some (.normal,[(1,.aC P 0),(3,.bool (y9 x.m.root))],H2)∧H2.get P=some (u9 {x with m:={x.m with root:=0}}):=by
 have lC:(u9 x).length=9:=rfl
 have e0:(u9 x)[0]?=some (.int .i64 0):=by rw[←hk];rfl
 have e3:(u9 x)[3]?=some (.int .i64 x.m.root):=rfl
 have st:tO G P 3 1 [.int .i64 0] (some (u9 x))=some (G.set P (u9 {x with m:={x.m with root:=0}})):=by rw[uh hP (by rw[lC];omega) rfl];rfl
 refine⟨G.set P (u9 {x with m:={x.m with root:=0}}), ?_,by rw[vA rfl,g];rfl⟩
 have k1:=Kd G x.m.root
 clear o
 generalize u9 {x with m:={x.m with root:=0}}=D at *
 generalize u9 x=C at *
 simp (disch:=omega)only[go_sem,vh,AP.f233,wC,wx,g,e0,e3,st,k1]
theorem PD (G:H) (x:wc) (o:zl G x) (P:Nat) (hP:G.floor≤P) (g:G.get P=some (u9 x)) (hk:x.m.kind=1):∃H2,aK (aQ AP.A) bz (at_ 3 AP.f233.body) [(1,.aC P 0),(3,.bool false)] G=some (.normal,[(1,.aC P 0),(3,.bool (decide (x.m.wA.length=8)&&x.m.wA.all y9))],H2)∧H2.get P=some (u9 {x with vd:=.aO}):=by
 have lC:(u9 x).length=9:=rfl
 have e0:(u9 x)[0]?=some (.int .i64 1):=by rw[←hk];rfl
 have e4:(u9 x)[4]?=some (x.vd):=rfl
 have st:tO G P 4 1 [.aO] (some (u9 x))=some (G.set P (u9 {x with vd:=.aO})):=by rw[uh hP (by rw[lC];omega) rfl];rfl
 refine⟨G.set P (u9 {x with vd:=.aO}), ?_,by rw[vA rfl,g];rfl⟩
 have ld:=o.rd.len
 rw[pt]at ld
 simp only[I]at ld
 have zd:=o.zd
 have k1:x.m.wA.length=8→aQ AP.A 83 [x.vd,.fn 261 [] []] G=some (.bool (!x.m.wA.all y9),G):=fun q=>by
  have:=zW (fv:=.fn 261 [] []) SL (fun v hv g=>by
   obtain⟨n,hn,rfl⟩:=U8.1 hv
   rw[nv];exact SK g n) (by rw[pt];omega) G o.rd
  rw[Eu]at this;exact this
 clear o
 generalize u9 {x with vd:=.aO}=D at *
 generalize u9 x=C at *
 by_cases c0:x.m.wA.length=8
 · generalize x.m.wA.all y9=B1 at *
   cases B1<;>simp (disch:=omega)only[go_sem,vh,AP.f233,wC,wx,g,e0,e4,st,ld,k1 c0,Bool.not_not]
 · simp (disch:=omega)only[go_sem,vh,AP.f233,wC,wx,g,e0,e4,st,ld]
theorem PF (G:H) (x:wc) (o:zl G x) (P:Nat) (hP:G.floor≤P) (g:G.get P=some (u9 x)) (hk:x.m.kind=2):∃H2,aK (aQ AP.A) bz (at_ 3 AP.f233.body) [(1,.aC P 0),(3,.bool false)] G=some (.normal,[(1,.aC P 0),(3,.bool (decide (1≤x.m.wF.length)&&(yz x.m.wF&&(wD none (x.m.vt.map (·.1))&&(decide (x.m.vt.length≤6)&&x.m.vt.all fun b=>xo b.2)))))],H2)∧H2.get P=some (u9 {x with vb:=.aO,vf:=.aO}):=by
 have lC:(u9 x).length=9:=rfl
 have e0:(u9 x)[0]?=some (.int .i64 2):=by rw[←hk];rfl
 have e5:(u9 x)[5]?=some (x.vb):=rfl
 have e6:(u9 x)[6]?=some (x.vf):=rfl
 obtain⟨D1,hD1⟩:∃D,D=u9 {x with vb:=.aO}:=⟨_,rfl⟩
 have lD1:D1.length=9:=by rw[hD1];rfl
 have g11:(G.set P D1).get P=some D1:=by rw[vA rfl,g];rfl
 have CL:tO G P 5 1 [.aO] (some (u9 x))=some (G.set P D1):=by rw[uh hP (by rw[lC];omega) rfl,hD1];rfl
 have st:tO (G.set P D1) P 6 1 [.aO] (some D1)=some (G.set P (u9 {x with vb:=.aO,vf:=.aO})):=by rw[uh (by simpa using hP) (by rw[lD1];omega) rfl,H.set_set,hD1];rfl
 refine⟨G.set P (u9 {x with vb:=.aO,vf:=.aO}), ?_,by rw[vA rfl,g];rfl⟩
 have lb:=o.rb.len
 rw[pt]at lb
 simp only[I]at lb
 have zb:=o.zb
 have k1:=H6 G x.vb x.m.wF o.rb (by omega)
 have k2:=Ku G o
 have k3:=JU G o
 clear o hD1
 generalize u9 {x with vb:=.aO,vf:=.aO}=D at *
 generalize u9 x=C at *
 generalize yz x.m.wF=B1 at *
 generalize wD none (x.m.vt.map (·.1))=B2 at *
 generalize decide (x.m.vt.length≤6)=B4 at *
 generalize (x.m.vt.all fun b=>xo b.2)=B3 at *
 by_cases c0:1≤x.m.wF.length
 · cases B1<;>cases B2<;>cases B4<;>cases B3<;>simp (disch:=omega)only[go_sem,vh,AP.f233,wC,wx,g,e0,e5,e6,CL,g11,st,lb,k1,k2,k3]
 · simp (disch:=omega)only[go_sem,vh,AP.f233,wC,wx,g,e0,e5,e6,CL,g11,st,lb,k1,k2,k3]
theorem PG (G:H) (x:wc) (o:zl G x) (P:Nat) (hP:G.floor≤P) (g:G.get P=some (u9 x)) (hk:x.m.kind=3):∃H2,aK (aQ AP.A) bz (at_ 3 AP.f233.body) [(1,.aC P 0),(3,.bool false)] G=some (.normal,[(1,.aC P 0),(3,.bool (wD none x.m.names&&(decide (1≤x.m.names.length)&&decide (x.m.names.length≤6))))],H2)∧H2.get P=some (u9 {x with vn:=.aO}):=by
 have lC:(u9 x).length=9:=rfl
 have e0:(u9 x)[0]?=some (.int .i64 3):=by rw[←hk];rfl
 have e7:(u9 x)[7]?=some (x.vn):=rfl
 have st:tO G P 7 1 [.aO] (some (u9 x))=some (G.set P (u9 {x with vn:=.aO})):=by rw[uh hP (by rw[lC];omega) rfl];rfl
 refine⟨G.set P (u9 {x with vn:=.aO}), ?_,by rw[vA rfl,g];rfl⟩
 have k1:=Kw G o
 clear o
 generalize u9 {x with vn:=.aO}=D at *
 generalize u9 x=C at *
 generalize (wD none x.m.names&&(decide (1≤x.m.names.length)&&decide (x.m.names.length≤6)))=B1 at *
 simp (disch:=omega)only[go_sem,vh,AP.f233,wC,wx,g,e0,e7,st,k1]
theorem PH (G:H) (x:wc) (o:zl G x) (P:Nat) (hP:G.floor≤P) (g:G.get P=some (u9 x)) (hk:x.m.kind=4):∃H2,aK (aQ AP.A) bz (at_ 3 AP.f233.body) [(1,.aC P 0),(3,.bool false)] G=some (.normal,[(1,.aC P 0),(3,.bool ((wD none (x.m.wj.map (·.name))&&(decide (1≤x.m.wj.length)&&decide (x.m.wj.length≤6)))&&x.m.wj.all wG))],H2)∧H2.get P=some (u9 {x with ve:=.aO}):=by
 have lC:(u9 x).length=9:=rfl
 have e0:(u9 x)[0]?=some (.int .i64 4):=by rw[←hk];rfl
 have e8:(u9 x)[8]?=some (x.ve):=rfl
 have st:tO G P 8 1 [.aO] (some (u9 x))=some (G.set P (u9 {x with ve:=.aO})):=by rw[uh hP (by rw[lC];omega) rfl];rfl
 refine⟨G.set P (u9 {x with ve:=.aO}), ?_,by rw[vA rfl,g];rfl⟩
 have k1:=Kv G o
 have k2:=JV G o
 clear o
 generalize u9 {x with ve:=.aO}=D at *
 generalize u9 x=C at *
 generalize (wD none (x.m.wj.map (·.name))&&(decide (1≤x.m.wj.length)&&decide (x.m.wj.length≤6)))=B1 at *
 generalize x.m.wj.all wG=B2 at *
 cases B1<;>cases B2<;>simp (disch:=omega)only[go_sem,vh,AP.f233,wC,wx,g,e0,e8,st,k1,k2,Bool.not_not]
theorem PI (G:H) (P:Nat) {C:List AV} {n:Int} (g:G.get P=some C) (e0:C[0]?=some (.int .i64 n)) (h:¬(n=0∨n=1∨n=2∨n=3∨n=4)):aK (aQ AP.A) bz (at_ 3 AP.f233.body) [(1,.aC P 0),(3,.bool false)] G=some (.normal,[(1,.aC P 0),(3,.bool false)],G):=by
 simp (disch:=omega)only[go_sem,vh,AP.f233,wC,wx,g,e0]
theorem PJ (h : H) (x : wc) (o : zl h x) : aQ AP.A 233 [.agg (u9 x)] h = some (.bool (AB x.m), h) := by
 obtain⟨h1,eh1⟩:∃g,g=h.dX.alloc (u9 x):=⟨_,rfl⟩
 have x1:Ext h h1:=fun i c q=>by rw[eh1];exact((Ext.refl h.dX).alloc _) i c q
 have g1:h1.get h.next=some (u9 x):=by rw[eh1];exact vk rfl
 have n0:h.dX.next=h.next:=rfl
 have f1:h1.floor=h.next:=by rw[eh1];simp
 have o1:=o.mono x1
 have ld:=o1.rd.len
 have lb:=o1.rb.len
 have lf:=o1.rf.rd.len
 have ln:=o1.rn.len
 have le:=o1.re.len
 rw[pt]at ld lb
 rw[w9]at ln
 rw[show x.fs.length=x.m.vt.length by rw[←o.hf];simp]at lf
 rw[show x.es.length=x.m.wj.length by rw[←o.he];simp]at le
 have b0:aK (aQ AP.A) bz (at_ 0 AP.f233.body) (params 0 [.agg (u9 x)]) h.dX=some (.normal,[(1,.aC h.next 0)],h1):=by
  have cC:=yo o
  have lC:(u9 x).length=9:=rfl
  generalize u9 x=C at *
  clear o o1 x1
  simp (disch:=omega)only[go_sem,vh,AP.f233,wx,lC,cC,n0,←eh1]
 have b1:=IL g1 (s:=x.m.src) (d:=x.m.dst) rfl rfl
 have b2:aK (aQ AP.A) bz (at_ 2 AP.f233.body) [(1,.aC h.next 0)] h1=some (.normal,[(1,.aC h.next 0),(3,.bool false)],h1):=by
  simp (disch:=omega)only[go_sem,vh,AP.f233,wC,wx]
 have eA:AB x.m=((vW x.m.src&&(vW x.m.dst&& !decide (x.m.src=x.m.dst)))&&(xS x.m&&yB x.m)):=rfl
 obtain ⟨hZ, hh⟩ : ∃ hZ, aK (aQ AP.A) bz AP.f233.body (params 0 [.agg (u9 x)]) h.dX = some (.ret, [(2, .bool (AB x.m))], hZ) := by
  rw[IK,eA]
  generalize (vW x.m.src&&(vW x.m.dst&& !decide (x.m.src=x.m.dst)))=N at *
  cases N with
  | false =>
    rw[if_neg (by decide)]at b1
    refine⟨h1, ?_⟩
    rw[UZ,rF,b0,su,rF,b1,sA]
  | true =>
    rw[if_pos rfl]at b1
    rw[U7]
    have go:∀{F:Bool} {H2:H} {y:wc} {a b c d e:Nat},aK (aQ AP.A) bz (at_ 3 AP.f233.body) [(1,.aC h.next 0),(3,.bool false)] h1=some (.normal,[(1,.aC h.next 0),(3,.bool F)],H2)→H2.get h.next=some (u9 y)→
     jc false y.vd=some (.int .i64 a)→jc false y.vb=some (.int .i64 b)→jc false y.vf=some (.int .i64 c)→jc false y.vn=some (.int .i64 d)→jc false y.ve=some (.int .i64 e)→a<140737488355328→b<140737488355328→c<140737488355328→d<140737488355328→e<140737488355328→
     xS x.m=F→(F=true→yB x.m=(decide (y.m.root=0)&&decide ((((a:Int)+b)+c+d)+e=0)))→
     ∃hZ,aK (aQ AP.A) bz (.seq (at_ 0 AP.f233.body) (.seq (at_ 1 AP.f233.body) (.seq (at_ 2 AP.f233.body) (.seq (at_ 3 AP.f233.body) (F3 4 AP.f233.body))))) (params 0 [.agg (u9 x)]) h.dX=some (.ret,[(2,.bool (xS x.m&&yB x.m))],hZ):=fun {F H2 y a b c d e} k1 k2 l4 l5 l6 l7 l8 za zb zc zd ze ek el=>by
     have b4:=IM k2 (r:=y.m.root) rfl rfl rfl rfl rfl rfl l4 l5 l6 l7 l8 za zb zc zd ze F
     refine⟨H2, ?_⟩
     rw[rF,b0,su,rF,b1,su,rF,b2,su,rF,k1,su,b4,ek]
     cases F with
     |false=>rfl
     |true=>rw[el rfl]
    by_cases hk:x.m.kind=0
    · obtain⟨H2,k1,k2⟩:=PC h1 x o1 h.next (by omega) g1 hk
      exact go k1 k2 ld lb lf ln le o.zd o.zb o.zf o.zn o.ze (by unfold xS;rw[if_pos hk]) fun _=>by rw[Pw hk];rfl
    by_cases hk:x.m.kind=1
    · obtain⟨H2,k1,k2⟩:=PD h1 x o1 h.next (by omega) g1 hk
      exact go k1 k2 (a:=0) rfl lb lf ln le (by omega) o.zb o.zf o.zn o.ze (by unfold xS;rw[if_neg (by omega),if_pos hk]) fun _=>Px hk
    by_cases hk:x.m.kind=2
    · obtain⟨H2,k1,k2⟩:=PF h1 x o1 h.next (by omega) g1 hk
      exact go k1 k2 (b:=0) (c:=0) ld rfl rfl ln le o.zd (by omega) (by omega) o.zn o.ze (by unfold xS;rw[if_neg (by omega),if_neg (by omega),if_pos hk]) fun _=>Py hk
    by_cases hk:x.m.kind=3
    · obtain⟨H2,k1,k2⟩:=PG h1 x o1 h.next (by omega) g1 hk
      exact go k1 k2 (d:=0) ld lb lf rfl le o.zd o.zb o.zf (by omega) o.ze (by unfold xS;rw[if_neg (by omega),if_neg (by omega),if_neg (by omega),if_pos hk]) fun _=>lean_3 hk
    by_cases hk:x.m.kind=4
    · obtain⟨H2,k1,k2⟩:=PH h1 x o1 h.next (by omega) g1 hk
      refine go k1 k2 (e:=0) ld lb lf ln rfl o.zd o.zb o.zf o.zn (by omega) ?_ fun _=>Pz hk
      unfold xS
      rw[if_neg (by omega),if_neg (by omega),if_neg (by omega),if_neg (by omega),if_pos hk]
      unfold vY wR
      have:=Fj x.m.wj none
      rw[U6]at this
      generalize decide (x.m.wj.length≤6)=W at *
      generalize decide (1≤x.m.wj.length)=W2 at *
      cases W<;>cases W2<;>simp only[Bool.and_true,U3,UZ,U7]<;>exact this
    have k1:=PI h1 h.next g1 (n:=x.m.kind) rfl (by omega)
    exact go k1 g1 ld lb lf ln le o.zd o.zb o.zf o.zn o.ze (Kf (by omega)) fun q=>by cases q
 exact tM (fn:=AP.f233) (h2:=hZ) (e:=[(2,.bool (AB x.m))]) rfl rfl rfl hh rfl rfl
theorem Ke (h:H) (v w:AV) (a b:List Int) (ra:Rd h v (ints a)) (rb:Rd h w (ints b)) (ha:xo a=true) (hb:xo b=true) (hfn:h.floor≤h.next):∃h',aQ AP.A 110 [v,w] h=some (.bO [.aD (h.next+1) 0 4 1,.int .i64 0],h')∧h'.get (h.next+1)=some (ints (zR a b))∧h'.floor=h.floor∧h'.next=h.next+2∧∀i,i<h.next→h'.get i=h.get i:=by
 have la:a.length=4:=by unfold xo at ha;simp only[uG,UY]at ha;exact ha.1
 have lb:b.length=4:=by unfold xo at hb;simp only[uG,UY]at hb;exact hb.1
 have k1:=GW h v a ra (by omega)
 have k2:=GW h w b rb (by omega)
 rw[ha]at k1;rw[hb]at k2
 have k3:=DX h v a ra (by omega) (by omega) hfn
 rw[la]at k3
 obtain⟨h1,eh1⟩:∃g,g=((h.alloc []).del h.next).alloc (ints a):=⟨_,rfl⟩
 rw[←eh1]at k3
 have n1:h1.next=h.next+2:=by rw[eh1];simp
 have f1:h1.floor=h.floor:=by rw[eh1];simp
 have g1:h1.get (h.next+1)=some (ints a):=by rw[eh1];exact vk (by simp)
 have e1:Ext h h1:=fun i c q=>by
  have:=h.lt _ _ q
  rw[eh1,H.aV,if_neg (by simp;omega),H.ed,if_neg (by omega),H.aV,if_neg (by omega)];exact q
 have ln:=(rb.mono fun i c q=>e1 i c q).len
 rw[pt,lb]at ln
 obtain⟨adv,a1,a2⟩:=rb.wI
 obtain⟨a0,b0,c0,d0,rfl⟩:=KW la
 obtain⟨p0,p1,p2,p3,rfl⟩:=KW lb
 obtain⟨h2,eh2⟩:∃g,g=h1.set (h.next+1) (ints [wT a0 p0,b0,c0,d0]):=⟨_,rfl⟩
 obtain⟨h3,eh3⟩:∃g,g=h2.set (h.next+1) (ints [wT a0 p0,wT b0 p1,c0,d0]):=⟨_,rfl⟩
 obtain⟨h4,eh4⟩:∃g,g=h3.set (h.next+1) (ints [wT a0 p0,wT b0 p1,wT c0 p2,d0]):=⟨_,rfl⟩
 obtain⟨h5,eh5⟩:∃g,g=h4.set (h.next+1) (ints [wT a0 p0,wT b0 p1,wT c0 p2,wT d0 p3]):=⟨_,rfl⟩
 have g2:h2.get (h.next+1)=some (ints [wT a0 p0,b0,c0,d0]):=by rw[eh2,vA rfl,g1];rfl
 have g3:h3.get (h.next+1)=some (ints [wT a0 p0,wT b0 p1,c0,d0]):=by rw[eh3,vA rfl,g2];rfl
 have g4:h4.get (h.next+1)=some (ints [wT a0 p0,wT b0 p1,wT c0 p2,d0]):=by rw[eh4,vA rfl,g3];rfl
 have g5:h5.get (h.next+1)=some (ints [wT a0 p0,wT b0 p1,wT c0 p2,wT d0 p3]):=by rw[eh5,vA rfl,g4];rfl
 have e2:Ext h h2:=by rw[eh2];exact e1.set (by omega) _
 have e3:Ext h h3:=by rw[eh3];exact e2.set (by omega) _
 have e4:Ext h h4:=by rw[eh4];exact e3.set (by omega) _
 have s0:=zM h1 (h.next+1) w adv 0 a0 p0 _ (by omega) g1 rfl rfl (by omega) (a1 0 (by simp)) (a2 h1 e1 0 _ rfl)
 have s1:=zM h2 (h.next+1) w adv 1 b0 p1 _ (by omega) g2 rfl rfl (by rw[eh2];simp;omega) (a1 1 (by simp)) (a2 h2 e2 1 _ rfl)
 have s2:=zM h3 (h.next+1) w adv 2 c0 p2 _ (by omega) g3 rfl rfl (by rw[eh3,eh2];simp;omega) (a1 2 (by simp)) (a2 h3 e3 2 _ rfl)
 have s3:=zM h4 (h.next+1) w adv 3 d0 p3 _ (by omega) g4 rfl rfl (by rw[eh4,eh3,eh2];simp;omega) (a1 3 (by simp)) (a2 h4 e4 3 _ rfl)
 have st0:h1.set (h.next+1) ((ints [a0,b0,c0,d0]).set 0 (.int .i64 (wT a0 p0)))=h2:=eh2.symm
 have CL:h2.set (h.next+1) ((ints [wT a0 p0,b0,c0,d0]).set 1 (.int .i64 (wT b0 p1)))=h3:=eh3.symm
 have st2:h3.set (h.next+1) ((ints [wT a0 p0,wT b0 p1,c0,d0]).set 2 (.int .i64 (wT c0 p2)))=h4:=eh4.symm
 have st3:h4.set (h.next+1) ((ints [wT a0 p0,wT b0 p1,wT c0 p2,d0]).set 3 (.int .i64 (wT d0 p3)))=h5:=eh5.symm
 rw[st0]at s0;rw[CL]at s1;rw[st2]at s2;rw[st3]at s3
 have fin:Lp AP.A [6,19,20,21] AP.f110L0 [(6,.aD (h.next+1) 0 4 1),(19,w),(20,.int .i64 4),(21,.int .i64 4)] h5=some (.exit 0,[(6,.aD (h.next+1) 0 4 1),(19,w),(20,.int .i64 4),(21,.int .i64 4),(22,.bool false)],h5):=by
  refine sY ?_
  simp (disch:=omega)only[go_sem,vh,AP.f110L0]
 have lp:Lp AP.A [6,19,20,21] AP.f110L0 [(6,.aD (h.next+1) 0 4 1),(19,w),(20,.int .i64 4),(21,.int .i64 0)] h1=some (.exit 0,[(6,.aD (h.next+1) 0 4 1),(19,w),(20,.int .i64 4),(21,.int .i64 4),(22,.bool false)],h5):=
  sZ s0 (sZ s1 (sZ s2 (sZ s3 fin)))
 simp only[I]at ln
 have ln':jc false w=some (.int .i64 4):=ln
 refine⟨h5,tr (fn:=AP.f110) (h2:=h5) (e:=[(4,.aD (h.next+1) 0 4 1),(5,.int .i64 0)]) (vs:=[.aD (h.next+1) 0 4 1,.int .i64 0]) rfl rfl rfl ?_ rfl,g5,by rw[eh5,eh4,eh3,eh2];simp [f1],by rw[eh5,eh4,eh3,eh2];simp [n1],fun i hi=>by rw[eh5,vp (by omega),eh4,vp (by omega),eh3,vp (by omega),eh2,vp (by omega),eh1,H.aV,if_neg (by simp;omega),H.ed,if_neg (by omega),H.aV,if_neg (by omega)]⟩
 clear a1 a2 e1 e2 e3 e4 s0 s1 s2 s3 ra rb fin ha hb
 simp (disch:=omega)only[go_sem,vh,AP.f110,k1,k2,k3,ln',rR,lp]
theorem JY (h:H) (hf:h.floor≤h.next) (e:vQ) (v:AV) (hv:v.sc=true) (ok:wS h (e,v)) (h4:e.vec.length=4):
 ∃h' i,aQ AP.A 308 [.agg (vq e v)] h=some (.agg (vq e (.aD i 0 4 1)),h')∧h'.get i=some (ints e.vec)∧h.next≤i∧Ext h h'∧h'.floor=h.floor∧h.next≤h'.next:=by
 obtain⟨h1,eh1⟩:∃g,g=h.alloc (vq e v):=⟨_,rfl⟩
 obtain⟨h2,eh2⟩:∃g,g=h1.alloc (vq EO .aO):=⟨_,rfl⟩
 obtain⟨h3,eh3⟩:∃g,g=((h2.alloc []).del h2.next).alloc (ints e.vec):=⟨_,rfl⟩
 have n1:h1.next=h.next+1:=by rw[eh1];simp
 have n2:h2.next=h.next+2:=by rw[eh2];simp [n1]
 have n3:h3.next=h.next+4:=by rw[eh3];simp [n2]
 have f2:h2.floor=h.floor:=by rw[eh2,eh1];simp
 have f3:h3.floor=h.floor:=by rw[eh3];simp [f2]
 have low:∀i,i<h.next+2→h3.get i=h2.get i:=fun i hi=>by rw[eh3,vN (by simp [n2];omega),H.ed,if_neg (by omega),vN (by omega)]
 have x2:Ext h h2:=by rw[eh2,eh1];exact((Ext.refl h).alloc _).alloc _
 have ga:h2.get h.next=some (vq e v):=by rw[eh2,vN (by omega),eh1,vk rfl]
 have gz:h2.get (h.next+1)=some (vq EO .aO):=by rw[eh2,vk (by omega)]
 have k1:=DX h2 v e.vec (ok.vec.mono fun i c q=>x2 i c q) (by omega) (by omega) (by rw[f2,n2];omega)
 rw[n2,h4]at k1
 rw[←n2,←eh3,n2]at k1
 have g3:h3.get (h.next+3)=some (ints e.vec):=by rw[eh3,vk (by simp [n2])]
 have ga3:h3.get h.next=some (vq e v):=by rw[low _ (by omega)];exact ga
 have gz3:h3.get (h.next+1)=some (vq EO .aO):=by rw[low _ (by omega)];exact gz
 obtain⟨w,hw⟩:∃w,w=AV.aD (h.next+3) 0 4 1:=⟨_,rfl⟩
 have k1':aQ AP.A 118 [v] h2=some (w,h3):=by rw[hw];exact k1
 have sw:w.sc=true:=by rw[hw];rfl
 have cw:=wZ sw
 obtain⟨h4',eh4⟩:∃g,g=h3.set h.next (vq e w):=⟨_,rfl⟩
 obtain⟨h5,eh5⟩:∃g,g=h4'.set (h.next+1) (vq e w):=⟨_,rfl⟩
 have ga4:h4'.get h.next=some (vq e w):=by rw[eh4,vA rfl,ga3];rfl
 have gz4:h4'.get (h.next+1)=some (vq EO .aO):=by rw[eh4,vp (by omega)];exact gz3
 have gz5:h5.get (h.next+1)=some (vq e w):=by rw[eh5,vA rfl,gz4];rfl
 have st4:tO h3 h.next 2 1 [w] (some (vq e v))=some h4':=by rw[uh (by omega) (by show 2<9;omega) sw,eh4];rfl
 have st5:tO h4' (h.next+1) 0 9 (vq e w) (some (vq EO .aO))=some h5:=by
  rw[eh5];exact wE (by rw[eh4];simp;omega) rfl rfl (yf sw)
 have K:aQ AP.A 308 [.agg (vq e v)] h=some (.agg (vq e w),h5):=by
  refine tr (fn:=AP.f308) (h2:=h5) (e:=[(2,.aC (h.next+1) 0)]) (vs:=[.agg (vq e w)]) rfl rfl rfl ?_ (by simp only[AP.f308,cL,mQ,mE,qz,gz5,sS];rfl)
  have z:h1.alloc [.str ⟨#[]⟩,.bool false,.aO,.int .i64 0,.int .i64 0,.int .i64 0,.str ⟨#[]⟩,.int .i64 0,.int .i64 0]=h2:=eh2.symm
  have lE:(vq e v).length=9:=rfl
  have cE:=yf (e:=e) hv
  have e2:(vq e v)[2]?=some v:=rfl
  have rr:hR true 9 (vq e w) 0=some (.agg (vq e w)):=rfl
  clear ok low x2 hw
  generalize vq e v=A at *
  generalize vq e w=B at *
  simp (disch:=omega)only[go_sem,vh,AP.f308,lE,cE,←eh1,n1,z,ga,e2,k1',ga3,cw,st4,ga4,rr,gz4,st5]
 rw[hw]at K
 refine⟨h5,h.next+3,K, ?_,by omega,fun i c q=> ?_,by rw[eh5,eh4];simp [f3],by rw[eh5,eh4];simp;omega⟩
 · rw[eh5,vp (by omega),eh4,vp (by omega)];exact g3
 · have:=h.lt _ _ q
   rw[eh5,vp (by omega),eh4,vp (by omega),low _ (by omega)];exact x2 i c q
def zg (L:List vQ) (b:Ha):Bool:=(vO b.1 L).2&&(match L[(vO b.1 L).1]? with|some e=>decide (zR e.vec b.2=e.vec)|none=>false)
theorem CA (s:ByteArray):∀(L:List vQ),(vO s L).2=true→(vO s L).1<L.length
 |[],h=>by cases h
 | e :: L, h => by
   rw[vO]at h ⊢
   by_cases c:Op.bytesLess e.name.toList s.toList=true
   · rw[if_pos c]at h ⊢
     have:=CA s L h
     simp only[UR];omega
   · rw[if_neg c];simp
theorem wL {L:List vQ} (h:vY L=true):wR L=true:=by
 unfold vY at h;rw[uG]at h;exact h.1
theorem Ce {L:List vQ} (h:vY L=true):∀e∈L,xo e.vec=true∧e.vec.length=4∧e.name.size≤8:=fun e he=>by
 have m:=(vV (wL h)).2.1 e he
 have v:=m.2.1
 simp only[wg,uG]at v
 exact⟨v.1,(xz m.2.1).1,(wY m.1).2⟩
structure Sd (h:H) (v w:AV) (l:List vF):Prop where
 rd:wO 9 h v l.length (vD l)
 ok:∀x∈l,wS h x∧x.2.sc=true
 fo:vY (l.map (·.1))=true
 dg:Rd h w (ints (vK (l.map (·.1))))
theorem Sd.mono {h g:H} {v w:AV} {l:List vF} (s:Sd h v w l) (e:Ext h g):Sd g v w l:=
 ⟨s.rd.mono fun i c q=>e i c q,fun x hx=>⟨(s.ok x hx).1.mono e,(s.ok x hx).2⟩,s.fo,s.dg.mono fun i c q=>e i c q⟩
theorem Sd.len {h:H} {v w:AV} {l:List vF} (s:Sd h v w l):l.length≤6:=by
 have:=(vV (wL s.fo)).1
 simpa using this
theorem Kg (h:H) (hf:h.floor≤h.next) (S:Nat) (v w:AV) (l:List vF) (sd:Sd h v w l) (gS:h.get S=some [v,w]) (p:AV) (b:Ha) (vb:AV) (pn:∀g,jz g p=some (p,g)) (p0 p1:AV) (q0:fi 0 p=some p0) (q1:fi 1 p=some p1) (l0:∀g,Ext h g→bS false 1 p0 g=some (.str b.1)) (l1:∀g,Ext h g→bS false 1 p1 g=some vb) (rv:Rd h vb (ints b.2)) (hb:xo b.2=true):
 ∃h',aQ AP.A 306 [.aC S 0,p] h=some (.bool (zg (l.map (·.1)) b),h')∧Ext h h'∧h'.floor=h.floor∧h.next≤h'.next:=by
 have ln:=sd.len
 have k1:=KS h S 0 v gS rfl l ln sd.rd (fun x hx=>(sd.ok x hx).2) b.1 (Je (wL sd.fo))
 have m0:=l0 h (Ext.refl h)
 have m1:=l1 h (Ext.refl h)
 unfold zg
 cases hp:(vO b.1 (l.map (·.1))).2 with
 | false =>
   rw[hp]at k1
   rw[UZ]
   refine⟨h,tr (fn:=AP.f306) (h2:=h) (e:=[(4,.bool false)]) (vs:=[.bool false]) rfl rfl rfl ?_ rfl,Ext.refl h,rfl,uF _⟩
   clear sd l0 l1 rv
   generalize (vO b.1 (l.map (·.1))).1=K at *
   simp (disch:=omega)only[go_sem,vh,AP.f306,pn,q0,q1,m0,m1,k1]
 | true =>
   rw[hp]at k1
   rw[U7]
   have lt:=CA _ _ hp
   rw[UW]at lt
   obtain⟨x,hx⟩:∃x,l[(vO b.1 (l.map (·.1))).1]?=some x:=⟨l[(vO b.1 (l.map (·.1))).1],by simp⟩
   have hx':(l.map (·.1))[(vO b.1 (l.map (·.1))).1]?=some x.1:=by rw[uO,hx];rfl
   rw[hx']
   have hm:=uJ hx
   obtain⟨ok,sc⟩:=sd.ok x hm
   have fx:=Ce sd.fo x.1 (U8.2 ⟨x,hm,rfl⟩)
   obtain⟨ad,a1,a2⟩:=sd.rd.FB
   obtain⟨pe,_⟩:=a2 h (Ext.refl h) _ x hx
   have b1:=a1 (vO b.1 (l.map (·.1))).1 ⟨by omega,by omega⟩
   obtain⟨qq,f1,f2⟩:=pe.th
   have e2:=f2 h (Ext.refl h) 2 _ rfl
   obtain⟨h',k2,g2,f',n',low⟩:=Ke h x.2 vb x.1.vec b.2 ok.vec rv fx.1 hb hf
   have x':Ext h h':=fun i c q=>by rw[low i (h.lt _ _ q)];exact q
   have jl:(zR x.1.vec b.2).length=4:=by
    have:b.2.length=4:=by simp only[xo,uG,UY]at hb;exact hb.1
    simp [zR,fx.2.1,this]
   have k3:=Rq h' (.aD (h.next+1) 0 4 1) x.2 (zR x.1.vec b.2) x.1.vec (Rd.obj g2 jl) (ok.vec.mono fun i c q=>x' i c q) (by omega) (by omega)
   refine⟨h',tr (fn:=AP.f306) (h2:=h') (e:=[(4,.bool (decide (zR x.1.vec b.2=x.1.vec)))]) (vs:=[.bool (decide (zR x.1.vec b.2=x.1.vec))]) rfl rfl rfl ?_ rfl,x',f',by omega⟩
   clear sd l0 l1 rv a1 a2 pe f2 ok x' low hx hx' hm
   generalize (vO b.1 (l.map (·.1))).1=K at *
   generalize decide (zR x.1.vec b.2=x.1.vec)=B at *
   simp (disch:=omega)only[go_sem,vh,AP.f306,pn,q0,q1,m0,m1,gS,Vg,b1,f1,e2,k1,k2,k3]
structure Ui (h:H) (O:Nat) (y:wc):Prop where
 get:h.get O=some (u9 y)
 fl:h.floor≤O
theorem Jn (h:H) (S M O:Nat) (v w:AV) (l:List vF) (sd:Sd h v w l) (gS:h.get S=some [v,w]) (x y:wc) (gM:h.get M=some (u9 x)) (gO:h.get O=some (u9 y)) (hO:h.floor≤O) (ne:S≠O∧M≠O) (sw:w.sc=true):
 aQ AP.A 300 [.aC S 0,.aC M 0,.aC O 0] h=some (.bool (!decide (vX (vK (l.map (·.1)))=x.m.root)),h.set O (u9 {y with m:={y.m with kind:=1},vd:=w})):=by
 have k1:=Jf h w _ sd.dg (by rw[vI];omega)
 unfold GH at k1
 rw[Ca,vI,dt rfl,Ve,if_pos rfl]at k1
 obtain⟨h1,eh1⟩:∃g,g=h.set O (u9 {y with m:={y.m with kind:=1}}):=⟨_,rfl⟩
 have CL:tO h O 0 1 [.int .i64 1] (some (u9 y))=some h1:=by rw[uh hO (by show 0<9;omega) rfl,eh1];rfl
 have g1:h1.get O=some (u9 {y with m:={y.m with kind:=1}}):=by rw[eh1,vA rfl,gO];rfl
 have st2:tO h1 O 4 1 [w] (some (u9 {y with m:={y.m with kind:=1}}))=some (h.set O (u9 {y with m:={y.m with kind:=1},vd:=w})):=by rw[uh (by rw[eh1];simpa using hO) (by show 4<9;omega) sw,eh1,H.set_set];rfl
 have cw:=wZ sw
 obtain⟨h2,eh2⟩:∃g,g=h.set O (u9 {y with m:={y.m with kind:=1},vd:=w}):=⟨_,rfl⟩
 have g2:h2.get M=some (u9 x):=by rw[eh2,vp ne.2];exact gM
 have e3:(u9 x)[3]?=some (.int .i64 x.m.root):=rfl
 rw[←eh2]at st2 ⊢
 refine tr (fn:=AP.f300) (h2:=h2) (e:=[(6,.bool (!decide (vX (vK (l.map (·.1)))=x.m.root)))]) (vs:=[.bool (!decide (vX (vK (l.map (·.1)))=x.m.root))]) rfl rfl rfl ?_ rfl
 clear sd
 generalize vX (vK (l.map (·.1)))=R at *
 generalize u9 x=X at *
 generalize u9 y=Y at *
 generalize u9 {y with m:={y.m with kind:=1}}=Y1 at *
 by_cases c:R=x.m.root
 · rw[dt c]
   simp (disch:=omega)only[go_sem,vh,AP.f300,uK,Vg,gS,k1,gO,CL,g1,cw,st2,g2,e3,KY c]
 · rw[df c]
   simp (disch:=omega)only[go_sem,vh,AP.f300,uK,Vg,gS,k1,gO,CL,g1,cw,st2,g2,e3,PK c]
end Ab
