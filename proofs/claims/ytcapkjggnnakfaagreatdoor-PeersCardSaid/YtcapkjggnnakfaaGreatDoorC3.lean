/- Part C3. -/
import Derived.Test.YtcapkjggnnakfaaGreatDoorC2
set_option linter.unusedSimpArgs false
set_option linter.unusedVariables false
set_option maxRecDepth 100000
namespace Ab
open Go
def CJ (s:ByteArray):List Nat:=s.data.toList.map (·.toNat)
theorem Ig (s:ByteArray):(CJ s).length=s.size:=by unfold CJ;rw[Xd,Array.length_toList];rfl
theorem Me (a b:ByteArray):CJ (a++b)=CJ a++CJ b:=by simp [CJ]
theorem KV (s:ByteArray):∀b∈CJ s,b<256:=by
 intro b hb
 obtain⟨x,_,rfl⟩:=Xl.1 hb
 exact x.toNat_lt
theorem FB (s:ByteArray):bytesOf (CJ s)=s:=by
 unfold CJ bytesOf;rw[List.map_map];apply ByteArray.ext;simp [Function.comp_def]
theorem Gz {l:List Nat} (h:∀b∈l,b<256):CJ (bytesOf l)=l:=by
 simp only[CJ,bytesOf,List.map_map]
 conv=>rhs;rw[←List.map_id l]
 exact List.map_congr_left fun b hb=>by simp [Function.comp,UInt8.toNat_ofNat_of_lt' (h b hb)]
theorem yO (a b:List Nat):bytesOf a++bytesOf b=bytesOf (a++b):=by
 apply ByteArray.ext;simp [bytesOf]
theorem zt (x k:Nat):∀b∈wq x k,b<256:=by
 intro b hb
 obtain⟨i,_,rfl⟩:=Xl.1 hb
 exact Nat.mod_lt _ (by omega)
theorem CH {a b:ByteArray} (h:a.size+b.size≤9223372036854775807):br .add (.str a) (.str b)=some (.str (a++b)):=Af h
theorem xC {a b:List Nat} (h:a.length+b.length≤9223372036854775807):br .add (.str (bytesOf a)) (.str (bytesOf b))=some (.str (bytesOf (a++b))):=by
 rw[CH (by rw[wN,wN];exact h),yO]
def FH (c:Nat) (l:List Nat):Nat:=l.foldl yY c
theorem Le {s:ByteArray} {i:Nat} {p q:List Nat} {b:Nat} (h:CJ s=p++b::q) (hi:p.length=i):y6 s i=b:=by
 have:(CJ s)[i]?=some b:=by rw[h,←hi];simp
 unfold y6
 unfold CJ at this
 rw[vq]at this
 have e:s[i]?=s.data.toList[i]?:=by
  show s.data[i]?=_
  simp
 rw[e]
 cases hq:s.data.toList[i]? with
 |none=>rw[hq]at this;cases this
 |some x=>rw[hq]at this;simpa using this
theorem DW (s:ByteArray):∀(q p:List Nat) (c:Nat),CJ s=p++q→yI s q.length p.length c=FH c q
 |[],p,c,h=>rfl
 | b :: q, p, c, h => by
   show yI s q.length (p.length+1) (yY c (y6 s p.length))=_
   have:=DW s q (p++[b]) (yY c b) (by rw[h];simp)
   rw[Le h rfl]
   rw[vF]at this
   exact this
theorem Bt (a:Nat) (s:ByteArray):xN a s=4294967295-FH (4294967295-a) (CJ s):=by
 unfold xN
 have:=DW s (CJ s) [] (4294967295-a) rfl
 rw[Ig]at this
 rw[←this];rfl
theorem Hx:∀(l:List Nat) {c:Nat},c<4294967296→(∀b∈l,b<256)→FH c l<4294967296
 |[],_,h,_=>h
 |b::l,_,h,hb=>Hx l (zZ h (hb b (by simp))) (fun x hx=>hb x (by simp [hx]))
theorem Az {a:Nat} (s t:ByteArray):xN (xN a s) t=xN a (s++t):=by
 rw[Bt,Bt a,Bt a,Me]
 have:=Hx (CJ s) (c:=4294967295-a) (by omega) (KV s)
 rw[show 4294967295-(4294967295-FH (4294967295-a) (CJ s))=FH (4294967295-a) (CJ s)by omega]
 simp [FH]
def yX (l:List Nat):Nat:=4294967295-FH 4294967295 l
theorem Pk (s:ByteArray):yo s=yX (CJ s):=Bt 0 s
theorem zY {l:List Nat} (h:∀b∈l,b<256):yo (bytesOf l)=yX l:=by rw[Pk,Gz h]
def Ba (l:List Int):List Nat:=l.flatMap fun n=>wq n.toNat 4
def BT (e:wR):List Nat:=wq 20592 2++wq 22 2++Ba e.vec++wq e.wx.toNat 4++wq e.node.toNat 1++wq (if e.gone then 1 else 0) 1
theorem BD (l:List Int):(Ba l).length=4* l.length:=by
 induction l with
 |nil=>rfl
 |cons n l ih=>unfold Ba at *;rw[List.flatMap_cons,vF,vZ,ih,W9];omega
theorem Ij (l:List Int):∀b∈Ba l,b<256:=by
 intro b hb
 obtain⟨n,_,hn⟩:=List.mem_flatMap.1 hb
 exact zt _ _ b hn
theorem LU (e:wR):∀b∈BT e,b<256:=by
 intro b hb
 unfold BT at hb
 simp only[XI]at hb
 rcases hb with ((((hb|hb)|hb)|hb)|hb)|hb
 · exact zt _ _ b hb
 · exact zt _ _ b hb
 · exact Ij _ b hb
 · exact zt _ _ b hb
 · exact zt _ _ b hb
 · exact zt _ _ b hb
def I6 (e:wR):AV:=if xj e=true then .bP [.str (bytesOf (BT e)),.int .i64 0]else .bP [.str ⟨#[]⟩,.int .i64 1200]
theorem yj {e:wR} (h:xj e=true):e.vec.length=4∧(∀n∈e.vec,0≤n∧n≤1048576)∧(1≤e.wx∧e.wx≤1048576)∧(0≤e.node∧e.node<4):=by
 simp only[xj,xn,xF,wU,u9,Xh,Xv]at h
 exact⟨h.1.1,h.1.2,⟨h.2.1,h.2.2.1.2⟩,h.2.2.2⟩
theorem Gc {v P:AV} {l:List Int} (hl:l.length<1000000) (hn:∀n∈l,0≤n∧n≤1048576) (h:H) (rd:Rd h v (ints l)):∀(q p:List Int) (acc:List Nat),l=p++q→acc.length+4* q.length<100000000→
 ∃e',Lp AP.A [1,4,14,15,16] AP.f102L0 [(1,P),(4,.str (bytesOf acc)),(14,v),(15,.int .i64 l.length),(16,.int .i64 p.length)] h=some (.exit 0,e',h)∧look e' 1=P∧look e' 4=.str (bytesOf (acc++Ba q))
 | [], p, acc, hp, ha => by
   refine⟨[(1,P),(4,.str (bytesOf acc)),(14,v),(15,.int .i64 l.length),(16,.int .i64 p.length),(17,.bool false)],tF ?_,rfl,by simp [Ba,look]⟩
   have e:l.length=p.length:=by rw[hp];simp
   rw[e]
   simp (disch:=first|omega|(simp only[xk,W9,Xa,vk,Nat.reduceAdd];first|done|omega|fail)|(simp (disch:=first|omega|(simp only[xk,W9,Xa,vk,Nat.reduceAdd];first|done|omega|fail)|fail)only[xk,Ao,Xc,W9,Xa,vk,Nat.reduceAdd];done)|fail)only[go_sem,vN,AK,AP.f102L0]
 | n :: q, p, acc, hp, ha => by
   rw[W9]at ha
   obtain⟨e',r1,r2,r3⟩:=Gc (P:=P) hl hn h rd q (p++[n]) (acc++wq n.toNat 4) (by rw[hp];simp) (by rw[vF,vZ];omega)
   obtain⟨ad,a1,a2⟩:=rd.xg
   have hlen:l.length=p.length+(q.length+1):=by rw[hp];simp
   have i1:=a1 (p.length:Int) ⟨by omega,by omega⟩
   have i2:=a2 h (Ext.refl h) p.length n (by rw[hp];simp)
   have bn:=hn n (by rw[hp];simp)
   have k1:=fun g=>AM g n.toNat 4 (by omega) (by omega)
   rw[show((n.toNat:Nat):Int)=n by omega]at k1
   have s1:br .add (.str (bytesOf acc)) (.str (DL n.toNat 4))=some (.str (bytesOf (acc++wq n.toNat 4))):=xC (by rw[vZ];omega)
   have n1:((p.length+1:Nat):Int)=(p.length:Int)+1:=by omega
   rw[vF,show [n].length=1 from rfl,n1]at r1
   refine⟨e',tG ?_ r1,r2,by rw[r3];simp [Ba]⟩
   have k1':∀g:H,aS AP.A 104 [.int .i64 n,.int .i64 4] g=some (.str (DL n.toNat 4),g):=k1
   simp (disch:=first|omega|(simp only[xk,W9,Xa,vk,Nat.reduceAdd];first|done|omega|fail)|(simp (disch:=first|omega|(simp only[xk,W9,Xa,vk,Nat.reduceAdd];first|done|omega|fail)|fail)only[xk,Ao,Xc,W9,Xa,vk,Nat.reduceAdd];done)|fail)only[go_sem,vN,AK,AP.f102L0,i1,i2,k1',s1]
theorem PE.obj {h:H} {id:Nat} {cs:List AV} (hg:h.get id=some cs):PE h (.aC id 0) cs:=
 ⟨fun g=>rfl,fun k=>.aC id (0+k),fun k=>rfl,fun g hx k c hc=>by
  show bU false 1 (.aC id (0+k)) g=_
  rw[vk]
  simp only[bU,hx _ _ hg,uZ,ij,hc];rfl⟩
theorem Pp (h:H) (hf:h.floor≤h.next) (e:wR) (v:AV) (hv:v.sc=true) (ok:xw h (e,v)):aS AP.A 102 [.agg (vT e v)] h=some (I6 e,h):=by
 obtain⟨A,hA⟩:∃x,x=vT e v:=⟨_,rfl⟩
 have lA:A.length=9:=by rw[hA];rfl
 have cA:AV.aB A=true:=by rw[hA];exact yx hv
 have g2:A[2]?=some v:=by rw[hA];rfl
 have g1:A[1]?=some (.bool e.gone):=by rw[hA];rfl
 have g3:A[3]?=some (.int .i64 e.wx):=by rw[hA];rfl
 have g4:A[4]?=some (.int .i64 e.node):=by rw[hA];rfl
 have x1:Ext h (h.dY.alloc A):=fun i c q=>((Ext.refl h.dY).alloc _) i c q
 have o1:=ok.mono x1
 have q1:aS AP.A 112 [.aC h.next 0] (h.dY.alloc A)=some (.bool (xj e),h.dY.alloc A):=by
  refine JW (h.dY.alloc A) (.aC h.next 0) v e ?_ o1.vec o1.vl
  rw[←hA];exact PE.obj (vO (by simp))
 unfold I6
 cases hh:xj e with
 | false =>
   rw[hh]at q1
   rw[if_neg (by decide)]
   refine uo (fn:=AP.f102) (h2:=h.dY.alloc A) (e:=[(2,.str ⟨#[]⟩),(3,.int .i64 1200)]) rfl rfl rfl ?_ rfl rfl
   rw[←hA]
   simp (disch:=first|omega|(simp only[xk,W9,Xa,vk,Nat.reduceAdd];first|done|omega|fail)|(simp (disch:=first|omega|(simp only[xk,W9,Xa,vk,Nat.reduceAdd];first|done|omega|fail)|fail)only[xk,Ao,Xc,W9,Xa,vk,Nat.reduceAdd];done)|fail)only[go_sem,vN,AK,AP.f102,lA,cA,q1]
 | true =>
   rw[hh]at q1
   rw[if_pos rfl]
   obtain⟨f1,f2,f3,f4⟩:=yj hh
   have k1:∀g,aS AP.A 104 [.int .i64 20592,.int .i64 2] g=some (.str (bytesOf (wq 20592 2)),g):=fun g=>AM g 20592 2 (by omega) (by omega)
   have k2:∀g,aS AP.A 104 [.int .i64 22,.int .i64 2] g=some (.str (bytesOf (wq 22 2)),g):=fun g=>AM g 22 2 (by omega) (by omega)
   have k3:∀g,aS AP.A 104 [.int .i64 e.wx,.int .i64 4] g=some (.str (bytesOf (wq e.wx.toNat 4)),g):=fun g=>by
    have:=AM g e.wx.toNat 4 (by omega) (by omega)
    rw[show((e.wx.toNat:Nat):Int)=e.wx by omega]at this;exact this
   have k4:∀g,aS AP.A 104 [.int .i64 e.node,.int .i64 1] g=some (.str (bytesOf (wq e.node.toNat 1)),g):=fun g=>by
    have:=AM g e.node.toNat 1 (by omega) (by omega)
    rw[show((e.node.toNat:Nat):Int)=e.node by omega]at this;exact this
   have k5:∀g,aS AP.A 104 [.int .i64 0,.int .i64 1] g=some (.str (bytesOf (wq 0 1)),g):=fun g=>AM g 0 1 (by omega) (by omega)
   have k6:∀g,aS AP.A 104 [.int .i64 1,.int .i64 1] g=some (.str (bytesOf (wq 1 1)),g):=fun g=>AM g 1 1 (by omega) (by omega)
   have ln:=o1.vec.len
   rw[pP]at ln
   simp only[I]at ln
   obtain⟨e',r1,r2,r3⟩:=Gc (P:=.aC h.next 0) (by omega) f2 (h.dY.alloc A) o1.vec e.vec [] (wq 20592 2++wq 22 2) rfl (by rw[vF,vZ,vZ];omega)
   have r1':Lp AP.A [1,4,14,15,16] AP.f102L0 [(1,.aC h.next 0),(4,.str (bytesOf (wq 20592 2++wq 22 2))),(14,v),(15,.int .i64 e.vec.length),(16,.int .i64 0)] (h.dY.alloc A)=some (.exit 0,e',h.dY.alloc A):=r1
   clear r1
   have vl:=BD e.vec
   have s1:br .add (.str (bytesOf (wq 20592 2))) (.str (bytesOf (wq 22 2)))=some (.str (bytesOf (wq 20592 2++wq 22 2))):=xC (by rw[vZ,vZ];omega)
   obtain⟨L1,hL1⟩:∃x,x=wq 20592 2++wq 22 2++Ba e.vec:=⟨_,rfl⟩
   have l1:L1.length=20:=by rw[hL1,vF,vF,vZ,vZ,vl,f1]
   obtain⟨S1,h1⟩:∃x,x=bytesOf L1:=⟨_,rfl⟩
   obtain⟨S2,h2⟩:∃x,x=bytesOf (L1++wq e.wx.toNat 4):=⟨_,rfl⟩
   obtain⟨S3,h3⟩:∃x,x=bytesOf (L1++wq e.wx.toNat 4++wq e.node.toNat 1):=⟨_,rfl⟩
   obtain⟨S4,h4⟩:∃x,x=bytesOf (L1++wq e.wx.toNat 4++wq e.node.toNat 1++wq (if e.gone then 1 else 0) 1):=⟨_,rfl⟩
   have s2:br .add (.str S1) (.str (bytesOf (wq e.wx.toNat 4)))=some (.str S2):=by rw[h1,h2];exact xC (by rw[vZ];omega)
   have s3:br .add (.str S2) (.str (bytesOf (wq e.node.toNat 1)))=some (.str S3):=by rw[h2,h3];exact xC (by rw[vF,vZ,vZ];omega)
   have s4:br .add (.str S3) (.str (bytesOf (wq (if e.gone then 1 else 0) 1)))=some (.str S4):=by rw[h3,h4];exact xC (by rw[vF,vF,vZ,vZ,vZ];omega)
   rw[show wq 20592 2++wq 22 2++Ba e.vec=L1 from hL1.symm,←h1]at r3
   unfold BT
   rw[←hL1,←hA,←h4]
   clear hL1 o1 x1 ok h1 h2 h3 h4
   refine uo (fn:=AP.f102) (h2:=h.dY.alloc A) (e:=[(2,.str S4),(3,.int .i64 0)]) rfl rfl rfl ?_ rfl rfl
   cases hg:e.gone with
   | true =>
     rw[hg]at g1 s4
     rw[if_pos rfl]at s4
     simp (disch:=first|omega|(simp only[xk,W9,Xa,vk,Nat.reduceAdd];first|done|omega|fail)|(simp (disch:=first|omega|(simp only[xk,W9,Xa,vk,Nat.reduceAdd];first|done|omega|fail)|fail)only[xk,Ao,Xc,W9,Xa,vk,Nat.reduceAdd];done)|fail)only[go_sem,vN,AK,AP.f102,lA,cA,q1,k1,k2,k3,k4,k5,k6,s1,s2,s3,s4,g1,g2,g3,g4,ln,sF,r1',r2,r3]
   | false =>
     rw[hg]at g1 s4
     rw[if_neg (by decide)]at s4
     simp (disch:=first|omega|(simp only[xk,W9,Xa,vk,Nat.reduceAdd];first|done|omega|fail)|(simp (disch:=first|omega|(simp only[xk,W9,Xa,vk,Nat.reduceAdd];first|done|omega|fail)|fail)only[xk,Ao,Xc,W9,Xa,vk,Nat.reduceAdd];done)|fail)only[go_sem,vN,AK,AP.f102,lA,cA,q1,k1,k2,k3,k4,k5,k6,s1,s2,s3,s4,g1,g2,g3,g4,ln,sF,r1',r2,r3]
theorem Em {v:AV} {b:Nat} {A:List AV} {l:List Int} (hl:l.length<1000000) (hn:∀n∈l,0≤n∧n≤1048576) (h:H) (rd:Rd h v (ints l)) (hg:h.get b=some A) (hA:A[2]?=some v):∀(q p:List Int) (acc:List Nat),l=p++q→acc.length+4* q.length<100000000→
 ∃e',Lp AP.A [1,4,5] AP.f160L0 [(1,.aC b 0),(4,.str (bytesOf acc)),(5,.int .i64 p.length)] h=some (.exit 0,e',h)∧look e' 1=.aC b 0∧look e' 4=.str (bytesOf (acc++Ba q))
 | [], p, acc, hp, ha => by
   have ln:=rd.len
   rw[pP]at ln
   simp only[I]at ln
   have e:l.length=p.length:=by rw[hp];simp
   rw[e]at ln
   refine⟨[(1,.aC b 0),(4,.str (bytesOf acc)),(5,.int .i64 p.length),(17,.bool false)],tF ?_,rfl,by simp [Ba,look]⟩
   simp (disch:=first|omega|(simp only[xk,W9,Xa,vk,Nat.reduceAdd];first|done|omega|fail)|(simp (disch:=first|omega|(simp only[xk,W9,Xa,vk,Nat.reduceAdd];first|done|omega|fail)|fail)only[xk,Ao,Xc,W9,Xa,vk,Nat.reduceAdd];done)|fail)only[go_sem,vN,AK,AP.f160L0,ln,hg,hA]
 | n :: q, p, acc, hp, ha => by
   rw[W9]at ha
   obtain⟨e',r1,r2,r3⟩:=Em hl hn h rd hg hA q (p++[n]) (acc++wq n.toNat 4) (by rw[hp];simp) (by rw[vF,vZ];omega)
   obtain⟨ad,a1,a2⟩:=rd.xg
   have hlen:l.length=p.length+(q.length+1):=by rw[hp];simp
   have ln:=rd.len
   rw[pP]at ln
   simp only[I]at ln
   have i1:=a1 (p.length:Int) ⟨by omega,by omega⟩
   have i2:=a2 h (Ext.refl h) p.length n (by rw[hp];simp)
   have bn:=hn n (by rw[hp];simp)
   have k1:∀g:H,aS AP.A 161 [.int .i64 n,.int .i64 4] g=some (.str (DL n.toNat 4),g):=fun g=>by
    have:=Bh g n.toNat 4 (by omega)
    rw[show((n.toNat:Nat):Int)=n by omega]at this;exact this
   have s1:br .add (.str (bytesOf acc)) (.str (DL n.toNat 4))=some (.str (bytesOf (acc++wq n.toNat 4))):=xC (by rw[vZ];omega)
   have n1:((p.length+1:Nat):Int)=(p.length:Int)+1:=by omega
   rw[vF,show [n].length=1 from rfl,n1]at r1
   refine⟨e',tG ?_ r1,r2,by rw[r3];simp [Ba]⟩
   simp (disch:=first|omega|(simp only[xk,W9,Xa,vk,Nat.reduceAdd];first|done|omega|fail)|(simp (disch:=first|omega|(simp only[xk,W9,Xa,vk,Nat.reduceAdd];first|done|omega|fail)|fail)only[xk,Ao,Xc,W9,Xa,vk,Nat.reduceAdd];done)|fail)only[go_sem,vN,AK,AP.f160L0,ln,hg,hA,i1,i2,k1,s1]
theorem Lo (h:H) (e:wR) (v:AV) (hv:v.sc=true) (ok:xw h (e,v)):aS AP.A 160 [.agg (vT e v)] h=some (I6 e,h):=by
 obtain⟨A,hA⟩:∃x,x=vT e v:=⟨_,rfl⟩
 have lA:A.length=9:=by rw[hA];rfl
 have cA:AV.aB A=true:=by rw[hA];exact yx hv
 have tA:List.take 9 A=A:=by rw[hA];rfl
 have g2:A[2]?=some v:=by rw[hA];rfl
 have g1:A[1]?=some (.bool e.gone):=by rw[hA];rfl
 have g3:A[3]?=some (.int .i64 e.wx):=by rw[hA];rfl
 have g4:A[4]?=some (.int .i64 e.node):=by rw[hA];rfl
 have x1:Ext h (h.dY.alloc A):=fun i c q=>((Ext.refl h.dY).alloc _) i c q
 have o1:=ok.mono x1
 have q1:aS AP.A 169 [.agg A] (h.dY.alloc A)=some (.bool (xj e),h.dY.alloc A):=by
  have:=HL (h.dY.alloc A) v e o1.vec hv o1.vl
  rw[←hA]at this;exact this
 unfold I6
 cases hh:xj e with
 | false =>
   rw[hh]at q1
   rw[if_neg (by decide)]
   refine uo (fn:=AP.f160) (h2:=h.dY.alloc A) (e:=[(2,.str ⟨#[]⟩),(3,.int .i64 1200)]) rfl rfl rfl ?_ rfl rfl
   rw[←hA]
   simp (disch:=first|omega|(simp only[xk,W9,Xa,vk,Nat.reduceAdd];first|done|omega|fail)|(simp (disch:=first|omega|(simp only[xk,W9,Xa,vk,Nat.reduceAdd];first|done|omega|fail)|fail)only[xk,Ao,Xc,W9,Xa,vk,Nat.reduceAdd];done)|fail)only[go_sem,vN,AK,AP.f160,lA,cA,tA,q1]
 | true =>
   rw[hh]at q1
   rw[if_pos rfl]
   obtain⟨f1,f2,f3,f4⟩:=yj hh
   have kk:∀(g:H) (x k:Nat),k≤8→aS AP.A 161 [.int .i64 x,.int .i64 k] g=some (.str (bytesOf (wq x k)),g):=fun g x k hk=>Bh g x k hk
   have k1:∀g,aS AP.A 161 [.int .i64 20592,.int .i64 2] g=some (.str (bytesOf (wq 20592 2)),g):=fun g=>kk g 20592 2 (by omega)
   have k2:∀g,aS AP.A 161 [.int .i64 22,.int .i64 2] g=some (.str (bytesOf (wq 22 2)),g):=fun g=>kk g 22 2 (by omega)
   have k3:∀g,aS AP.A 161 [.int .i64 e.wx,.int .i64 4] g=some (.str (bytesOf (wq e.wx.toNat 4)),g):=fun g=>by
    have:=kk g e.wx.toNat 4 (by omega)
    rw[show((e.wx.toNat:Nat):Int)=e.wx by omega]at this;exact this
   have k4:∀g,aS AP.A 161 [.int .i64 e.node,.int .i64 1] g=some (.str (bytesOf (wq e.node.toNat 1)),g):=fun g=>by
    have:=kk g e.node.toNat 1 (by omega)
    rw[show((e.node.toNat:Nat):Int)=e.node by omega]at this;exact this
   have k5:∀g,aS AP.A 161 [.int .i64 0,.int .i64 1] g=some (.str (bytesOf (wq 0 1)),g):=fun g=>kk g 0 1 (by omega)
   have k6:∀g,aS AP.A 161 [.int .i64 1,.int .i64 1] g=some (.str (bytesOf (wq 1 1)),g):=fun g=>kk g 1 1 (by omega)
   clear kk
   obtain⟨e',r1,r2,r3⟩:=Em (b:=h.next) (by omega) f2 (h.dY.alloc A) o1.vec (vO (by simp)) g2 e.vec [] (wq 20592 2++wq 22 2) rfl (by rw[vF,vZ,vZ];omega)
   have r1':Lp AP.A [1,4,5] AP.f160L0 [(1,.aC h.next 0),(4,.str (bytesOf (wq 20592 2++wq 22 2))),(5,.int .i64 0)] (h.dY.alloc A)=some (.exit 0,e',h.dY.alloc A):=r1
   clear r1
   have vl:=BD e.vec
   have s1:br .add (.str (bytesOf (wq 20592 2))) (.str (bytesOf (wq 22 2)))=some (.str (bytesOf (wq 20592 2++wq 22 2))):=xC (by rw[vZ,vZ];omega)
   obtain⟨L1,hL1⟩:∃x,x=wq 20592 2++wq 22 2++Ba e.vec:=⟨_,rfl⟩
   have l1:L1.length=20:=by rw[hL1,vF,vF,vZ,vZ,vl,f1]
   obtain⟨S1,h1⟩:∃x,x=bytesOf L1:=⟨_,rfl⟩
   obtain⟨S2,h2⟩:∃x,x=bytesOf (L1++wq e.wx.toNat 4):=⟨_,rfl⟩
   obtain⟨S3,h3⟩:∃x,x=bytesOf (L1++wq e.wx.toNat 4++wq e.node.toNat 1):=⟨_,rfl⟩
   obtain⟨S4,h4⟩:∃x,x=bytesOf (L1++wq e.wx.toNat 4++wq e.node.toNat 1++wq (if e.gone then 1 else 0) 1):=⟨_,rfl⟩
   have s2:br .add (.str S1) (.str (bytesOf (wq e.wx.toNat 4)))=some (.str S2):=by rw[h1,h2];exact xC (by rw[vZ];omega)
   have s3:br .add (.str S2) (.str (bytesOf (wq e.node.toNat 1)))=some (.str S3):=by rw[h2,h3];exact xC (by rw[vF,vZ,vZ];omega)
   have s4:br .add (.str S3) (.str (bytesOf (wq (if e.gone then 1 else 0) 1)))=some (.str S4):=by rw[h3,h4];exact xC (by rw[vF,vF,vZ,vZ,vZ];omega)
   rw[show wq 20592 2++wq 22 2++Ba e.vec=L1 from hL1.symm,←h1]at r3
   unfold BT
   rw[←hL1,←hA,←h4]
   clear hL1 o1 x1 ok h1 h2 h3 h4
   refine uo (fn:=AP.f160) (h2:=h.dY.alloc A) (e:=[(2,.str S4),(3,.int .i64 0)]) rfl rfl rfl ?_ rfl rfl
   cases hg:e.gone with
   | true =>
     rw[hg]at g1 s4
     rw[if_pos rfl]at s4
     simp (disch:=first|omega|(simp only[xk,W9,Xa,vk,Nat.reduceAdd];first|done|omega|fail)|(simp (disch:=first|omega|(simp only[xk,W9,Xa,vk,Nat.reduceAdd];first|done|omega|fail)|fail)only[xk,Ao,Xc,W9,Xa,vk,Nat.reduceAdd];done)|fail)only[go_sem,vN,AK,AP.f160,lA,cA,tA,q1,k1,k2,k3,k4,k5,k6,s1,s2,s3,s4,g1,g2,g3,g4,sF,r1',r2,r3]
   | false =>
     rw[hg]at g1 s4
     rw[if_neg (by decide)]at s4
     simp (disch:=first|omega|(simp only[xk,W9,Xa,vk,Nat.reduceAdd];first|done|omega|fail)|(simp (disch:=first|omega|(simp only[xk,W9,Xa,vk,Nat.reduceAdd];first|done|omega|fail)|fail)only[xk,Ao,Xc,W9,Xa,vk,Nat.reduceAdd];done)|fail)only[go_sem,vN,AK,AP.f160,lA,cA,tA,q1,k1,k2,k3,k4,k5,k6,s1,s2,s3,s4,g1,g2,g3,g4,sF,r1',r2,r3]
def BI (e:wR):List Nat:=wq e.name.size 1++CJ e.name++BT e++wq e.zo.toNat 4
def IH (e:wR):Option Nat:=if xy e=true then some (yX (BI e))else none
def Md:Option Nat→AV
 |some n=>.bP [.int .i64 n,.int .i64 0]
 |none=>.bP [.int .i64 0,.int .i64 1500]
theorem Gu (l:List Nat):yX l<4294967296:=by unfold yX;omega
theorem Hy (p:Nat) (ss:List ByteArray) (h:H) (hg:h.get p=some (ss.map AV.str)) (hs:∀s∈ss,s.size<1125899906842624) (hl:ss.length<1000000):∀(q pr:List ByteArray) (a:Nat),ss=pr++q→a<4294967296→
 ∃e',Lp AP.A [6,7,28,29,30] AP.f91L0 [(6,.fn 103 [] []),(7,.int .i64 a),(28,.aD p 0 ss.length 1),(29,.int .i64 ss.length),(30,.int .i64 pr.length)] h=some (.exit 0,e',h)∧look e' 7=.int .i64 (q.foldl xN a:Nat)
 | [], pr, a, hp, ha => by
   have e:ss.length=pr.length:=by rw[hp];simp
   refine⟨[(6,.fn 103 [] []),(7,.int .i64 a),(28,.aD p 0 ss.length 1),(29,.int .i64 ss.length),(30,.int .i64 pr.length),(31,.bool false)],tF ?_,rfl⟩
   rw[e]
   simp (disch:=first|omega|(simp only[xk,W9,Xa,vk,Nat.reduceAdd];first|done|omega|fail)|(simp (disch:=first|omega|(simp only[xk,W9,Xa,vk,Nat.reduceAdd];first|done|omega|fail)|fail)only[xk,Ao,Xc,W9,Xa,vk,Nat.reduceAdd];done)|fail)only[go_sem,vN,AK,AP.f91L0]
 | s :: q, pr, a, hp, ha => by
   obtain⟨e',r1,r2⟩:=Hy p ss h hg hs hl q (pr++[s]) (xN a s) (by rw[hp];simp) (Dc a s)
   have hlen:ss.length=pr.length+(q.length+1):=by rw[hp];simp
   have k1:=GZ h s a ha (hs s (by rw[hp];simp))
   have g1:(ss.map AV.str)[pr.length]?=some (.str s):=by rw[hp];simp
   have n1:((pr.length+1:Nat):Int)=(pr.length:Int)+1:=by omega
   rw[vF,show [s].length=1 from rfl,n1]at r1
   refine⟨e',tG ?_ r1,r2⟩
   simp (disch:=first|omega|(simp only[xk,W9,Xa,vk,Nat.reduceAdd];first|done|omega|fail)|(simp (disch:=first|omega|(simp only[xk,W9,Xa,vk,Nat.reduceAdd];first|done|omega|fail)|fail)only[xk,Ao,Xc,W9,Xa,vk,Nat.reduceAdd];done)|fail)only[go_sem,vN,AK,AP.f91L0,hg,k1,g1]
theorem RJ (a b c d:ByteArray):[a,b,c,d].foldl xN 0=yo (a++b++c++d):=by
 show xN (xN (xN (xN 0 a) b) c) d=xN 0 _
 rw[Az,Az,Az]
 congr 1
 simp only[ByteArray.append_assoc]
theorem IY (s:ByteArray):Db s=true↔s.size=0:=by
 unfold Db
 rw[beq_iff_eq]
 constructor
 · intro h;rw[←Ig];unfold CJ;rw[h];rfl
 · intro h
   have:s.data.toList.length=0:=by rw[Array.length_toList];exact h
   rw[Xm this]
theorem Eh {e:wR} (h:xy e=true):xj e=true∧(1≤e.name.size∧e.name.size≤8)∧0≤e.zo∧e.zo≤4294967295:=by
 unfold xy z6 at h
 split at h
 · cases h
 · rename_i hm
   have hm:xO [e]=true:=by cases q:xO [e]with|true=>rfl|false=>exact absurd q hm
   simp only[xO,yT,Cx,u9,XL]at hm
   obtain⟨⟨h1,h2,h3⟩,_⟩:=hm
   refine⟨h2, ?_, ?_⟩
   · simp only[wY,u9,Xh]at h1
     exact⟨h1.1,h1.2.1⟩
   · unfold xM at h3
     split at h3
     · simp only[u9,Xh]at h3;omega
     · simp only[u9,Xh,zm]at h3;omega
theorem Hz (e:wR):∀b∈BI e,b<256:=by
 intro b hb
 unfold BI at hb
 simp only[XI]at hb
 rcases hb with ((hb|hb)|hb)|hb
 · exact zt _ _ b hb
 · exact KV _ b hb
 · exact LU _ b hb
 · exact zt _ _ b hb
theorem HA (e:wR):bytesOf (wq e.name.size 1)++e.name++bytesOf (BT e)++bytesOf (wq e.zo.toNat 4)=bytesOf (BI e):=by
 unfold BI
 rw[←yO,←yO,←yO,FB]
theorem Gb {e:wR} (h:xj e=true):(BT e).length=26:=by
 obtain⟨f1,_⟩:=yj h
 unfold BT
 simp only[vF,vZ,BD,f1]
set_option maxHeartbeats 1000000 in
theorem JE (h:H) (hf:h.floor≤h.next) (e:wR) (v:AV) (hv:v.sc=true) (ok:xw h (e,v)):aS AP.A 91 [.agg (vT e v)] h=some (Md (IH e),h):=by
 obtain⟨A,hA⟩:∃x,x=vT e v:=⟨_,rfl⟩
 have lA:A.length=9:=by rw[hA];rfl
 have cA:AV.aB A=true:=by rw[hA];exact yx hv
 have tA:List.take 9 A=A:=by rw[hA];rfl
 have g0:A[0]?=some (.str e.name):=by rw[hA];rfl
 have g8:A[8]?=some (.int .i64 e.zo):=by rw[hA];rfl
 have x1:Ext h (h.dY.alloc A):=fun i c q=>((Ext.refl h.dY).alloc _) i c q
 have o1:=ok.mono x1
 have f1:(h.dY.alloc A).floor≤(h.dY.alloc A).next:=by simp
 have q1:aS AP.A 96 [.agg A] (h.dY.alloc A)=some (.bool (xy e),h.dY.alloc A):=by
  have:=GN (h.dY.alloc A) f1 e v hv o1
  rw[←hA]at this;exact this
 unfold IH
 cases hm:xy e with
 | false =>
   rw[hm]at q1
   rw[if_neg (by decide)]
   refine uo (fn:=AP.f91) (h2:=h.dY.alloc A) (e:=[(2,.int .i64 0),(3,.int .i64 1500)]) rfl rfl rfl ?_ rfl rfl
   rw[←hA]
   simp (disch:=first|omega|(simp only[xk,W9,Xa,vk,Nat.reduceAdd];first|done|omega|fail)|(simp (disch:=first|omega|(simp only[xk,W9,Xa,vk,Nat.reduceAdd];first|done|omega|fail)|fail)only[xk,Ao,Xc,W9,Xa,vk,Nat.reduceAdd];done)|fail)only[go_sem,vN,AK,AP.f91,lA,cA,tA,q1]
 | true =>
   rw[hm]at q1
   rw[if_pos rfl]
   obtain⟨m1,m2,m3⟩:=Eh hm
   have q2:aS AP.A 102 [.agg A] (h.dY.alloc A)=some (.bP [.str (bytesOf (BT e)),.int .i64 0],h.dY.alloc A):=by
    have:=Pp (h.dY.alloc A) f1 e v hv o1
    unfold I6 at this
    rw[if_pos m1,←hA]at this;exact this
   have q3:∀g,aS AP.A 104 [.int .i64 e.name.size,.int .i64 1] g=some (.str (bytesOf (wq e.name.size 1)),g):=fun g=>AM g e.name.size 1 (by omega) (by omega)
   have q4:∀g,aS AP.A 104 [.int .i64 e.zo,.int .i64 4] g=some (.str (bytesOf (wq e.zo.toNat 4)),g):=fun g=>by
    have:=AM g e.zo.toNat 4 (by omega) (by omega)
    rw[show((e.zo.toNat:Nat):Int)=e.zo by omega]at this;exact this
   have pl:=Gb m1
   obtain⟨T1,e1⟩:∃x,x=bytesOf (wq e.name.size 1):=⟨_,rfl⟩
   obtain⟨T3,e3⟩:∃x,x=bytesOf (BT e):=⟨_,rfl⟩
   obtain⟨T4,e4⟩:∃x,x=bytesOf (wq e.zo.toNat 4):=⟨_,rfl⟩
   have ds:=HA e
   rw[←e1,←e3,←e4]at ds
   rw[←e3]at q2
   rw[←e1]at q3
   rw[←e4]at q4
   have t1:T1.size=1:=by rw[e1,wN,vZ]
   have t3:T3.size=26:=by rw[e3,wN,pl]
   have t4:T4.size=4:=by rw[e4,wN,vZ]
   obtain⟨e',r1,r2⟩:=Hy (h.next+1) [T1,e.name,T3,T4] ((h.dY.alloc A).alloc [.str T1,.str e.name,.str T3,.str T4]) (vO (by simp)) (by
    intro s hs
    simp only[vC,List.mem_nil_iff,or_false]at hs
    rcases hs with rfl|rfl|rfl|rfl<;>omega) (by simp) [T1,e.name,T3,T4] [] 0 rfl (by omega)
   rw[RJ,ds,zY (Hz e)]at r2
   have r1':Lp AP.A [6,7,28,29,30] AP.f91L0 [(6,.fn 103 [] []),(7,.int .i64 0),(28,.aD (h.next+1) 0 4 1),(29,.int .i64 4),(30,.int .i64 0)] ((h.dY.alloc A).alloc [.str T1,.str e.name,.str T3,.str T4])=some (.exit 0,e',(h.dY.alloc A).alloc [.str T1,.str e.name,.str T3,.str T4]):=r1
   clear r1
   refine uo (fn:=AP.f91) (h2:=(h.dY.alloc A).alloc [.str T1,.str e.name,.str T3,.str T4]) (e:=[(2,.int .i64 (yX (BI e))),(3,.int .i64 0)]) rfl rfl rfl ?_ rfl rfl
   rw[←hA]
   clear ds e1 e3 e4 o1 x1 ok
   simp (disch:=first|omega|(simp only[xk,W9,Xa,vk,Nat.reduceAdd];first|done|omega|fail)|(simp (disch:=first|omega|(simp only[xk,W9,Xa,vk,Nat.reduceAdd];first|done|omega|fail)|fail)only[xk,Ao,Xc,W9,Xa,vk,Nat.reduceAdd];done)|fail)only[go_sem,vN,AK,AP.f91,lA,cA,tA,q1,q2,q3,q4,g0,g8,sF,r1',r2]
theorem II (h:H) (e:wR) (v:AV) (hv:v.sc=true) (ok:xw h (e,v)):aS AP.A 151 [.agg (vT e v)] h=some (Md (IH e),h):=by
 obtain⟨A,hA⟩:∃x,x=vT e v:=⟨_,rfl⟩
 have lA:A.length=9:=by rw[hA];rfl
 have cA:AV.aB A=true:=by rw[hA];exact yx hv
 have tA:List.take 9 A=A:=by rw[hA];rfl
 have g0:A[0]?=some (.str e.name):=by rw[hA];rfl
 have g8:A[8]?=some (.int .i64 e.zo):=by rw[hA];rfl
 have x1:Ext h (h.dY.alloc A):=fun i c q=>((Ext.refl h.dY).alloc _) i c q
 have o1:=ok.mono x1
 have q1:aS AP.A 157 [.agg A] (h.dY.alloc A)=some (.bool (xy e),h.dY.alloc A):=by
  have:=HE (h.dY.alloc A) e v hv o1
  rw[←hA]at this;exact this
 unfold IH
 cases hm:xy e with
 | false =>
   rw[hm]at q1
   rw[if_neg (by decide)]
   refine uo (fn:=AP.f151) (h2:=h.dY.alloc A) (e:=[(2,.int .i64 0),(3,.int .i64 1500)]) rfl rfl rfl ?_ rfl rfl
   rw[←hA]
   simp (disch:=first|omega|(simp only[xk,W9,Xa,vk,Nat.reduceAdd];first|done|omega|fail)|(simp (disch:=first|omega|(simp only[xk,W9,Xa,vk,Nat.reduceAdd];first|done|omega|fail)|fail)only[xk,Ao,Xc,W9,Xa,vk,Nat.reduceAdd];done)|fail)only[go_sem,vN,AK,AP.f151,lA,cA,tA,q1]
 | true =>
   rw[hm]at q1
   rw[if_pos rfl]
   obtain⟨m1,m2,m3⟩:=Eh hm
   have q2:aS AP.A 160 [.agg A] (h.dY.alloc A)=some (.bP [.str (bytesOf (BT e)),.int .i64 0],h.dY.alloc A):=by
    have:=Lo (h.dY.alloc A) e v hv o1
    unfold I6 at this
    rw[if_pos m1,←hA]at this;exact this
   have q3:∀g,aS AP.A 161 [.int .i64 e.name.size,.int .i64 1] g=some (.str (bytesOf (wq e.name.size 1)),g):=fun g=>Bh g e.name.size 1 (by omega)
   have q4:∀g,aS AP.A 161 [.int .i64 e.zo,.int .i64 4] g=some (.str (bytesOf (wq e.zo.toNat 4)),g):=fun g=>by
    have:=Bh g e.zo.toNat 4 (by omega)
    rw[show((e.zo.toNat:Nat):Int)=e.zo by omega]at this;exact this
   have pl:=Gb m1
   obtain⟨T1,e1⟩:∃x,x=bytesOf (wq e.name.size 1):=⟨_,rfl⟩
   obtain⟨T3,e3⟩:∃x,x=bytesOf (BT e):=⟨_,rfl⟩
   obtain⟨T4,e4⟩:∃x,x=bytesOf (wq e.zo.toNat 4):=⟨_,rfl⟩
   have ds:=HA e
   rw[←e1,←e3,←e4]at ds
   rw[←e3]at q2
   rw[←e1]at q3
   rw[←e4]at q4
   have t1:T1.size=1:=by rw[e1,wN,vZ]
   have t3:T3.size=26:=by rw[e3,wN,pl]
   have t4:T4.size=4:=by rw[e4,wN,vZ]
   have s1:br .add (.str T1) (.str e.name)=some (.str (T1++e.name)):=CH (by omega)
   have s2:br .add (.str (T1++e.name)) (.str T3)=some (.str (T1++e.name++T3)):=CH (by rw[XE];omega)
   have s3:br .add (.str (T1++e.name++T3)) (.str T4)=some (.str (bytesOf (BI e))):=by rw[←ds];exact CH (by rw[XE,XE];omega)
   have zz:(bytesOf (BI e)).size<1125899906842624:=by rw[←ds,XE,XE,XE];omega
   have k1:∀g,aS AP.A 101 [.str (bytesOf (BI e))] g=some (.int .i64 (yX (BI e)),g):=fun g=>by rw[CV g _ zz,zY (Hz e)]
   refine uo (fn:=AP.f151) (h2:=h.dY.alloc A) (e:=[(2,.int .i64 (yX (BI e))),(3,.int .i64 0)]) rfl rfl rfl ?_ rfl rfl
   rw[←hA]
   clear ds e1 e3 e4 o1 x1 ok zz
   generalize T1++e.name++T3=T6 at *
   generalize T1++e.name=T5 at *
   simp (disch:=first|omega|(simp only[xk,W9,Xa,vk,Nat.reduceAdd];first|done|omega|fail)|(simp (disch:=first|omega|(simp only[xk,W9,Xa,vk,Nat.reduceAdd];first|done|omega|fail)|fail)only[xk,Ao,Xc,W9,Xa,vk,Nat.reduceAdd];done)|fail)only[go_sem,vN,AK,AP.f151,lA,cA,tA,q1,q2,q3,q4,g0,g8,s1,s2,s3,k1]
def yW (l:List Int):List Nat:=l.flatMap fun n=>wq n.toNat 4
def Ch (l:List Int):Option Nat:=if l.all zm=true then some (yX (yW l))else none
theorem F3 (l:List Int):∀b∈yW l,b<256:=Ij l
theorem Eg {v : AV} {l : List Int} (hl : l.length < 1125899906842624) (h : H) (rd : Rd h v (ints l)) : ∀ (q p : List Int) (a : Nat), l = p ++ q → a < 4294967296 →
 (q.all zm=true∧∃e',Lp AP.A [4,7,8,9] AP.f93L0 [(4,.int .i64 a),(7,v),(8,.int .i64 l.length),(9,.int .i64 p.length)] h=some (.exit 0,e',h)∧look e' 4=.int .i64 (xN a (bytesOf (yW q)):Nat))∨
 (q.all zm=false∧∃e',Lp AP.A [4,7,8,9] AP.f93L0 [(4,.int .i64 a),(7,v),(8,.int .i64 l.length),(9,.int .i64 p.length)] h=some (.ret,e',h)∧look e' 2=.int .i64 0∧look e' 3=.int .i64 1500)
 | [], p, a, hp, ha => by
   left
   have e:l.length=p.length:=by rw[hp];simp
   refine⟨rfl,[(4,.int .i64 a),(7,v),(8,.int .i64 l.length),(9,.int .i64 p.length),(10,.bool false)],tF ?_, ?_⟩
   · rw[e]
     simp (disch:=first|omega|(simp only[xk,W9,Xa,vk,Nat.reduceAdd];first|done|omega|fail)|(simp (disch:=first|omega|(simp only[xk,W9,Xa,vk,Nat.reduceAdd];first|done|omega|fail)|fail)only[xk,Ao,Xc,W9,Xa,vk,Nat.reduceAdd];done)|fail)only[go_sem,vN,AK,AP.f93L0]
   · show AV.int .i64 (a:Int)=.int .i64 ((xN a (bytesOf []):Nat):Int)
     rw[Bt]
     have:FH (4294967295-a) (CJ (bytesOf []))=4294967295-a:=rfl
     rw[this];congr 1;omega
 | n :: q, p, a, hp, ha => by
   obtain⟨ad,a1,a2⟩:=rd.xg
   have hlen:l.length=p.length+(q.length+1):=by rw[hp];simp
   have i1:=a1 (p.length:Int) ⟨by omega,by omega⟩
   have i2:=a2 h (Ext.refl h) p.length n (by rw[hp];simp)
   have k1:=LB h n
   rw[XG]
   cases hn:zm n with
   | false =>
     rw[hn]at k1
     right
     refine⟨rfl,[(2,.int .i64 0),(3,.int .i64 1500)],uc ?_,rfl,rfl⟩
     simp (disch:=first|omega|(simp only[xk,W9,Xa,vk,Nat.reduceAdd];first|done|omega|fail)|(simp (disch:=first|omega|(simp only[xk,W9,Xa,vk,Nat.reduceAdd];first|done|omega|fail)|fail)only[xk,Ao,Xc,W9,Xa,vk,Nat.reduceAdd];done)|fail)only[go_sem,vN,AK,AP.f93L0,i1,i2,k1]
   | true =>
     rw[hn]at k1
     rw[Xj]
     simp only[zm,Xh]at hn
     have k2:∀g,aS AP.A 104 [.int .i64 n,.int .i64 4] g=some (.str (bytesOf (wq n.toNat 4)),g):=fun g=>by
      have:=AM g n.toNat 4 (by omega) (by omega)
      rw[show((n.toNat:Nat):Int)=n by omega]at this;exact this
     have k3:=GZ h (bytesOf (wq n.toNat 4)) a ha (by rw[wN,vZ];omega)
     have n1:((p.length+1:Nat):Int)=(p.length:Int)+1:=by omega
     have ih:=Eg hl h rd q (p++[n]) (xN a (bytesOf (wq n.toNat 4))) (by rw[hp];simp) (Dc _ _)
     rw[vF,show [n].length=1 from rfl,n1,Az,yO]at ih
     rcases ih with ⟨g1,e',r1,r2⟩|⟨g1,e',r1,r2⟩
     · left
       refine⟨g1,e',tG ?_ r1,r2⟩
       simp (disch:=first|omega|(simp only[xk,W9,Xa,vk,Nat.reduceAdd];first|done|omega|fail)|(simp (disch:=first|omega|(simp only[xk,W9,Xa,vk,Nat.reduceAdd];first|done|omega|fail)|fail)only[xk,Ao,Xc,W9,Xa,vk,Nat.reduceAdd];done)|fail)only[go_sem,vN,AK,AP.f93L0,i1,i2,k1,k2,k3]
     · right
       refine⟨g1,e',tG ?_ r1,r2⟩
       simp (disch:=first|omega|(simp only[xk,W9,Xa,vk,Nat.reduceAdd];first|done|omega|fail)|(simp (disch:=first|omega|(simp only[xk,W9,Xa,vk,Nat.reduceAdd];first|done|omega|fail)|fail)only[xk,Ao,Xc,W9,Xa,vk,Nat.reduceAdd];done)|fail)only[go_sem,vN,AK,AP.f93L0,i1,i2,k1,k2,k3]
theorem J2 (h:H) (v:AV) (l:List Int) (rd:Rd h v (ints l)) (hl:l.length<1125899906842624):aS AP.A 93 [v] h=some (Md (Ch l),h):=by
 have rd':=rd.mono (wg h)
 have ln:=rd'.len
 rw[pP]at ln
 simp only[I]at ln
 unfold Ch
 rcases Eg hl h.dY rd' l [] 0 rfl (by omega)with ⟨g1,e',r1,r2⟩|⟨g1,e',r1,r2,r3⟩
 · rw[if_pos g1]
   have r1':Lp AP.A [4,7,8,9] AP.f93L0 [(4,.int .i64 0),(7,v),(8,.int .i64 l.length),(9,.int .i64 0)] h.dY=some (.exit 0,e',h.dY):=r1
   have r2':look e' 4=.int .i64 (yX (yW l)):=by rw[r2,←zY (F3 l)];rfl
   refine uo (fn:=AP.f93) (h2:=h.dY) (e:=[(2,.int .i64 (yX (yW l))),(3,.int .i64 0)]) rfl rfl rfl ?_ rfl rfl
   simp (disch:=first|omega|(simp only[xk,W9,Xa,vk,Nat.reduceAdd];first|done|omega|fail)|(simp (disch:=first|omega|(simp only[xk,W9,Xa,vk,Nat.reduceAdd];first|done|omega|fail)|fail)only[xk,Ao,Xc,W9,Xa,vk,Nat.reduceAdd];done)|fail)only[go_sem,vN,AK,AP.f93,ln,sF,r1',r2']
 · rw[if_neg (by rw[g1];decide)]
   have r1':Lp AP.A [4,7,8,9] AP.f93L0 [(4,.int .i64 0),(7,v),(8,.int .i64 l.length),(9,.int .i64 0)] h.dY=some (.ret,e',h.dY):=r1
   refine uo (fn:=AP.f93) (h2:=h.dY) (e:=e') rfl rfl rfl ?_ (by simp only[AP.f93,cM,nk,r2,r3];rfl) rfl
   simp (disch:=first|omega|(simp only[xk,W9,Xa,vk,Nat.reduceAdd];first|done|omega|fail)|(simp (disch:=first|omega|(simp only[xk,W9,Xa,vk,Nat.reduceAdd];first|done|omega|fail)|fail)only[xk,Ao,Xc,W9,Xa,vk,Nat.reduceAdd];done)|fail)only[go_sem,vN,AK,AP.f93,ln,sF,r1']
theorem KQ (h:H) (x:Int):aS AP.A 162 [.int .i64 x] h=some (.bool (zm x),h):=by
 refine uo (fn:=AP.f162) (h2:=h.dY) (e:=[(2,.bool (zm x))]) rfl rfl rfl ?_ rfl rfl
 unfold zm
 by_cases c1:0≤x
 · by_cases c2:x≤4294967295
   · simp (disch:=first|omega|(simp only[xk,W9,Xa,vk,Nat.reduceAdd];first|done|omega|fail)|(simp (disch:=first|omega|(simp only[xk,W9,Xa,vk,Nat.reduceAdd];first|done|omega|fail)|fail)only[xk,Ao,Xc,W9,Xa,vk,Nat.reduceAdd];done)|fail)only[go_sem,vN,AK,AP.f162]
   · simp (disch:=first|omega|(simp only[xk,W9,Xa,vk,Nat.reduceAdd];first|done|omega|fail)|(simp (disch:=first|omega|(simp only[xk,W9,Xa,vk,Nat.reduceAdd];first|done|omega|fail)|fail)only[xk,Ao,Xc,W9,Xa,vk,Nat.reduceAdd];done)|fail)only[go_sem,vN,AK,AP.f162]
 · simp (disch:=first|omega|(simp only[xk,W9,Xa,vk,Nat.reduceAdd];first|done|omega|fail)|(simp (disch:=first|omega|(simp only[xk,W9,Xa,vk,Nat.reduceAdd];first|done|omega|fail)|fail)only[xk,Ao,Xc,W9,Xa,vk,Nat.reduceAdd];done)|fail)only[go_sem,vN,AK,AP.f162]
theorem Df {v : AV} {l : List Int} (hl : l.length < 281474976710656) (h : H) (rd : Rd h v (ints l)) : ∀ (q p : List Int) (acc : List Nat), l = p ++ q → acc.length + 4 * q.length < 1125899906842624 →
 (q.all zm=true∧∃e',Lp AP.A [0,4,5] AP.f152L0 [(0,v),(4,.str (bytesOf acc)),(5,.int .i64 p.length)] h=some (.exit 0,e',h)∧look e' 4=.str (bytesOf (acc++yW q)))∨
 (q.all zm=false∧∃e',Lp AP.A [0,4,5] AP.f152L0 [(0,v),(4,.str (bytesOf acc)),(5,.int .i64 p.length)] h=some (.ret,e',h)∧look e' 2=.int .i64 0∧look e' 3=.int .i64 1500)
 | [], p, acc, hp, ha => by
   left
   have e:l.length=p.length:=by rw[hp];simp
   have ln:=rd.len
   rw[pP]at ln
   simp only[I]at ln
   refine⟨rfl,[(0,v),(4,.str (bytesOf acc)),(5,.int .i64 p.length),(9,.bool false)],tF ?_,by simp [yW,look]⟩
   rw[e]at ln
   simp (disch:=first|omega|(simp only[xk,W9,Xa,vk,Nat.reduceAdd];first|done|omega|fail)|(simp (disch:=first|omega|(simp only[xk,W9,Xa,vk,Nat.reduceAdd];first|done|omega|fail)|fail)only[xk,Ao,Xc,W9,Xa,vk,Nat.reduceAdd];done)|fail)only[go_sem,vN,AK,AP.f152L0,ln]
 | n :: q, p, acc, hp, ha => by
   rw[W9]at ha
   have ln:=rd.len
   rw[pP]at ln
   simp only[I]at ln
   obtain⟨ad,a1,a2⟩:=rd.xg
   have hlen:l.length=p.length+(q.length+1):=by rw[hp];simp
   have i1:=a1 (p.length:Int) ⟨by omega,by omega⟩
   have i2:=a2 h (Ext.refl h) p.length n (by rw[hp];simp)
   have k1:=KQ h n
   rw[XG]
   cases hn:zm n with
   | false =>
     rw[hn]at k1
     right
     refine⟨rfl,[(2,.int .i64 0),(3,.int .i64 1500)],uc ?_,rfl,rfl⟩
     simp (disch:=first|omega|(simp only[xk,W9,Xa,vk,Nat.reduceAdd];first|done|omega|fail)|(simp (disch:=first|omega|(simp only[xk,W9,Xa,vk,Nat.reduceAdd];first|done|omega|fail)|fail)only[xk,Ao,Xc,W9,Xa,vk,Nat.reduceAdd];done)|fail)only[go_sem,vN,AK,AP.f152L0,ln,i1,i2,k1]
   | true =>
     rw[hn]at k1
     rw[Xj]
     simp only[zm,Xh]at hn
     have k2:∀g,aS AP.A 161 [.int .i64 n,.int .i64 4] g=some (.str (bytesOf (wq n.toNat 4)),g):=fun g=>by
      have:=Bh g n.toNat 4 (by omega)
      rw[show((n.toNat:Nat):Int)=n by omega]at this;exact this
     have s1:br .add (.str (bytesOf acc)) (.str (bytesOf (wq n.toNat 4)))=some (.str (bytesOf (acc++wq n.toNat 4))):=xC (by rw[vZ];omega)
     have n1:((p.length+1:Nat):Int)=(p.length:Int)+1:=by omega
     have ih:=Df hl h rd q (p++[n]) (acc++wq n.toNat 4) (by rw[hp];simp) (by rw[vF,vZ];omega)
     rw[vF,show [n].length=1 from rfl,n1]at ih
     rcases ih with ⟨g1,e',r1,r2⟩|⟨g1,e',r1,r2⟩
     · left
       refine⟨g1,e',tG ?_ r1,by rw[r2];simp [yW]⟩
       simp (disch:=first|omega|(simp only[xk,W9,Xa,vk,Nat.reduceAdd];first|done|omega|fail)|(simp (disch:=first|omega|(simp only[xk,W9,Xa,vk,Nat.reduceAdd];first|done|omega|fail)|fail)only[xk,Ao,Xc,W9,Xa,vk,Nat.reduceAdd];done)|fail)only[go_sem,vN,AK,AP.f152L0,ln,i1,i2,k1,k2,s1]
     · right
       refine⟨g1,e',tG ?_ r1,r2⟩
       simp (disch:=first|omega|(simp only[xk,W9,Xa,vk,Nat.reduceAdd];first|done|omega|fail)|(simp (disch:=first|omega|(simp only[xk,W9,Xa,vk,Nat.reduceAdd];first|done|omega|fail)|fail)only[xk,Ao,Xc,W9,Xa,vk,Nat.reduceAdd];done)|fail)only[go_sem,vN,AK,AP.f152L0,ln,i1,i2,k1,k2,s1]
theorem HQ (h:H) (v:AV) (l:List Int) (rd:Rd h v (ints l)) (hl:l.length<140737488355328):aS AP.A 152 [v] h=some (Md (Ch l),h):=by
 have rd':=rd.mono (wg h)
 unfold Ch
 rcases Df (by omega) h.dY rd' l [] [] rfl (by rw[Xa];omega)with ⟨g1,e',r1,r2⟩|⟨g1,e',r1,r2,r3⟩
 · rw[if_pos g1]
   have r1':Lp AP.A [0,4,5] AP.f152L0 [(0,v),(4,.str ⟨#[]⟩),(5,.int .i64 0)] h.dY=some (.exit 0,e',h.dY):=r1
   have zz:(bytesOf (yW l)).size<1125899906842624:=by
    rw[wN];have:=BD l;unfold Ba at this;unfold yW;rw[this];omega
   have k1:∀g,aS AP.A 101 [.str (bytesOf (yW l))] g=some (.int .i64 (yX (yW l)),g):=fun g=>by rw[CV g _ zz,zY (F3 l)]
   rw[List.nil_append]at r2
   refine uo (fn:=AP.f152) (h2:=h.dY) (e:=[(2,.int .i64 (yX (yW l))),(3,.int .i64 0)]) rfl rfl rfl ?_ rfl rfl
   simp (disch:=first|omega|(simp only[xk,W9,Xa,vk,Nat.reduceAdd];first|done|omega|fail)|(simp (disch:=first|omega|(simp only[xk,W9,Xa,vk,Nat.reduceAdd];first|done|omega|fail)|fail)only[xk,Ao,Xc,W9,Xa,vk,Nat.reduceAdd];done)|fail)only[go_sem,vN,AK,AP.f152,sF,r1',r2,k1]
 · rw[if_neg (by rw[g1];decide)]
   have r1':Lp AP.A [0,4,5] AP.f152L0 [(0,v),(4,.str ⟨#[]⟩),(5,.int .i64 0)] h.dY=some (.ret,e',h.dY):=r1
   refine uo (fn:=AP.f152) (h2:=h.dY) (e:=e') rfl rfl rfl ?_ (by simp only[AP.f152,cM,nk,r2,r3];rfl) rfl
   simp (disch:=first|omega|(simp only[xk,W9,Xa,vk,Nat.reduceAdd];first|done|omega|fail)|(simp (disch:=first|omega|(simp only[xk,W9,Xa,vk,Nat.reduceAdd];first|done|omega|fail)|fail)only[xk,Ao,Xc,W9,Xa,vk,Nat.reduceAdd];done)|fail)only[go_sem,vN,AK,AP.f152,sF,r1']
def K4 (e:wR):Nat:=128+2* e.name.size+e.packed.size
def BB:List wR→Nat
 |[]=>0
 |e::l=>K4 e+BB l
theorem CI (a b:List wR):BB (a++b)=BB a+BB b:=by
 induction a with
 |nil=>simp [BB]
 |cons x a ih=>rw[List.cons_append,BB,BB,ih];omega
def yl (l:List wR):Nat:=22+BB l
def xa (l:List wR):Bool:=xO l&&l.all xy
theorem F4:∀{l:List wR} {p:Option wR},yT p l=true→∀e∈l,wY e.name=true∧xj e=true∧xM e=true
 |[],_,_,e,h=>by cases h
 | x :: l, p, hm, e, h => by
   rw[yT,u9]at hm
   rcases vC.1 h with rfl|h
   · have:=hm.1
     unfold yF at this
     simp only[u9]at this
     exact⟨this.1,this.2.2.1,this.2.2.2⟩
   · exact F4 hm.2 e h
theorem zX {e:wR} (h:xM e=true):e.packed.size≤300:=by
 unfold xM at h
 split at h
 · simp only[u9]at h
   have:=(IY _).1 h.2.1
   omega
 · simp only[u9,vv,Xh]at h
   omega
theorem xP {s:ByteArray} (h:wY s=true):1≤s.size∧s.size≤8:=by
 unfold wY at h
 simp only[u9,Xh]at h
 omega
theorem KT:∀{l:List wR},(∀e∈l,wY e.name=true∧xj e=true∧xM e=true)→BB l≤444* l.length
 |[],_=>by simp [BB]
 | e :: l, h => by
   have i:=KT (l:=l) fun x hx=>h x (by simp [hx])
   obtain⟨h1,_,h3⟩:=h e (by simp)
   have:=xP h1
   have:=zX h3
   rw[BB,W9];unfold K4;omega
theorem wF {l:List wR} (h:xO l=true):l.length≤6∧(∀e∈l,wY e.name=true∧xj e=true∧xM e=true)∧yl l≤4096:=by
 unfold xO at h
 simp only[u9,Xh]at h
 have a:=F4 h.1
 have:=KT a
 exact⟨h.2,a,by unfold yl;omega⟩
def Cq (e:wR):Nat:=yo e.name%8
def JD (e:wR):Int:=((yX (BI e):Nat):Int)
def xZ (l:List wR) (b:Nat):List Int:=(l.filter fun e=>Cq e==b).map JD
theorem DS (l:List wR) (e:wR) (b:Nat):xZ (l++[e]) b=if Cq e=b then xZ l b++[JD e]else xZ l b:=by
 unfold xZ
 rw[List.filter_append,Xo]
 by_cases c:Cq e=b
 · rw[if_pos c];simp [c]
 · rw[if_neg c];simp [c]
theorem Bg (l:List wR) (b:Nat):(xZ l b).length≤l.length:=by
 unfold xZ;rw[Xd];exact List.length_filter_le _ _
theorem Ho (l:List wR) (b:Nat):(xZ l b).all zm=true:=by
 unfold xZ
 rw[List.all_map,Xv]
 intro e _
 have:=Gu (BI e)
 simp [Function.comp,zm,JD]
 omega
def wG (l:List Int):Int:=((yX (yW l):Nat):Int)
theorem F2 {l:List Int} (h:l.all zm=true):Ch l=some (yX (yW l)):=by unfold Ch;rw[if_pos h]
theorem J1 (l:List Int):zm (wG l)=true:=by
 have:=Gu (yW l)
 simp [zm,wG]
 omega
def vY (l:List wR):List Int:=(List.range 8).map fun b=>wG (xZ l b)
theorem wh (l:List wR):(vY l).length=8:=by simp [vY]
theorem CZ (l:List wR):(vY l).all zm=true:=by
 unfold vY
 rw[List.all_map,Xv]
 exact fun b _=>J1 _
def yq:Option Int→List Int→Bool
 |_,[]=>true
 |p,b::l=>(decide (0≤b)&&(decide (b<8)&&(match p with|none=>true|some q=>decide (q<b))))&&yq (some b) l
def yE (l:List Int):Bool:=yq none l
theorem Cb : ∀ {l : List Int} {p : Option Int}, yq p l = true → (∀ b ∈ l, 0 ≤ b ∧ b < 8 ∧ (match p with | none => True | some q => q < b)) ∧ l.Nodup
 |[],_,_=>⟨fun b h=>(by cases h),List.nodup_nil⟩
 | x :: l, p, h => by
   unfold yq at h
   simp only[u9,Xh]at h
   obtain⟨h1,h2⟩:=h
   obtain⟨i1,i2⟩:=Cb h2
   refine⟨fun b hb=> ?_,List.nodup_cons.2 ⟨fun q=> ?_,i2⟩⟩
   · rcases vC.1 hb with rfl|hb
     · refine⟨h1.1,h1.2.1, ?_⟩
       cases p with
       |none=>trivial
       |some q=>exact of_decide_eq_true h1.2.2
     · have:=i1 b hb
       refine⟨this.1,this.2.1, ?_⟩
       cases p with
       |none=>trivial
       | some q =>
         have a:q<x:=of_decide_eq_true h1.2.2
         have b':x<b:=this.2.2
         show q<b
         omega
   · have:x<x:=(i1 x q).2.2
     omega
abbrev GF:=ByteArray×List Int
def w9 (l:List wR) (bs:List Int):List GF:=(l.filter fun e=>bs.contains ((Cq e:Nat):Int)).map fun e=>(e.name,e.vec)
structure Bu (h:H) (A:Nat) (C:Nat→AV) (ls:Nat→List Int):Prop where
 get:h.get A=some (nD 8 C)
 fl:h.floor≤A
 nx:h.floor≤h.next
 own:∀n,n<8→wo 1 h (C n) (ls n).length (ints (ls n))
 Mq:∀n m,n<8→m<8→n≠m→∀i,(C n).id?=some i→(C m).id?≠some i
 gt:∀n,n<8→∀i,(C n).id?=some i→A<i
theorem Bu.mono {h g:H} {A:Nat} {C:Nat→AV} {ls:Nat→List Int} (b:Bu h A C ls) (hf:g.floor=h.floor) (hn:h.next≤g.next) (hg:∀i,i<h.next→g.get i=h.get i):Bu g A C ls:=
 ⟨by rw[hg A (h.lt _ _ b.get)];exact b.get,by rw[hf];exact b.fl,by rw[hf];exact vD b.nx hn,fun n hn'=>(b.own n hn').mono hf fun i q=>hg i ((b.own n hn').lt q).2,b.Mq,b.gt⟩
theorem Bu.push {h : H} {A : Nat} {C : Nat → AV} {ls : Nat → List Int} (b : Bu h A C ls) {n : Nat} (hn : n < 8) (hl : (ls n).length < 1000000) (x : Int) :
 ∃ v' h', kR (h.alloc [.int .i64 x]) 1 8 (C n) (.aD h.next 0 1 1) = some (v', h') ∧ v'.sc = true ∧ h'.get A = some (nD 8 C) ∧ h'.floor = h.floor ∧ h.next ≤ h'.next ∧
   Bu (h'.set A (nD 8 (uv C n v'))) A (uv C n v') (fun m=>if m=n then ls n++[x]else ls m)∧∀i,i<A→h'.get i=h.get i:=by
 have o:=b.own n hn
 obtain⟨v',h',p1,p2,p3,p4,p5,p6⟩:=o.push b.nx (z:=8) (m:=1) (by omega) (by omega) [.int .i64 x] rfl rfl (by simp [roomy];omega)
 have hA:=h.lt _ _ b.get
 have nA:(C n).id?≠some A:=fun q=>by have:=b.gt n hn A q;omega
 have gA:h'.get A=some (nD 8 C):=by rw[p5 A nA hA];exact b.get
 refine⟨v',h',p1,p2.sc,gA,p3,by omega,⟨by rw[vP rfl,gA];rfl,by simp [p3,b.fl],by simp [p3];have:=b.nx;omega,fun m hm=> ?_,fun m k hm hk hmk i q=> ?_,fun m hm i q=> ?_⟩,fun i hi=>p5 i (fun q=>by have:=b.gt n hn i q;omega) (by omega)⟩
 · by_cases c:m=n
   · subst c
     have e:ints (ls m)++[.int .i64 x]=ints (ls m++[x]):=by simp [ints,I]
     rw[e]at p2
     simp only[uv,if_true,vF,List.length_singleton]
     exact p2.mono (by simp) fun i q=>by rw[vL];rw[p6]at q;have:=uS q;omega
   · simp only[uv,if_neg c]
     refine(b.own m hm).mono (by simp [p3]) fun i q=> ?_
     have h1:=((b.own m hm).lt q).2
     have h2:=b.gt m hm i q
     rw[vL (by omega),p5 i (fun q2=>b.Mq m n hm hn c i q q2) h1]
 · unfold uv at q ⊢
   by_cases c1:m=n
   · rw[if_pos c1,p6]at q
     have e:=uS q
     rw[if_neg (by omega)]
     intro q2
     have:=((b.own k hk).lt q2).2
     omega
   · rw[if_neg c1]at q
     by_cases c2:k=n
     · rw[if_pos c2,p6]
       intro q2
       have e:=uS q2
       have:=((b.own m hm).lt q).2
       omega
     · rw[if_neg c2]
       exact b.Mq m k hm hk hmk i q
 · unfold uv at q
   by_cases c:m=n
   · rw[if_pos c,p6]at q
     have e:=uS q
     omega
   · rw[if_neg c]at q
     exact b.gt m hm i q
theorem Bu.new {h:H} (hf:h.floor≤h.next):Bu (h.alloc (nD 8 fun _=>.aQ)) h.next (fun _=>.aQ) (fun _=>[]):=
 ⟨vO rfl,by simpa using hf,by simp;omega,fun n _=>wo.nil,fun n m _ _ _ i q=>(by cases q),fun n _ i q=>(by cases q)⟩
theorem xo.AN {n:Nat} {h g:H} {v:AV} {k:Nat} {cs:List AV} (r:xo n h v k cs) (hg:∀i,v.id?=some i→g.get i=h.get i):xo n g v k cs:=by
 obtain⟨r,hl,hs⟩:=r
 refine⟨?_,hl,hs⟩
 unfold aT at r ⊢
 split at r
 · exact r
 · exact r
 · rename_i id off len s
   split at r
   · rename_i q
     rw[if_pos q,hg id rfl];exact r
   · cases r
 · exact r
 · cases r
theorem Rd.AN {h g:H} {v:AV} {cs:List AV} (r:Rd h v cs) (hg:∀i,v.id?=some i→g.get i=h.get i):Rd g v cs:=by
 have:=r.Bb.AN hg
 exact⟨this.1,this.2.2⟩
theorem xw.AN {h g:H} {x:wc} (o:xw h x) (hg:∀i,x.2.id?=some i→g.get i=h.get i):xw g x:=⟨o.vec.AN hg,o.vl,o.nl,o.pl⟩
theorem AY (l:List wc) (x:wc):vW (l++[x])=vW l++vT x.1 x.2:=by simp [vW,Po]
theorem xo.DY {h:H} {v:AV} {l:List wc} (rd:xo 9 h v l.length (vW l)):∃ad:Int→Nat→AV,(∀i:Int,0≤i∧i<l.length→fV 9 v (.int .i64 i)=some (ad i 0))∧
 (∀g,Ext h g→∀(i:Nat) (x:wc),l[i]?=some x→PE g (ad i 0) (vT x.1 x.2)∧bU true 9 (ad i 0) g=some (.agg (vT x.1 x.2))):=by
 obtain⟨ad,a1,a2,a4,a3⟩:=rd.at_
 refine⟨ad,a1,fun g hg i x hx=> ?_⟩
 have hi:i<l.length:=(uY.1 hx).1
 have hI:(0:Int)≤(i:Int)∧(i:Int)<l.length:=⟨by omega,by omega⟩
 refine⟨⟨fun g'=>a4 _ 0 g' hI,fun k=>ad i (0+k),fun k=>a2 _ 0 k hI,fun g' hg' k c hc=> ?_⟩, ?_⟩
 · have hk:k<9:=(uY.1 hc).1
   refine(a3 g' (fun id c q=>hg' id c (hg id c q))).1 _ _ _ hI ?_
   rw[xI,vk,show vW l=l.flatMap Po from rfl,yS Aw hx hk];exact hc
 · rw[(a3 g hg).2 _ hI,xI,show vW l=l.flatMap Po from rfl,Cy Aw hx];rfl
theorem Iv {v:AV} {l:List wc} (h:H) (b:Nat) (hb:h.get b=some [v]) (rd:xo 9 h v l.length (vW l)) (hm:xO (l.map (·.1))=true):∀(q p:List wc),l=p++q→
 ∃e',Lp AP.A [0,3,10,11] AP.f192L0 [(0,.aC b 0),(3,.int .i64 (22+BB (p.map (·.1)):Nat)),(10,.int .i64 l.length),(11,.int .i64 p.length)] h=some (.exit 0,e',h)∧look e' 3=.int .i64 (yl (l.map (·.1)):Nat)
 | [], p, hp => by
   rw[Xe]at hp;subst hp
   refine⟨[(0,.aC b 0),(3,.int .i64 (22+BB (l.map (·.1)):Nat)),(10,.int .i64 l.length),(11,.int .i64 l.length),(12,.bool false)],tF ?_,rfl⟩
   simp (disch:=omega)only[go_sem,vN,AP.f192L0]
 | x :: q, p, hp => by
   obtain⟨m1,m2,m3⟩:=wF hm
   have hx:l[p.length]?=some x:=by rw[hp];simp
   have hlen:l.length=p.length+(q.length+1):=by rw[hp];simp
   rw[Xd]at m1
   obtain⟨_,_,c3⟩:=m2 x.1 (by rw[hp];simp)
   have c1:=xP (m2 x.1 (by rw[hp];simp)).1
   have c2:=zX c3
   obtain⟨ad,a1,a2⟩:=rd.DY
   have b1:=a1 p.length ⟨by omega,by omega⟩
   obtain⟨pe,_⟩:=a2 h (Ext.refl h) p.length x hx
   have nl:=pe.nil
   obtain⟨qq,f1,f2⟩:=pe.tL
   have l0:=f2 h (Ext.refl h) 0 _ rfl
   have l6:=f2 h (Ext.refl h) 6 _ rfl
   obtain⟨e',r1,r2⟩:=Iv h b hb rd hm q (p++[x]) (by rw[hp];simp)
   have sz:yl (l.map (·.1))=22+(BB (p.map (·.1))+(K4 x.1+BB (q.map (·.1)))):=by unfold yl;rw[hp,Xo,CI,Xk,BB]
   have e1:22+BB ((p++[x]).map (·.1))=22+BB (p.map (·.1))+K4 x.1:=by rw[Xo,CI];simp [BB];omega
   have n1:((p++[x]).length:Int)=(p.length:Int)+1:=by simp
   rw[e1,n1]at r1
   have se:K4 x.1=128+2* x.1.name.size+x.1.packed.size:=rfl
   obtain⟨N,hN⟩:∃N,N=22+BB (p.map (·.1)):=⟨_,rfl⟩
   rw[←hN]at r1 ⊢
   have hN2:N≤4096:=by omega
   have w:(N:Int)+(76+2* ((x.1.name.size:Int)+26)+(x.1.packed.size:Int))=((N+K4 x.1:Nat):Int):=by omega
   refine⟨e',tG ?_ r1,r2⟩
   clear r1 r2 e1 sz hN rd a1 a2 f2 pe m2 m3 hm hp n1
   simp (disch:=omega)only[go_sem,vN,AP.f192L0,hb,b1,nl,f1,l0,l6,w]
theorem Mg {v:AV} {l:List wc} (h:H) (b:Nat) (hb:h.get b=some [v]) (rd:xo 9 h v l.length (vW l)) (hm:xO (l.map (·.1))=true):aS AP.A 192 [.aC b 0] h=some (.int .i64 (yl (l.map (·.1)):Nat),h):=by
 obtain⟨e',r1,r2⟩:=Iv h b hb rd hm l [] rfl
 have ln:=rd.len
 have r1':Lp AP.A [0,3,10,11] AP.f192L0 [(0,.aC b 0),(3,.int .i64 22),(10,.int .i64 l.length),(11,.int .i64 0)] h=some (.exit 0,e',h):=r1
 clear rd r1 hm
 generalize yl (l.map (·.1))=N at *
 refine tT (fn:=AP.f192) (h2:=h) (e:=[(2,.int .i64 N)]) (vs:=[.int .i64 N]) rfl rfl rfl ?_ rfl
 simp (disch:=omega)only[go_sem,vN,AP.f192,hb,ln,sF,r1',r2]
theorem wZ (v:AV):ij true 1 [v] 0=some (.agg [v]):=rfl
theorem Mf (h:H) (v:AV) (l:List wc) (hvs:v.sc=true) (hn:l.length<1125899906842624) (rd:xo 9 h v l.length (vW l)) (hv:∀x∈l,xw h x):aS AP.A 190 [.agg [v]] h=some (.int .i64 (if xO (l.map (·.1))=true then(yl (l.map (·.1)):Nat)else(0:Nat):Nat),h):=by
 obtain⟨h1,eh1⟩:∃g,g=h.dY.alloc [v]:=⟨_,rfl⟩
 have hx0:Ext h h1:=by rw[eh1];exact fun i c q=>((Ext.refl h.dY).alloc _) i c q
 have hn0:h.dY.next=h.next:=rfl
 have g1:h1.get h.next=some [v]:=by rw[eh1];exact vO rfl
 have rd1:=rd.mono fun i c q=>hx0 i c q
 have k1:=K0 h1 v l hvs hn rd1 (fun x hx=>(hv x hx).mono hx0)
 cases hm:xO (l.map (·.1))with
 | false =>
   rw[hm]at k1
   refine uo (fn:=AP.f190) (h2:=h1) (e:=[(2,.int .i64 0)]) (vs:=[.int .i64 0]) rfl rfl rfl ?_ rfl rfl
   clear rd rd1 hv hx0
   simp (disch:=omega)only[go_sem,vN,AP.f190,hvs,hn0,←eh1,g1,wZ,k1]
 | true =>
   rw[hm]at k1
   have k2:=Mg h1 h.next g1 rd1 hm
   refine uo (fn:=AP.f190) (h2:=h1) (e:=[(2,.int .i64 (yl (l.map (·.1)):Nat))]) (vs:=[.int .i64 (yl (l.map (·.1)):Nat)]) rfl rfl rfl ?_ rfl rfl
   clear rd rd1 hv hx0
   simp (disch:=omega)only[go_sem,vN,AP.f190,hvs,hn0,←eh1,g1,wZ,k1,k2]
theorem RD (h:H) (v:AV) (l:List wc) (hvs:v.sc=true) (hn:l.length<1125899906842624) (rd:xo 9 h v l.length (vW l)) (hv:∀x∈l,xw h x):aS AP.A 186 [.agg [v]] h=some (.bool (xO (l.map (·.1))),h):=by
 obtain⟨h1,eh1⟩:∃g,g=h.dY.alloc [v]:=⟨_,rfl⟩
 have hx0:Ext h h1:=by rw[eh1];exact fun i c q=>((Ext.refl h.dY).alloc _) i c q
 have hn0:h.dY.next=h.next:=rfl
 have g1:h1.get h.next=some [v]:=by rw[eh1];exact vO rfl
 have rd1:=rd.mono fun i c q=>hx0 i c q
 have k1:=Mf h1 v l hvs hn rd1 (fun x hx=>(hv x hx).mono hx0)
 cases hm:xO (l.map (·.1))with
 | false =>
   rw[hm]at k1
   have k1':aS AP.A 190 [.agg [v]] h1=some (.int .i64 0,h1):=k1
   refine uo (fn:=AP.f186) (h2:=h1) (e:=[(2,.bool false)]) (vs:=[.bool false]) rfl rfl rfl ?_ rfl rfl
   clear rd rd1 hv hx0
   simp (disch:=omega)only[go_sem,vN,AP.f186,hvs,hn0,←eh1,g1,wZ,k1']
 | true =>
   rw[hm]at k1
   have k1':aS AP.A 190 [.agg [v]] h1=some (.int .i64 (yl (l.map (·.1)):Nat),h1):=k1
   have m3:=(wF hm).2.2
   have m4:22≤yl (l.map (·.1)):=by unfold yl;omega
   generalize yl (l.map (·.1))=N at *
   refine uo (fn:=AP.f186) (h2:=h1) (e:=[(2,.bool true)]) (vs:=[.bool true]) rfl rfl rfl ?_ rfl rfl
   clear rd rd1 hv hx0 k1 hm
   simp (disch:=omega)only[go_sem,vN,AP.f186,hvs,hn0,←eh1,g1,wZ,k1']
theorem Pr (h:H) (hf:h.floor≤h.next) (e:wR) (v:AV) (hv:v.sc=true) (ok:xw h (e,v)):aS AP.A 188 [.agg (vT e v)] h=some (.bool (!xy e),h):=by
 obtain⟨h1,eh1⟩:∃g,g=h.dY.alloc (vT e v):=⟨_,rfl⟩
 have hx1:Ext h h1:=fun i c q=>by rw[eh1];exact((Ext.refl h.dY).alloc _) i c q
 have hn0:h.dY.next=h.next:=rfl
 have g0:h1.get h.next=some (vT e v):=by rw[eh1,vO (by simp)]
 have k1:=GN h1 (by rw[eh1];simp) e v hv (ok.mono hx1)
 have rdA:ij true 9 (vT e v) 0=some (.agg (vT e v)):=rfl
 refine uo (fn:=AP.f188) (h2:=h1) (e:=[(2,.bool (!xy e))]) rfl rfl rfl ?_ rfl rfl
 clear hx1
 simp only[vT]at *
 simp (disch:=omega)only[go_sem,vN,AP.f188,hv,hn0,←eh1,g0,rdA,k1]
theorem HM {v : AV} {l : List wc} (hl : l.length < 1000) (h : H) (hf : h.floor ≤ h.next) (rd : xo 9 h v l.length (vW l)) (hv : ∀ x ∈ l, xw h x ∧ x.2.sc = true) : ∀ (q p : List wc), l = p ++ q →
 (∃e',Lp AP.A [0,1,7,8] AP.f191L0 [(0,v),(1,.fn 188 [] []),(7,.int .i64 l.length),(8,.int .i64 p.length)] h=some (.exit 0,e',h)∧(q.map (·.1)).all xy=true)∨
 (∃e',Lp AP.A [0,1,7,8] AP.f191L0 [(0,v),(1,.fn 188 [] []),(7,.int .i64 l.length),(8,.int .i64 p.length)] h=some (.ret,e',h)∧(∃k:Nat,look e' 4=.int .i64 k)∧(q.map (·.1)).all xy=false)
 | [], p, hp => by
   rw[Xe]at hp;subst hp
   refine .inl ⟨[(0,v),(1,.fn 188 [] []),(7,.int .i64 l.length),(8,.int .i64 l.length),(9,.bool false)],tF ?_,rfl⟩
   simp (disch:=omega)only[go_sem,vN,AP.f191L0]
 | x :: q, p, hp => by
   have hx:l[p.length]?=some x:=by rw[hp];simp
   have hlen:l.length=p.length+(q.length+1):=by rw[hp];simp
   obtain⟨ad,a1,a2⟩:=rd.DY
   have b1:=a1 p.length ⟨by omega,by omega⟩
   obtain⟨_,b2⟩:=a2 h (Ext.refl h) p.length x hx
   obtain⟨ok,sc⟩:=hv x (by rw[hp];simp)
   have k1:=Pr h hf x.1 x.2 sc ok
   have n1:((p++[x]).length:Int)=(p.length:Int)+1:=by simp
   have ih:=HM hl h hf rd hv q (p++[x]) (by rw[hp];simp)
   rw[n1]at ih
   rw[Xk,XG]
   cases hm:xy x.1 with
   | false =>
     rw[hm]at k1
     refine .inr ⟨[(4,.int .i64 p.length)],uc ?_,⟨p.length,rfl⟩,rfl⟩
     clear ih rd a1 a2 hv hp
     generalize vT x.1 x.2=E at *
     simp (disch:=omega)only[go_sem,vN,AP.f191L0,b1,b2,k1]
   | true =>
     rw[hm]at k1
     rw[Xj]
     have step:aM (aS AP.A) bB AP.f191L0 (ax [(0,v),(1,.fn 188 [] []),(7,.int .i64 l.length),(8,.int .i64 p.length)] [0,1,7,8]) h=some (.normal,[(0,v),(1,.fn 188 [] []),(7,.int .i64 l.length),(8,.int .i64 ((p.length:Int)+1))],h):=by
      clear ih rd a1 a2 hv hp
      generalize vT x.1 x.2=E at *
      simp (disch:=omega)only[go_sem,vN,AP.f191L0,b1,b2,k1]
     rcases ih with ⟨e',r1,r2⟩|⟨e',r1,r2,r3⟩
     · exact .inl ⟨e',tG step r1,r2⟩
     · exact .inr ⟨e',tG step r1,r2,r3⟩
theorem M4 (h:H) (hf:h.floor≤h.next) (v:AV) (l:List wc) (hl:l.length<1000) (rd:xo 9 h v l.length (vW l)) (hv:∀x∈l,xw h x∧x.2.sc=true):aS AP.A 187 [v,.fn 188 [] []] h=some (.bool (!(l.map (·.1)).all xy),h):=by
 have xf:Ext h h.dY:=fun i c q=>q
 have k1:∃k:Int,aS AP.A 191 [v,.fn 188 [] []] h.dY=some (.int .i64 k,h.dY)∧(k<0↔(l.map (·.1)).all xy=true):=by
  have ln:=rd.len
  rcases HM hl h.dY.dY (by simp) (rd.mono fun i c q=>xf i c q) (fun x hx=>⟨(hv x hx).1.mono xf,(hv x hx).2⟩) l [] rfl with ⟨e',r1,r2⟩|⟨e',r1,⟨k,r2⟩,r3⟩
  · have r1':Lp AP.A [0,1,7,8] AP.f191L0 [(0,v),(1,.fn 188 [] []),(7,.int .i64 l.length),(8,.int .i64 0)] h.dY.dY=some (.exit 0,e',h.dY.dY):=r1
    refine⟨-1,uo (fn:=AP.f191) (h2:=h.dY.dY) (e:=[(4,.int .i64 (-1))]) rfl rfl rfl ?_ rfl rfl,by rw[r2];simp⟩
    clear rd hv r1 r2
    simp (disch:=omega)only[go_sem,vN,AP.f191,ln,sF,r1']
  · have r1':Lp AP.A [0,1,7,8] AP.f191L0 [(0,v),(1,.fn 188 [] []),(7,.int .i64 l.length),(8,.int .i64 0)] h.dY.dY=some (.ret,e',h.dY.dY):=r1
    refine⟨k,uo (fn:=AP.f191) (h2:=h.dY.dY) (e:=e') (vs:=[.int .i64 k]) rfl rfl rfl ?_ (by simp only[AP.f191,cM,nk,r2];rfl) rfl,by rw[r3];simp⟩
    clear rd hv r1 r2 r3
    simp (disch:=omega)only[go_sem,vN,AP.f191,ln,sF,r1']
 obtain⟨k,k1,k2⟩:=k1
 refine uo (fn:=AP.f187) (h2:=h.dY) (e:=[(4,.bool (!(l.map (·.1)).all xy))]) rfl rfl rfl ?_ rfl rfl
 cases ha:(l.map (·.1)).all xy with
 | true =>
   have:¬0≤k:=by have:=k2.2 ha;omega
   clear rd hv k2
   simp (disch:=omega)only[go_sem,vN,AP.f187,k1]
 | false =>
   have:0≤k:=by
    rw[ha]at k2
    have:¬k<0:=fun q=>by cases k2.1 q
    omega
   clear rd hv k2
   simp (disch:=omega)only[go_sem,vN,AP.f187,k1]
theorem JQ (h:H) (v:AV) (l:List wc) (hvs:v.sc=true) (hn:l.length<1125899906842624) (rd:xo 9 h v l.length (vW l)) (hv:∀x∈l,xw h x∧x.2.sc=true):aS AP.A 183 [.agg [v]] h=some (.bool (xa (l.map (·.1))),h):=by
 obtain⟨h1,eh1⟩:∃g,g=h.dY.alloc [v]:=⟨_,rfl⟩
 have hx0:Ext h h1:=by rw[eh1];exact fun i c q=>((Ext.refl h.dY).alloc _) i c q
 have hn0:h.dY.next=h.next:=rfl
 have g1:h1.get h.next=some [v]:=by rw[eh1];exact vO rfl
 have rd1:=rd.mono fun i c q=>hx0 i c q
 have k1:=RD h1 v l hvs hn rd1 (fun x hx=>(hv x hx).1.mono hx0)
 refine uo (fn:=AP.f183) (h2:=h1) (e:=[(2,.bool (xa (l.map (·.1))))]) rfl rfl rfl ?_ rfl rfl
 unfold xa
 cases hm:xO (l.map (·.1))with
 | false =>
   rw[hm]at k1
   clear rd rd1 hv hx0
   simp (disch:=omega)only[go_sem,vN,AP.f183,hvs,hn0,←eh1,g1,wZ,k1]
 | true =>
   rw[hm]at k1
   have m1:=(wF hm).1
   rw[Xd]at m1
   have k2:=M4 h1 (by rw[eh1];simp) v l (by omega) rd1 (fun x hx=>⟨(hv x hx).1.mono hx0,(hv x hx).2⟩)
   clear rd rd1 hv hx0
   generalize (l.map (·.1)).all xy=B at *
   cases B<;>simp (disch:=omega)only[go_sem,vN,AP.f183,hvs,hn0,←eh1,g1,wZ,k1,k2]
def JK:Ty:=.sl Pn 9 104
def Lt:Ty:=.st [JK]
theorem L8 {ess:List (List AV)} (h:∀es,es∈ess→Sh reachBytes Pn es):∃l:List wc,l.length=ess.length∧ess.flatten=vW l∧∀x∈l,x.2.sc=true∧(∀g,xw g x)∧x.1.vec.length<20000000000000:=by
 induction ess with
 |nil=>exact⟨[],rfl,rfl,fun x hx=>by cases hx⟩
 | cons y ess ih =>
   obtain⟨e,v,rfl,hv,ok,hl⟩:=Sf (h y (by simp))
   obtain⟨l,h1,h2,h3⟩:=ih fun es q=>h es (by simp [q])
   refine⟨(e,v)::l,by simp [h1],by rw[List.flatten_cons,h2];rfl,fun x hx=> ?_⟩
   rcases vC.1 hx with rfl|hx
   · exact⟨hv,ok,hl⟩
   · exact h3 x hx
theorem H6 {avs:List AV} (h:Sh reachBytes JK avs):∃(v:AV) (l:List wc),avs=[v]∧v.sc=true∧(∀g,xo 9 g v l.length (vW l))∧(∀x∈l,x.2.sc=true∧(∀g,xw g x)∧x.1.vec.length<20000000000000)∧l.length<1353300000000:=by
 cases h with
 |aQ=>exact⟨.aQ,[],rfl,rfl,fun g=>⟨rfl,rfl,fun s q=>(by cases q)⟩,fun x hx=>(by cases hx),by simp⟩
 | aW ess h hz hb =>
   obtain⟨l,h1,h2,h3⟩:=L8 h
   have hl:ess.flatten.length=ess.length* 9:=by rw[h2,zJ,h1]
   refine⟨_,l,rfl,rfl,fun g=> ?_,h3, ?_⟩
   · rw[h2,←h1]
     refine⟨?_,by rw[zJ],fun s q=>by cases q⟩
     simp only[aT,if_true,vk]
     rw[if_pos (by rw[zJ];exact u6 _),Xf,vA (by rw[zJ];exact u6 _)]
   · rw[h1];unfold reachBytes at hb;omega
theorem Sg {avs:List AV} (h:Sh reachBytes Lt avs):∃(v:AV) (l:List wc),avs=[v]∧v.sc=true∧(∀g,xo 9 g v l.length (vW l))∧(∀x∈l,x.2.sc=true∧(∀g,xw g x)∧x.1.vec.length<20000000000000)∧l.length<1353300000000:=by
 obtain⟨a1,r1,rfl,s1,h1⟩:=wV (H7 h)
 obtain rfl:=CE h1
 obtain⟨v,l,rfl,q⟩:=H6 s1
 exact⟨v,l,rfl,q⟩
structure Sy (n:Nat) (h:H) (w:AV) (h':H) (k:Nat) (cs:List AV):Prop where
 own:wo n h' w k cs
 ext:Ext h h'
 fl:h'.floor=h.floor
 nx:h.next≤h'.next
 ge:∀i,w.id?=some i→h.next≤i
theorem FA (h:H) (s:ByteArray) (hs:s.size<1125899906842624):aS AP.A 179 [.str s] h=some (.int .i64 ((yo s%8:Nat):Int),h):=by
 have k1:=F5 h.dY s hs
 have rm:br .rem (.int .i64 (yo s:Int)) (.int .i64 8)=some (.int .i64 ((yo s%8:Nat):Int)):=by
  show(if(8:Int)=0 then none else some (AV.int .i64 ((yo s:Int).tmod 8)))=_
  rw[if_neg (by decide),Int.tmod_eq_emod_of_nonneg (by omega)];rfl
 generalize ((yo s%8:Nat):Int)=M at *
 refine uo (fn:=AP.f179) (h2:=h.dY) (e:=[(2,.int .i64 M)]) rfl rfl rfl ?_ rfl rfl
 simp (disch:=omega)only[go_sem,vN,AP.f179,k1,rm]
theorem xm {v:AV} (h:v.sc=true):v.cells=[v]:=by cases v<;>first|rfl|cases h
theorem Hj {v:AV} {l:List wc} (h0:H) (rd:xo 9 h0 v l.length (vW l)) (hv:∀x∈l,xw h0 x∧x.2.sc=true) (hm:xa (l.map (·.1))=true) (A:Nat) (hA:h0.next≤A):∀(q p:List wc),l=p++q→∀(h:H) (C:Nat→AV),Ext h0 h→h0.next≤h.next→Bu h A C (xZ (p.map (·.1)))→
 ∃e' h' C',Lp AP.A [4,19,20,21] AP.f177L1 [(4,.aC A 0),(19,v),(20,.int .i64 l.length),(21,.int .i64 p.length)] h=some (.exit 0,e',h')∧look e' 4=.aC A 0∧Bu h' A C' (xZ (l.map (·.1)))∧Ext h0 h'∧h'.floor=h.floor∧h.next≤h'.next
 | [], p, hp, h, C, hx, hn, bu => by
   rw[Xe]at hp;subst hp
   refine⟨[(4,.aC A 0),(19,v),(20,.int .i64 l.length),(21,.int .i64 l.length),(22,.bool false)],h,C,tF ?_,rfl,bu,hx,rfl,u6 _⟩
   simp (disch:=omega)only[go_sem,vN,AP.f177L1]
 | x :: q, p, hp, h, C, hx, hn, bu => by
   unfold xa at hm
   have hm':=hm
   rw[u9]at hm
   obtain⟨m1,m2,m3⟩:=wF hm.1
   rw[Xd]at m1
   have hl:l[p.length]?=some x:=by rw[hp];simp
   have hlen:l.length=p.length+(q.length+1):=by rw[hp];simp
   have may:xy x.1=true:=Xv.1 hm.2 x.1 (by rw[hp];simp)
   have nsz:=xP (m2 x.1 (by rw[hp];simp)).1
   obtain⟨ad,a1,a2⟩:=rd.DY
   have b1:=a1 p.length ⟨by omega,by omega⟩
   obtain⟨_,b2⟩:=a2 h hx p.length x hl
   obtain⟨ok,sc⟩:=hv x (by rw[hp];simp)
   obtain⟨E,hE⟩:∃E,E=vT x.1 x.2:=⟨_,rfl⟩
   have lE:E.length=9:=by rw[hE];rfl
   have cE:AV.aB E=true:=by rw[hE];exact yx sc
   have rE:ij true 9 E 0=some (.agg E):=by rw[hE];rfl
   have E0:E[0]?=some (.str x.1.name):=by rw[hE];rfl
   obtain⟨g0,eg0⟩:∃g,g=h.alloc Z9:=⟨_,rfl⟩
   obtain⟨g1,eg1⟩:∃g,g=g0.set h.next E:=⟨_,rfl⟩
   have z0:g0.get h.next=some Z9:=by rw[eg0,vO rfl]
   have st:ur g0 h.next 0 9 E (some Z9)=some g1:=by rw[eg1];exact wH (by rw[eg0];simp;exact bu.nx) lE rfl cE
   have z1:g1.get h.next=some E:=by rw[eg1,vP rfl,z0];rfl
   have low:∀i,i<h.next→g1.get i=h.get i:=fun i hi=>by rw[eg1,vL (by omega),eg0,vS (by omega)]
   have f1:g1.floor=h.floor:=by rw[eg1,eg0];simp
   have n1:g1.next=h.next+1:=by rw[eg1,eg0];simp
   have x1:Ext h0 g1:=fun i c q=>by rw[low i (by have:=h0.lt _ _ q;omega)];exact hx i c q
   have bu1:=bu.mono f1 (by omega) low
   have k1:=JE g1 (by have:=bu.nx;omega) x.1 x.2 sc (ok.mono x1)
   unfold IH at k1
   rw[if_pos may,←hE]at k1
   have k1':aS AP.A 91 [.agg E] g1=some (.bP [.int .i64 (JD x.1),.int .i64 0],g1):=k1
   have k2:=FA g1 x.1.name (by omega)
   obtain⟨b,hb⟩:∃b,b=yo x.1.name%8:=⟨_,rfl⟩
   have hb8:b<8:=by omega
   rw[←hb]at k2
   obtain⟨v',h',p1,p2,p3,p4,p5,p6,p7⟩:=bu1.push hb8 (by have:=Bg (p.map (·.1)) b;rw[Xd]at this;omega) (JD x.1)
   have gC:(nD 8 C)[b]?=some (C b):=fT hb8
   have hc:=xm p2
   have gA1:=bu1.get
   have st2:ur h' A b 1 [v'] (some (nD 8 C))=some (h'.set A (nD 8 (uv C b v'))):=by
    rw[uK (by rw[p4];exact bu1.fl) (by simp [hb8]) p2,tW hb8]
   have eb:(fun m=>if m=b then xZ (p.map (·.1)) b++[JD x.1]else xZ (p.map (·.1)) m)=xZ ((p++[x]).map (·.1)):=by
    funext m
    rw[Xo,XB,DS]
    have:Cq x.1=b:=hb.symm
    rw[this]
    by_cases c:m=b
    · subst c;simp
    · rw[if_neg c,if_neg (by omega)]
   rw[eb]at p6
   obtain⟨e',h2,C2,r1,r2,r3,r4,r5,r6⟩:=Hj h0 rd hv hm' A hA q (p++[x]) (by rw[hp];simp) (h'.set A (nD 8 (uv C b v'))) _ (fun i c q=>by have:=h0.lt _ _ q;rw[vL (by omega),p7 i (by omega)];exact x1 i c q) (by simp;omega) p6
   have w1:((p++[x]).length:Int)=(p.length:Int)+1:=by simp
   rw[w1]at r1
   refine⟨e',h2,C2,tG ?_ r1,r2,r3,r4,by rw[r5];simp [p4,f1],by simp at r6;omega⟩
   rw[←hE]at b2
   have a0:h.alloc [.str ⟨#[]⟩,.bool false,.aQ,.int .i64 0,.int .i64 0,.int .i64 0,.str ⟨#[]⟩,.int .i64 0,.int .i64 0]=g0:=eg0.symm
   have pI:(0:Int)≤(b:Int)∧(b:Int)<8:=⟨by omega,by omega⟩
   clear r1 r2 r3 r4 r5 r6 p6 eb hE hv rd a1 a2 x1 low bu bu1 k1 hx hm hm' m2 hb may hp eg0 eg1
   generalize JD x.1=D at *
   generalize nD 8 (uv C b v')=T2 at *
   generalize nD 8 C=T1 at *
   simp (disch:=omega)only[go_sem,vN,AP.f177L1,b1,b2,a0,z0,lE,cE,st,z1,rE,E0,k1',k2,gA1,gC,p1,hc,p3,st2]
theorem Dr {f:Nat→Int} (i:Nat):(List.range (i+1)).map f=(List.range i).map f++[f i]:=by rw[List.range_succ,Xo];rfl
theorem Fv (h0 : H) (C : Nat → AV) (ls : Nat → List Int) (hb : ∀ m, m < 8 → (ls m).all zm = true ∧ (ls m).length < 1000000) : ∀ (n i : Nat), i + n = 8 → ∀ (h : H) (ov : AV), (∀ m, m < 8 → Rd h (C m) (ints (ls m))) → wo 1 h ov i (ints ((List.range i).map fun b => wG (ls b))) → h.floor ≤ h.next →
 (∀m,m<8→∀j,(C m).id?=some j→ov.id?≠some j∧j<h.next)→Ext h0 h→h0.next≤h.next→(∀j,ov.id?=some j→h0.next≤j)→
 ∃e' h' ov',Lp AP.A [10,42,43] AP.f177L0 [(10,ov),(42,.agg (nD 8 C)),(43,.int .i64 i)] h=some (.exit 2,e',h')∧look e' 10=ov'∧wo 1 h' ov' 8 (ints ((List.range 8).map fun b=>wG (ls b)))∧Ext h0 h'∧h'.floor=h.floor∧h.next≤h'.next∧∀j,ov'.id?=some j→h0.next≤j
 | 0, i, hi, h, ov, ij, o, hf, sep, hx, hn, hge => by
   obtain rfl:i=8:=by omega
   refine⟨[(10,ov),(42,.agg (nD 8 C)),(43,.int .i64 8),(44,.bool false)],h,ov,tF ?_,rfl,o,hx,rfl,u6 _,hge⟩
   generalize nD 8 C=T at *
   simp (disch:=omega)only[go_sem,vN,AP.f177L0]
 | n + 1, i, hi, h, ov, ij, o, hf, sep, hx, hn, hge => by
   obtain⟨ha,hl⟩:=hb i (by omega)
   have k1:=J2 h (C i) (ls i) (ij i (by omega)) (by omega)
   rw[F2 ha]at k1
   have k1':aS AP.A 93 [C i] h=some (.bP [.int .i64 (wG (ls i)),.int .i64 0],h):=k1
   obtain⟨v',h',p1,p2,p3,p4,p5,p6⟩:=o.push hf (z:=8) (m:=1) (by omega) (by omega) [.int .i64 (wG (ls i))] rfl rfl (by simp [roomy];omega)
   have e:ints ((List.range i).map fun b=>wG (ls b))++[.int .i64 (wG (ls i))]=ints ((List.range (i+1)).map fun b=>wG (ls b)):=by rw[Dr];simp [ints,I]
   rw[e]at p2
   have xt:∀j,j<h.next→ov.id?≠some j→h'.get j=h.get j:=fun j a b=>p5 j b a
   have gC:mq false 8 1 (.agg (nD 8 C)) (.int .i64 i)=some (C i):=by
    show(dd (.int .i64 (i:Int)) 8).bind _=_
    rw[Su ⟨by omega,by omega⟩,uZ,xI,XD]
    exact fT (by omega)
   obtain⟨e',h2,ov',r1,r2⟩:=Fv h0 C ls hb n (i+1) (by omega) h' v' (fun m hm=>(ij m hm).AN fun j q=>xt j (sep m hm j q).2 (sep m hm j q).1) p2 (by rw[p3];omega) (fun m hm j q=>by
    have:=(sep m hm j q).2
    rw[p6]
    exact⟨fun q2=>by have:=uS q2;omega,by omega⟩) (fun j c q=>by
     have:=h0.lt _ _ q
     rw[xt j (by omega) (fun q2=>by have:=hge j q2;omega)];exact hx j c q) (by omega) (fun j q=>by rw[p6]at q;have:=uS q;omega)
   have w1:((i+1:Nat):Int)=(i:Int)+1:=by omega
   rw[w1]at r1
   refine⟨e',h2,ov',tG ?_ r1,r2.1,r2.2.1,r2.2.2.1,by rw[r2.2.2.2.1,p3],by have:=r2.2.2.2.2.1;omega,r2.2.2.2.2.2⟩
   have scC:(C i).sc=true:=by
    have:=ij i (by omega)
    cases hc:C i with
    |bot=>rw[hc]at this;cases this.1
    |agg _=>rw[hc]at this;cases this.1
    |bP _=>rw[hc]at this;cases this.1
    |_=>rfl
   clear r1 r2 xt ij o sep hx p2 e hb
   generalize wG (ls i)=D at *
   generalize nD 8 C=T at *
   generalize C i=Ci at *
   simp (disch:=omega)only[go_sem,vN,AP.f177L0,gC,k1',p1,u0,vG]
theorem JF (l:List wR):vY l=(List.range 8).map fun b=>wG (xZ l b):=rfl
theorem GL (h : H) (hf : h.floor ≤ h.next) (v : AV) (l : List wc) (hvs : v.sc = true) (hn : l.length < 1125899906842624) (rd : xo 9 h v l.length (vW l)) (hv : ∀ x ∈ l, xw h x ∧ x.2.sc = true) :
 ∃w h',aS AP.A 177 [.agg [v]] h=some (.bP [w,.int .i64 (if xa (l.map (·.1))then 0 else 1600)],h')∧Sy 1 h w h' (if xa (l.map (·.1))then vY (l.map (·.1))else []).length (ints (if xa (l.map (·.1))then vY (l.map (·.1))else [])):=by
 obtain⟨g1,eg1⟩:∃g,g=h.alloc [v]:=⟨_,rfl⟩
 have hx1:Ext h g1:=by rw[eg1];exact(Ext.refl h).alloc _
 have z1:g1.get h.next=some [v]:=by rw[eg1];exact vO rfl
 have f1:g1.floor=h.floor:=by rw[eg1];simp
 have n1:g1.next=h.next+1:=by rw[eg1];simp
 have rd1:=rd.mono fun i c q=>hx1 i c q
 have hv1:∀x∈l,xw g1 x∧x.2.sc=true:=fun x hx=>⟨(hv x hx).1.mono hx1,(hv x hx).2⟩
 have k1:=JQ g1 v l hvs hn rd1 hv1
 have ln:=rd1.len
 cases hm:xa (l.map (·.1))with
 | false =>
   rw[hm]at k1
   refine⟨.aQ,g1, ?_,⟨wo.nil,hx1,f1,by omega,fun i q=>by cases q⟩⟩
   refine tT (fn:=AP.f177) (h2:=g1) (e:=[(2,.aQ),(3,.int .i64 1600)]) (vs:=[.aQ,.int .i64 1600]) rfl rfl rfl ?_ rfl
   clear rd rd1 hv hv1 hx1
   simp (disch:=omega)only[go_sem,vN,AP.f177,hvs,←eg1,z1,wZ,k1]
 | true =>
   rw[hm]at k1
   have m1:=hm
   unfold xa at m1
   rw[u9]at m1
   have m2:=(wF m1.1).1
   rw[Xd]at m2
   obtain⟨g2,eg2⟩:∃g,g=g1.alloc (nD 8 fun _=>.aQ):=⟨_,rfl⟩
   have hx2:Ext g1 g2:=by rw[eg2];exact(Ext.refl g1).alloc _
   have z2:g2.get h.next=some [v]:=hx2 _ _ z1
   have bu:=Bu.new (h:=g1) (by omega)
   rw[←eg2]at bu
   obtain⟨e',g3,C,r1,r2,r3,r4,r5,r6⟩:=Hj g1 rd1 hv1 hm g1.next (u6 _) l [] rfl g2 (fun _=>.aQ) hx2 (by rw[eg2];simp) bu
   have r1':Lp AP.A [4,19,20,21] AP.f177L1 [(4,.aC (h.next+1) 0),(19,v),(20,.int .i64 l.length),(21,.int .i64 0)] g2=some (.exit 0,e',g3):=by rw[←n1];exact r1
   rw[n1]at r2 r3
   have a2:g1.alloc [.aQ,.aQ,.aQ,.aQ,.aQ,.aQ,.aQ,.aQ]=g2:=eg2.symm
   have z3:=r3.get
   have rT:ij true 8 (nD 8 C) 0=some (.agg (nD 8 C)):=rfl
   have n2:g2.next=h.next+2:=by rw[eg2];simp [n1]
   have f2:g2.floor=h.floor:=by rw[eg2];simp [f1]
   obtain⟨e2,g4,ov,s1,s2,s3,s4,s5,s6,s7⟩:=Fv h C (xZ (l.map (·.1))) (fun m _=>⟨Ho _ _,by have:=Bg (l.map (·.1)) m;rw[Xd]at this;omega⟩) 8 0 rfl g3 .aQ (fun m hm=>by
    have o:=(r3.own m hm).rd
    exact⟨by have:=o.1;rw[pP];exact this,o.2.2⟩) wo.nil r3.nx (fun m hm j q=>⟨(fun q2=>by cases q2),((r3.own m hm).lt q).2⟩) (fun i c q=>r4 i c (hx1 i c q)) (by omega) (fun j q=>by cases q)
   have s1':Lp AP.A [10,42,43] AP.f177L0 [(10,.aQ),(42,.agg (nD 8 C)),(43,.int .i64 0)] g3=some (.exit 2,e2,g4):=s1
   refine⟨ov,g4, ?_,⟨by rw[if_pos rfl,wh,JF];exact s3,s4,by rw[s5,r5,f2],by omega,s7⟩⟩
   rw[if_pos rfl]
   refine tT (fn:=AP.f177) (h2:=g4) (e:=[(2,ov),(3,.int .i64 0)]) (vs:=[ov,.int .i64 0]) rfl rfl rfl ?_ rfl
   clear rd rd1 hv hv1 hx1 hx2 r1 s1 s3 s4 r3 bu eg2
   generalize nD 8 C=T at *
   simp (disch:=omega)only[go_sem,vN,AP.f177,hvs,←eg1,z1,n1,wZ,k1,a2,z2,ln,sF,r1',r2,z3,rT,s1',s2]
def Dw (l:List Int):AV:=if l.all zm&&decide (l.length=8)then .bP [.int .i64 (wG l),.int .i64 0]else .bP [.int .i64 0,.int .i64 1600]
theorem Kv (h:H) (v:AV) (l:List Int) (rd:Rd h v (ints l)) (hl:l.length<1125899906842624):aS AP.A 181 [v] h=some (Dw l,h):=by
 have xf:Ext h h.dY:=fun i c q=>q
 have k1:=J2 h.dY v l (rd.mono fun i c q=>xf i c q) hl
 have r2:=(rd.mono fun i c q=>xf i c q:Rd h.dY v (ints l)).Bb
 rw[pP]at r2
 have ln:=r2.len
 unfold Dw
 unfold Ch at k1
 cases ha:l.all zm with
 | false =>
   rw[ha]at k1
   have k1':aS AP.A 93 [v] h.dY=some (.bP [.int .i64 0,.int .i64 1500],h.dY):=k1
   refine uo (fn:=AP.f181) (h2:=h.dY) (e:=[(2,.int .i64 0),(3,.int .i64 1600)]) rfl rfl rfl ?_ rfl rfl
   clear rd r2 k1
   simp (disch:=omega)only[go_sem,vN,AP.f181,k1',ln]
 | true =>
   rw[ha]at k1
   have k1':aS AP.A 93 [v] h.dY=some (.bP [.int .i64 (wG l),.int .i64 0],h.dY):=k1
   by_cases c:l.length=8
   · have c':(l.length:Int)=8:=by omega
     rw[dt c]
     refine uo (fn:=AP.f181) (h2:=h.dY) (e:=[(2,.int .i64 (wG l)),(3,.int .i64 0)]) rfl rfl rfl ?_ rfl rfl
     clear rd r2 k1
     generalize wG l=M at *
     simp (disch:=omega)only[go_sem,vN,AP.f181,k1',ln]
   · have c':¬(l.length:Int)=8:=by omega
     rw[df c]
     refine uo (fn:=AP.f181) (h2:=h.dY) (e:=[(2,.int .i64 0),(3,.int .i64 1600)]) rfl rfl rfl ?_ rfl rfl
     clear rd r2 k1
     generalize wG l=M at *
     simp (disch:=omega)only[go_sem,vN,AP.f181,k1',ln]
def Lb (p:Option Int) (b:Int):Bool:=decide (0≤b)&&(decide (b<8)&&(match p with|none=>true|some q=>decide (q<b)))
theorem Hm (p:Option Int) (b:Int) (l:List Int):yq p (b::l)=(Lb p b&&yq (some b) l):=by cases p<;>(rw[yq];rfl)
theorem Hk {v : AV} {l : List Int} (hl : l.length < 1125899906842624) (h : H) (rd : Rd h v (ints l)) : ∀ (q p : List Int), l = p ++ q →
 (∃e',Lp AP.A [0,5,6,7] AP.f184L0 [(0,v),(5,v),(6,.int .i64 l.length),(7,.int .i64 p.length)] h=some (.exit 0,e',h)∧yq p.getLast? q=true)∨
 (∃e',Lp AP.A [0,5,6,7] AP.f184L0 [(0,v),(5,v),(6,.int .i64 l.length),(7,.int .i64 p.length)] h=some (.ret,e',h)∧look e' 2=.bool false∧yq p.getLast? q=false)
 | [], p, hp => by
   rw[Xe]at hp;subst hp
   refine .inl ⟨[(0,v),(5,v),(6,.int .i64 l.length),(7,.int .i64 l.length),(8,.bool false)],tF ?_,rfl⟩
   simp (disch:=omega)only[go_sem,vN,AP.f184L0]
 | x :: q, p, hp => by
   have hlen:l.length=p.length+(q.length+1):=by rw[hp];simp
   have hx:l[p.length]?=some x:=by rw[hp];simp
   obtain⟨ad,a1,a2⟩:=rd.xg
   have b1:=a1 p.length ⟨by omega,by omega⟩
   have b2:=a2 h (Ext.refl h) p.length x hx
   have ih:=Hk hl h rd q (p++[x]) (by rw[hp];simp)
   have w1:((p++[x]).length:Int)=(p.length:Int)+1:=by simp
   rw[w1,XJ]at ih
   rw[Hm]
   have step : aM (aS AP.A) bB AP.f184L0 (ax [(0, v), (5, v), (6, .int .i64 l.length), (7, .int .i64 p.length)] [0, 5, 6, 7]) h = if Lb p.getLast? x then some (.normal, [(0, v), (5, v), (6, .int .i64 l.length), (7, .int .i64 ((p.length : Int) + 1))], h) else some (.ret, [(2, .bool false)], h) := by
    unfold Lb
    cases hq:p.getLast? with
    | none =>
      have hp0:p=[]:=Xz.1 hq
      have hp1:p.length=0:=by rw[hp0];rfl
      clear ih rd a1 a2 hp w1
      by_cases c1:0≤x
      · by_cases c2:x<8
        · simp only[dt c1,dt c2,Xr,if_true]
          simp (disch:=omega)only[go_sem,vN,AP.f184L0,b1,b2]
        · simp only[dt c1,df c2,Xg,Xi,u0,vG]
          simp (disch:=omega)only[go_sem,vN,AP.f184L0,b1,b2]
      · simp only[df c1,Xg,u0,vG]
        simp (disch:=omega)only[go_sem,vN,AP.f184L0,b1,b2]
    | some y =>
      obtain⟨p',rfl⟩:∃p',p=p'++[y]:=XA.1 hq
      have hpl:(p'++[y]).length=p'.length+1:=by simp
      have hy:l[p'.length]?=some y:=by rw[hp];simp
      have bj:=a1 p'.length ⟨by omega,by omega⟩
      have lj:=a2 h (Ext.refl h) p'.length y hy
      have n2:(((p'++[y]).length:Nat):Int)-1=(p'.length:Int):=by rw[hpl];omega
      have n3:0<(((p'++[y]).length:Nat):Int):=by rw[hpl];omega
      clear ih rd a1 a2 hp w1 hx hy hq
      generalize (p'++[y]).length=pl at *
      by_cases c1:0≤x
      · by_cases c2:x<8
        · by_cases c3:y<x
          · rw[dt c1,dt c2]
            simp only[dt c3,Xr,if_true]
            simp (disch:=omega)only[go_sem,vN,AP.f184L0,b1,b2,bj,lj,n2]
          · rw[dt c1,dt c2]
            simp only[df c3,Xi,u0,vG]
            simp (disch:=omega)only[go_sem,vN,AP.f184L0,b1,b2,bj,lj,n2]
        · simp only[dt c1,df c2,Xg,Xi,u0,vG]
          simp (disch:=omega)only[go_sem,vN,AP.f184L0,b1,b2]
      · simp only[df c1,Xg,u0,vG]
        simp (disch:=omega)only[go_sem,vN,AP.f184L0,b1,b2]
   by_cases hok:Lb p.getLast? x=true
   · rw[if_pos hok]at step
     rw[hok,Xj]
     rcases ih with ⟨e',r1,r2⟩|⟨e',r1,r2,r3⟩
     · exact .inl ⟨e',tG step r1,r2⟩
     · exact .inr ⟨e',tG step r1,r2,r3⟩
   · have hok':Lb p.getLast? x=false:=by simpa using hok
     rw[if_neg hok]at step
     rw[hok',Xg]
     exact .inr ⟨_,uc step,rfl,rfl⟩
theorem Ju (h:H) (v:AV) (l:List Int) (rd:Rd h v (ints l)) (hl:l.length<1125899906842624):aS AP.A 184 [v] h=some (.bool (yE l),h):=by
 have xf:Ext h h.dY:=fun i c q=>q
 have rdf:Rd h.dY v (ints l):=rd.mono fun i c q=>xf i c q
 have r2:=rdf.Bb
 rw[pP]at r2
 have ln:=r2.len
 unfold yE
 rcases Hk hl h.dY rdf l [] rfl with ⟨e',r1,r3⟩|⟨e',r1,r3,r4⟩
 · have r1':Lp AP.A [0,5,6,7] AP.f184L0 [(0,v),(5,v),(6,.int .i64 l.length),(7,.int .i64 0)] h.dY=some (.exit 0,e',h.dY):=r1
   have r3':yq none l=true:=r3
   rw[r3']
   refine uo (fn:=AP.f184) (h2:=h.dY) (e:=[(2,.bool true)]) rfl rfl rfl ?_ rfl rfl
   clear rd rdf r2 r1 r3
   simp (disch:=omega)only[go_sem,vN,AP.f184,ln,sF,r1']
 · have r1':Lp AP.A [0,5,6,7] AP.f184L0 [(0,v),(5,v),(6,.int .i64 l.length),(7,.int .i64 0)] h.dY=some (.ret,e',h.dY):=r1
   have r4':yq none l=false:=r4
   rw[r4']
   refine uo (fn:=AP.f184) (h2:=h.dY) (e:=e') (vs:=[.bool false]) rfl rfl rfl ?_ (by simp only[AP.f184,cM,nk,r3];rfl) rfl
   clear rd rdf r2 r1 r4
   simp (disch:=omega)only[go_sem,vN,AP.f184,ln,sF,r1']
theorem HN {v : AV} {l : List Int} (hl : l.length < 1125899906842624) (h : H) (rd : Rd h v (ints l)) (y : Int) : ∀ (q p : List Int), l = p ++ q →
 (∃e',Lp AP.A [0,1,7,8] AP.f189L0 [(0,v),(1,.int .i64 y),(7,.int .i64 l.length),(8,.int .i64 p.length)] h=some (.exit 0,e',h)∧q.contains y=false)∨
 (∃e',Lp AP.A [0,1,7,8] AP.f189L0 [(0,v),(1,.int .i64 y),(7,.int .i64 l.length),(8,.int .i64 p.length)] h=some (.ret,e',h)∧(∃k:Nat,look e' 4=.int .i64 k)∧q.contains y=true)
 | [], p, hp => by
   rw[Xe]at hp;subst hp
   refine .inl ⟨[(0,v),(1,.int .i64 y),(7,.int .i64 l.length),(8,.int .i64 l.length),(9,.bool false)],tF ?_,rfl⟩
   simp (disch:=omega)only[go_sem,vN,AP.f189L0]
 | x :: q, p, hp => by
   have hlen:l.length=p.length+(q.length+1):=by rw[hp];simp
   have hx:l[p.length]?=some x:=by rw[hp];simp
   obtain⟨ad,a1,a2⟩:=rd.xg
   have b1:=a1 p.length ⟨by omega,by omega⟩
   have b2:=a2 h (Ext.refl h) p.length x hx
   have ih:=HN hl h rd y q (p++[x]) (by rw[hp];simp)
   have w1:((p++[x]).length:Int)=(p.length:Int)+1:=by simp
   rw[w1]at ih
   by_cases c:y=x
   · refine .inr ⟨[(4,.int .i64 p.length)],uc ?_,⟨p.length,rfl⟩,by simp [c]⟩
     clear ih rd a1 a2 hp w1
     simp (disch:=omega)only[go_sem,vN,AP.f189L0,b1,b2,c]
   · have step:aM (aS AP.A) bB AP.f189L0 (ax [(0,v),(1,.int .i64 y),(7,.int .i64 l.length),(8,.int .i64 p.length)] [0,1,7,8]) h=some (.normal,[(0,v),(1,.int .i64 y),(7,.int .i64 l.length),(8,.int .i64 ((p.length:Int)+1))],h):=by
      clear ih rd a1 a2 hp w1
      simp (disch:=omega)only[go_sem,vN,AP.f189L0,b1,b2]
     have ec:(x::q).contains y=q.contains y:=by simp [c]
     rw[ec]
     rcases ih with ⟨e',r1,r2⟩|⟨e',r1,r2,r3⟩
     · exact .inl ⟨e',tG step r1,r2⟩
     · exact .inr ⟨e',tG step r1,r2,r3⟩
theorem IV (h:H) (v:AV) (l:List Int) (y:Int) (rd:Rd h v (ints l)) (hl:l.length<1125899906842624):aS AP.A 185 [v,.int .i64 y] h=some (.bool (l.contains y),h):=by
 have xf:Ext h h.dY:=fun i c q=>q
 have rdf:Rd h.dY.dY v (ints l):=rd.mono fun i c q=>xf i c q
 have r2:=rdf.Bb
 rw[pP]at r2
 have ln:=r2.len
 have k1:∃k:Int,aS AP.A 189 [v,.int .i64 y] h.dY=some (.int .i64 k,h.dY)∧(0≤k↔l.contains y=true):=by
  rcases HN hl h.dY.dY rdf y l [] rfl with ⟨e',r1,r3⟩|⟨e',r1,⟨k,r3⟩,r4⟩
  · have r1':Lp AP.A [0,1,7,8] AP.f189L0 [(0,v),(1,.int .i64 y),(7,.int .i64 l.length),(8,.int .i64 0)] h.dY.dY=some (.exit 0,e',h.dY.dY):=r1
    refine⟨-1,uo (fn:=AP.f189) (h2:=h.dY.dY) (e:=[(4,.int .i64 (-1))]) rfl rfl rfl ?_ rfl rfl,by rw[r3];simp⟩
    clear rd rdf r2 r1 r3
    simp (disch:=omega)only[go_sem,vN,AP.f189,ln,sF,r1']
  · have r1':Lp AP.A [0,1,7,8] AP.f189L0 [(0,v),(1,.int .i64 y),(7,.int .i64 l.length),(8,.int .i64 0)] h.dY.dY=some (.ret,e',h.dY.dY):=r1
    refine⟨k,uo (fn:=AP.f189) (h2:=h.dY.dY) (e:=e') (vs:=[.int .i64 k]) rfl rfl rfl ?_ (by simp only[AP.f189,cM,nk,r3];rfl) rfl,by rw[r4];simp⟩
    clear rd rdf r2 r1 r4 r3
    simp (disch:=omega)only[go_sem,vN,AP.f189,ln,sF,r1']
 obtain⟨k,k1,k2⟩:=k1
 refine uo (fn:=AP.f185) (h2:=h.dY) (e:=[(4,.bool (l.contains y))]) rfl rfl rfl ?_ rfl rfl
 clear rd rdf r2
 cases hc:l.contains y with
 | true =>
   have:=k2.2 hc
   clear k2
   simp (disch:=omega)only[go_sem,vN,AP.f185,k1]
 | false =>
   have:¬0≤k:=fun q=>by rw[hc]at k2;cases k2.1 q
   clear k2
   simp (disch:=omega)only[go_sem,vN,AP.f185,k1]
abbrev xx:=GF×AV
def IB (x:xx):List AV:=[.str x.1.1,x.2]
def wO (l:List xx):List AV:=l.flatMap IB
theorem yr (x:xx):(IB x).length=2:=rfl
theorem AR (l:List xx) (x:xx):wO (l++[x])=wO l++IB x:=by simp [wO]
structure Jf (h0 h:H) (ov:AV) (x:xx):Prop where
 ex:∃j,x.2=.aD j 0 4 1∧h.get j=some (ints x.1.2)∧h0.next≤j∧ov.id?≠some j∧h.floor≤j
 l4:x.1.2.length=4
theorem Jf.mono {h0 h g:H} {ov ov':AV} {x:xx} (b:Jf h0 h ov x) (hf:g.floor=h.floor) (hg:∀j,j<h.next→ov.id?≠some j→g.get j=h.get j) (ho:∀j,j<h.next→ov.id?≠some j→ov'.id?≠some j):Jf h0 g ov' x:=by
 obtain⟨j,e1,e2,e3,e4,e5⟩:=b.ex
 have:=h.lt _ _ e2
 exact⟨⟨j,e1,by rw[hg j this e4];exact e2,e3,ho j this e4,by rw[hf];exact e5⟩,b.l4⟩
theorem Cc (l:List wR) (e:wR) (bs:List Int):w9 (l++[e]) bs=if bs.contains ((Cq e:Nat):Int)then w9 l bs++[(e.name,e.vec)]else w9 l bs:=by
 unfold w9
 rw[List.filter_append,Xo]
 by_cases c:bs.contains ((Cq e:Nat):Int)=true
 · rw[if_pos c,List.filter_cons,if_pos c];rfl
 · rw[if_neg c,List.filter_cons,if_neg c];simp
theorem zT (l:List wR) (bs:List Int):(w9 l bs).length≤l.length:=by unfold w9;rw[Xd];exact List.length_filter_le _ _
theorem EJ {v w:AV} {l:List wc} {bs:List Int} (h0:H) (rd:xo 9 h0 v l.length (vW l)) (hv:∀x∈l,xw h0 x∧x.2.sc=true) (hm:xa (l.map (·.1))=true) (rdb:Rd h0 w (ints bs)) (hbs:bs.length<1125899906842624):∀(q p:List wc),l=p++q→∀(h:H) (ov:AV) (acc:List xx),Ext h0 h→h0.next≤h.next→h.floor≤h.next→
 wo 2 h ov acc.length (wO acc)→acc.map (·.1)=w9 (p.map (·.1)) bs→(∀x∈acc,Jf h0 h ov x)→(∀j,ov.id?=some j→h0.next≤j)→
 ∃e' h' ov' acc',Lp AP.A [1,6,18,19,20] AP.f178L0 [(1,w),(6,ov),(18,v),(19,.int .i64 l.length),(20,.int .i64 p.length)] h=some (.exit 0,e',h')∧look e' 6=ov'∧wo 2 h' ov' acc'.length (wO acc')∧acc'.map (·.1)=w9 (l.map (·.1)) bs∧(∀x∈acc',Jf h0 h' ov' x)∧Ext h0 h'∧h'.floor=h.floor∧h.next≤h'.next∧∀j,ov'.id?=some j→h0.next≤j
 | [], p, hp, h, ov, acc, hx, hn, hf, o, ha, hb, hge => by
   rw[Xe]at hp;subst hp
   refine⟨[(1,w),(6,ov),(18,v),(19,.int .i64 l.length),(20,.int .i64 l.length),(21,.bool false)],h,ov,acc,tF ?_,rfl,o,ha,hb,hx,rfl,u6 _,hge⟩
   simp (disch:=omega)only[go_sem,vN,AP.f178L0]
 | x :: q, p, hp, h, ov, acc, hx, hn, hf, o, ha, hb, hge => by
   unfold xa at hm
   have hm':=hm
   rw[u9]at hm
   obtain⟨m1,m2,m3⟩:=wF hm.1
   rw[Xd]at m1
   have hl:l[p.length]?=some x:=by rw[hp];simp
   have hlen:l.length=p.length+(q.length+1):=by rw[hp];simp
   have may:xy x.1=true:=Xv.1 hm.2 x.1 (by rw[hp];simp)
   have nsz:=xP (m2 x.1 (by rw[hp];simp)).1
   have v4:x.1.vec.length=4:=(yj (m2 x.1 (by rw[hp];simp)).2.1).1
   obtain⟨ad,a1,a2⟩:=rd.DY
   have b1:=a1 p.length ⟨by omega,by omega⟩
   obtain⟨_,b2⟩:=a2 h hx p.length x hl
   obtain⟨ok,sc⟩:=hv x (by rw[hp];simp)
   obtain⟨E,hE⟩:∃E,E=vT x.1 x.2:=⟨_,rfl⟩
   have lE:E.length=9:=by rw[hE];rfl
   have cE:AV.aB E=true:=by rw[hE];exact yx sc
   have E0:E[0]?=some (.str x.1.name):=by rw[hE];rfl
   have E2:E[2]?=some x.2:=by rw[hE];rfl
   obtain⟨g0,eg0⟩:∃g,g=h.alloc Z9:=⟨_,rfl⟩
   obtain⟨g1,eg1⟩:∃g,g=g0.set h.next E:=⟨_,rfl⟩
   have z0:g0.get h.next=some Z9:=by rw[eg0,vO rfl]
   have st:ur g0 h.next 0 9 E (some Z9)=some g1:=by rw[eg1];exact wH (by rw[eg0];simp;exact hf) lE rfl cE
   have z1:g1.get h.next=some E:=by rw[eg1,vP rfl,z0];rfl
   have low:∀i,i<h.next→g1.get i=h.get i:=fun i hi=>by rw[eg1,vL (by omega),eg0,vS (by omega)]
   have f1:g1.floor=h.floor:=by rw[eg1,eg0];simp
   have n1:g1.next=h.next+1:=by rw[eg1,eg0];simp
   have x1:Ext h0 g1:=fun i c q=>by rw[low i (by have:=h0.lt _ _ q;omega)];exact hx i c q
   have k2:=FA g1 x.1.name (by omega)
   have k3:=IV g1 w bs ((Cq x.1:Nat):Int) (rdb.mono fun i c q=>x1 i c q) hbs
   have a0:h.alloc [.str ⟨#[]⟩,.bool false,.aQ,.int .i64 0,.int .i64 0,.int .i64 0,.str ⟨#[]⟩,.int .i64 0,.int .i64 0]=g0:=eg0.symm
   have w1:((p++[x]).length:Int)=(p.length:Int)+1:=by simp
   have k2':aS AP.A 179 [.str x.1.name] g1=some (.int .i64 ((Cq x.1:Nat):Int),g1):=k2
   have al:=Xy List.length ha
   rw[Xd]at al
   have bl:=zT (p.map (·.1)) bs
   rw[Xd]at bl
   have bs':=Cc (p.map (·.1)) x.1 bs
   cases hc:bs.contains ((Cq x.1:Nat):Int)with
   | false =>
     rw[hc]at k3
     rw[hc,if_neg (by decide)]at bs'
     obtain⟨e',h2,ov',acc',r1,r2⟩:=EJ h0 rd hv hm' rdb hbs q (p++[x]) (by rw[hp];simp) g1 ov acc x1 (by omega) (by omega) (o.mono f1 fun i q=>low i (o.lt q).2) (by rw[Xo,XB,bs'];exact ha) (fun y hy=>(hb y hy).mono f1 (fun j q1 _=>low j q1) (fun _ _ q=>q)) hge
     rw[w1]at r1
     refine⟨e',h2,ov',acc',tG ?_ r1,r2.1,r2.2.1,r2.2.2.1,r2.2.2.2.1,r2.2.2.2.2.1,by rw[r2.2.2.2.2.2.1,f1],by have:=r2.2.2.2.2.2.2.1;omega,r2.2.2.2.2.2.2.2⟩
     rw[←hE]at b2
     clear r1 r2 hE hv rd a1 a2 x1 low hx hm hm' m2 may hp eg0 eg1 o hb ha rdb bs' k2 al bl
     generalize ((Cq x.1:Nat):Int)=B at *
     simp (disch:=omega)only[go_sem,vN,AP.f178L0,b1,b2,a0,z0,lE,cE,st,z1,E0,E2,k2',k3]
   | true =>
     rw[hc]at k3
     rw[hc,if_pos rfl]at bs'
     have k4:=EN g1 x.2 x.1.vec (ok.mono x1).vec (by omega) (by omega) (by omega)
     rw[v4]at k4
     obtain⟨g2,eg2⟩:∃g,g=((g1.alloc []).del g1.next).alloc (ints x.1.vec):=⟨_,rfl⟩
     rw[←eg2]at k4
     have low2:∀i,i<g1.next→g2.get i=g1.get i:=fun i hi=>by rw[eg2,vS (by simp;omega),zI (by omega),vS (by omega)]
     have f2:g2.floor=h.floor:=by rw[eg2];simp [f1]
     have n2:g2.next=h.next+3:=by rw[eg2];simp [n1]
     have z2:g2.get h.next=some E:=by rw[low2 _ (by omega)];exact z1
     have zv:g2.get (g1.next+1)=some (ints x.1.vec):=by rw[eg2,vO (by simp)]
     have lo2:∀i,i<h.next→g2.get i=h.get i:=fun i hi=>by rw[low2 i (by omega),low i hi]
     have x2:Ext h0 g2:=fun i c q=>by rw[lo2 i (by have:=h0.lt _ _ q;omega)];exact hx i c q
     have o2:wo 2 g2 ov acc.length (wO acc):=o.mono f2 fun i q=>lo2 i (o.lt q).2
     obtain⟨v',h',p1,p2,p3,p4,p5,p6⟩:=o2.push (by omega) (z:=40) (m:=1) (by omega) (by omega) [.str x.1.name,.aD (g1.next+1) 0 4 1] rfl rfl (by simp [roomy];omega)
     have ea:wO acc++[.str x.1.name,.aD (g1.next+1) 0 4 1]=wO (acc++[((x.1.name,x.1.vec),.aD (g1.next+1) 0 4 1)]):=by rw[AR];rfl
     rw[ea]at p2
     have ovl:∀j,ov.id?=some j→j<h.next:=fun j q=>(o.lt q).2
     obtain⟨e',h2,ov',acc',r1,r2⟩:=EJ h0 rd hv hm' rdb hbs q (p++[x]) (by rw[hp];simp) h' v' (acc++[((x.1.name,x.1.vec),.aD (g1.next+1) 0 4 1)]) (fun i c q=>by
      have:=h0.lt _ _ q
      rw[p5 i (fun q2=>by have:=hge i q2;omega) (by omega)];exact x2 i c q) (by omega) (by omega) (by rw[vF,List.length_singleton];exact p2) (by rw[Xo,Xo,XB,XB,bs',ha]) (fun y hy=>by
      rcases XI.1 hy with hy|hy
      · refine(hb y hy).mono (by rw[p3,f2]) (fun j q1 q2=>by rw[p5 j q2 (by omega),lo2 j q1]) (fun j q1 _=>by rw[p6];intro q2;have:=uS q2;omega)
      · obtain rfl:y=_:=XK.1 hy
        refine⟨⟨g1.next+1,rfl, ?_,by omega,by rw[p6];intro q2;have:=uS q2;omega,by rw[p3,f2];omega⟩,v4⟩
        rw[p5 _ (fun q2=>by have:=ovl _ q2;omega) (by omega)]
        exact zv) (fun j q=>by rw[p6]at q;have:=uS q;omega)
     rw[w1]at r1
     refine⟨e',h2,ov',acc',tG ?_ r1,r2.1,r2.2.1,r2.2.2.1,r2.2.2.2.1,r2.2.2.2.2.1,by rw[r2.2.2.2.2.2.1,p3,f2],by have:=r2.2.2.2.2.2.2.1;omega,r2.2.2.2.2.2.2.2⟩
     rw[←hE]at b2
     clear r1 r2 hE hv rd a1 a2 x1 low hx hm hm' m2 may hp eg0 eg1 o o2 hb ha rdb bs' k2 al bl lo2 low2 x2 p2 ea zv eg2 ovl
     generalize ((Cq x.1:Nat):Int)=B at *
     simp (disch:=omega)only[go_sem,vN,AP.f178L0,b1,b2,a0,z0,lE,cE,st,z1,z2,E0,E2,k2',k3,k4,p1]
theorem Jy (h : H) (hf : h.floor ≤ h.next) (v w : AV) (l : List wc) (bs : List Int) (hvs : v.sc = true) (hn : l.length < 1125899906842624) (rd : xo 9 h v l.length (vW l)) (hv : ∀ x ∈ l, xw h x ∧ x.2.sc = true) (rdb : Rd h w (ints bs)) (hbs : bs.length < 1125899906842624) :
 ∃ov h' acc,aS AP.A 178 [.agg [v],w] h=some (.bP [ov,.int .i64 (if xa (l.map (·.1))&&yE bs then 0 else 1600)],h')∧Sy 2 h ov h' acc.length (wO acc)∧acc.map (·.1)=(if xa (l.map (·.1))&&yE bs then w9 (l.map (·.1)) bs else [])∧∀x∈acc,Jf h h' ov x:=by
 obtain⟨g1,eg1⟩:∃g,g=h.alloc [v]:=⟨_,rfl⟩
 have hx1:Ext h g1:=by rw[eg1];exact(Ext.refl h).alloc _
 have z1:g1.get h.next=some [v]:=by rw[eg1];exact vO rfl
 have f1:g1.floor=h.floor:=by rw[eg1];simp
 have n1:g1.next=h.next+1:=by rw[eg1];simp
 have rd1:=rd.mono fun i c q=>hx1 i c q
 have hv1:∀x∈l,xw g1 x∧x.2.sc=true:=fun x hx=>⟨(hv x hx).1.mono hx1,(hv x hx).2⟩
 have rdb1:Rd g1 w (ints bs):=rdb.mono fun i c q=>hx1 i c q
 have k1:=JQ g1 v l hvs hn rd1 hv1
 have k2:=Ju g1 w bs rdb1 hbs
 have ln:=rd1.len
 cases hm:xa (l.map (·.1))with
 | false =>
   rw[hm]at k1
   refine⟨.aQ,g1,[], ?_,⟨wo.nil,hx1,f1,by omega,fun i q=>by cases q⟩,rfl,fun x hx=>by cases hx⟩
   refine tT (fn:=AP.f178) (h2:=g1) (e:=[(4,.aQ),(5,.int .i64 1600)]) (vs:=[.aQ,.int .i64 1600]) rfl rfl rfl ?_ rfl
   clear rd rd1 hv hv1 hx1 rdb rdb1
   simp (disch:=omega)only[go_sem,vN,AP.f178,hvs,←eg1,z1,wZ,k1,k2]
 | true =>
   rw[hm]at k1
   cases hb:yE bs with
   | false =>
     rw[hb]at k2
     refine⟨.aQ,g1,[], ?_,⟨wo.nil,hx1,f1,by omega,fun i q=>by cases q⟩,rfl,fun x hx=>by cases hx⟩
     refine tT (fn:=AP.f178) (h2:=g1) (e:=[(4,.aQ),(5,.int .i64 1600)]) (vs:=[.aQ,.int .i64 1600]) rfl rfl rfl ?_ rfl
     clear rd rd1 hv hv1 hx1 rdb rdb1
     simp (disch:=omega)only[go_sem,vN,AP.f178,hvs,←eg1,z1,wZ,k1,k2]
   | true =>
     rw[hb]at k2
     obtain⟨e',g2,ov,acc,r1,r2,r3,r4,r5,r6,r7,r8,r9⟩:=EJ g1 rd1 hv1 hm rdb1 hbs l [] rfl g1 .aQ [] (Ext.refl _) (u6 _) (by omega) wo.nil rfl (fun x hx=>by cases hx) (fun j q=>by cases q)
     have r1':Lp AP.A [1,6,18,19,20] AP.f178L0 [(1,w),(6,.aQ),(18,v),(19,.int .i64 l.length),(20,.int .i64 0)] g1=some (.exit 0,e',g2):=r1
     refine⟨ov,g2,acc, ?_,⟨r3,fun i c q=>r6 i c (hx1 i c q),by rw[r7,f1],by omega,fun j q=>by have:=r9 j q;omega⟩,r4,fun x hx=> ?_⟩
     · refine tT (fn:=AP.f178) (h2:=g2) (e:=[(4,ov),(5,.int .i64 0)]) (vs:=[ov,.int .i64 0]) rfl rfl rfl ?_ rfl
       clear rd rd1 hv hv1 hx1 rdb rdb1 r1 r3 r4 r5 r6
       simp (disch:=omega)only[go_sem,vN,AP.f178,hvs,←eg1,z1,wZ,k1,k2,ln,sF,r1',r2]
     · have b:=r5 x hx
       obtain⟨j,q1,q2,q3,q4,q5⟩:=b.ex
       exact⟨⟨j,q1,q2,by omega,q4,q5⟩,b.l4⟩
theorem Pm (h:H) (hf:h.floor≤h.next) (v:AV) (l:List wc) (hvs:v.sc=true) (hn:l.length<1125899906842624) (rd:xo 9 h v l.length (vW l)) (hv:∀x∈l,xw h x∧x.2.sc=true) (hm:xa (l.map (·.1))=true):
 ∃i h',aS AP.A 177 [.agg [v]] h=some (.bP [.aD i 0 8 1,.int .i64 0],h')∧h'.get i=some (ints (vY (l.map (·.1))))∧Ext h h'∧h'.floor=h.floor∧h.next≤h'.next∧h.next≤i:=by
 obtain⟨w,h',k,g⟩:=GL h hf v l hvs hn rd hv
 simp only[hm,if_true]at k g
 rw[wh]at g
 obtain⟨_,⟨_,q⟩|⟨i,q1,q2,_⟩⟩:=g.own
 · cases q
 · subst q1;exact⟨i,h',k,q2,g.ext,g.fl,g.nx,g.ge i rfl⟩
theorem Pl (h:H) (hf:h.floor≤h.next) (v:AV) (l:List wc) (hvs:v.sc=true) (hn:l.length<1125899906842624) (rd:xo 9 h v l.length (vW l)) (hv:∀x∈l,xw h x∧x.2.sc=true) (hm:xa (l.map (·.1))=false):
 ∃h',aS AP.A 177 [.agg [v]] h=some (.bP [.aQ,.int .i64 1600],h')∧Ext h h'∧h'.floor=h.floor∧h.next≤h'.next:=by
 obtain⟨w,h',k,g⟩:=GL h hf v l hvs hn rd hv
 simp only[hm,u0,vG]at k g
 obtain⟨_,⟨q,_⟩|⟨i,_,_,_,q⟩⟩:=g.own
 · subst q;exact⟨h',k,g.ext,g.fl,g.nx⟩
 · simp at q
theorem Jz (h:H) (hf:h.floor≤h.next) (v w:AV) (l:List wc) (bs:List Int) (hvs:v.sc=true) (hn:l.length<1125899906842624) (rd:xo 9 h v l.length (vW l)) (hv:∀x∈l,xw h x∧x.2.sc=true) (rdb:Rd h w (ints bs)) (hbs:bs.length<1125899906842624) (hm:(xa (l.map (·.1))&&yE bs)=true):
 ∃ov h' acc,aS AP.A 178 [.agg [v],w] h=some (.bP [ov,.int .i64 0],h')∧Sy 2 h ov h' acc.length (wO acc)∧acc.map (·.1)=w9 (l.map (·.1)) bs∧∀x∈acc,Jf h h' ov x:=by
 have:=Jy h hf v w l bs hvs hn rd hv rdb hbs
 simpa only[hm,if_true]using this
structure Ae where
 kind:Int
 src:Int
 dst:Int
 root:Int
 wS:List Int
 wX:List Int
 vR:List GF
 names:List ByteArray
 wT:List wR
def xe:Option ByteArray→List ByteArray→Bool
 |_,[]=>true
 |p,s::r=>(wY s&&(match p with|none=>true|some q=>Op.bytesLess q.toList s.toList))&&xe (some s) r
def yk (m:Ae):Bool:=
 (decide (m.kind=0)||decide (m.root=0))&&((decide (m.kind=1)||decide (m.wS.length=0))&&((decide (m.kind=2)||decide (m.wX.length+m.vR.length=0))&&((decide (m.kind=3)||decide (m.names.length=0))&&(decide (m.kind=4)||decide (m.wT.length=0)))))
def xu (m:Ae):Bool:=
 if m.kind=0 then zm m.root
 else if m.kind=1 then decide (m.wS.length=8)&&m.wS.all zm
 else if m.kind=2 then decide (1≤m.wX.length)&&(yE m.wX&&(xe none (m.vR.map (·.1))&&(decide (m.vR.length≤6)&&m.vR.all fun b=>xn b.2)))
 else if m.kind=3 then xe none m.names&&(decide (1≤m.names.length)&&decide (m.names.length≤6))
 else if m.kind=4 then decide (1≤m.wT.length)&&xa m.wT
 else false
def zE (m:Ae):Bool:=(wU m.src&&(wU m.dst&& !decide (m.src=m.dst)))&&(xu m&&yk m)
structure Wz (e:wR):Prop where
 nm:e.name.size≤8
 pk:e.packed.size≤300
 v4:e.vec.length=4
 vc:∀n∈e.vec,0≤n∧n≤1048576
 st:1≤e.wx∧e.wx≤1048576
 nd:0≤e.node∧e.node<4
 mt:e.method=0∨e.method=8
 sz:0≤e.size∧e.size≤300
 cr:0≤e.zo∧e.zo≤4294967295
theorem Ep:∀{l:List ByteArray} {p:Option ByteArray},xe p l=true→∀s∈l,s.size≤8
 |[],_,_,s,h=>by cases h
 | x :: l, p, hr, s, h => by
   unfold xe at hr
   rw[u9,u9]at hr
   rcases vC.1 h with rfl|h
   · have:=xP hr.1.1;omega
   · exact Ep hr.2 s h
structure MS (h0 h:H) (ov:AV) (x:wc):Prop where
 ok:xw h x
 sc:x.2.sc=true
 id:∀i,x.2.id?=some i→h0.next≤i∧i<h.next∧ov.id?≠some i∧h.floor≤i
 wr:∃i cs,x.2=.aD i 0 x.1.vec.length 1∧h.get i=some cs∧(0<x.1.vec.length→cs=ints x.1.vec)
theorem MS.mono {h0 h g:H} {ov ov':AV} {x:wc} (b:MS h0 h ov x) (hf:g.floor=h.floor) (hn:h.next≤g.next) (hg:∀j c,ov.id?≠some j→h.get j=some c→g.get j=some c) (ho:∀j,j<h.next→ov.id?≠some j→ov'.id?≠some j):MS h0 g ov' x:=by
 obtain⟨i,cs,e1,e2,e3⟩:=b.wr
 have q:=b.id i (by rw[e1];rfl)
 have e4:=hg i cs q.2.2.1 e2
 exact⟨b.ok.AN fun k q'=>(by rw[e1]at q';obtain rfl:=uS q';rw[e4,e2]),b.sc,fun i q=>⟨(b.id i q).1,by have:=(b.id i q).2.1;omega,ho i (b.id i q).2.1 (b.id i q).2.2.1,by rw[hf];exact(b.id i q).2.2.2⟩,⟨i,cs,e1,e4,e3⟩⟩
theorem Hr {v : AV} {l : List wc} (hn0 : l.length < 1353300000000) (h0 : H) (rd : xo 9 h0 v l.length (vW l)) (hv : ∀ x ∈ l, xw h0 x ∧ x.2.sc = true ∧ x.1.vec.length < 20000000000000) : ∀ (q p : List wc), l = p ++ q → ∀ (h : H) (ov : AV) (acc : List wc), Ext h0 h → h0.next ≤ h.next → h.floor ≤ h.next →
 wo 9 h ov acc.length (vW acc)→acc.map (·.1)=p.map (·.1)→(∀x∈acc,MS h0 h ov x)→(∀j,ov.id?=some j→h0.next≤j)→h0.floor=h.floor→
 ∃e' h' ov' acc',Lp AP.A [0,3,4] AP.f204L0 [(0,v),(3,ov),(4,.int .i64 p.length)] h=some (.exit 0,e',h')∧look e' 3=ov'∧wo 9 h' ov' acc'.length (vW acc')∧acc'.map (·.1)=l.map (·.1)∧(∀x∈acc',MS h0 h' ov' x)∧Ext h0 h'∧h'.floor=h.floor∧h.next≤h'.next∧∀j,ov'.id?=some j→h0.next≤j
 | [], p, hp, h, ov, acc, hx, hn, hf, o, ha, hb, hge, hfl => by
   rw[Xe]at hp;subst hp
   have ln:=(rd.mono fun i c q=>hx i c q).len
   refine⟨[(0,v),(3,ov),(4,.int .i64 l.length),(8,.bool false)],h,ov,acc,tF ?_,rfl,o,ha,hb,hx,rfl,u6 _,hge⟩
   simp (disch:=omega)only[go_sem,vN,AP.f204L0,ln]
 | x :: q, p, hp, h, ov, acc, hx, hn, hf, o, ha, hb, hge, hfl => by
   have hl:l[p.length]?=some x:=by rw[hp];simp
   have hlen:l.length=p.length+(q.length+1):=by rw[hp];simp
   have ln:=(rd.mono fun i c q=>hx i c q).len
   obtain⟨ad,a1,a2⟩:=rd.DY
   have b1:=a1 p.length ⟨by omega,by omega⟩
   obtain⟨_,b2⟩:=a2 h hx p.length x hl
   obtain⟨ok,sc,vl⟩:=hv x (by rw[hp];simp)
   obtain⟨g1,u,k1,hu,ru,f1,n1,x1,gu⟩:=Hv h hf x.1 x.2 sc (ok.mono hx) vl
   have scu:u.sc=true:=by rw[hu];split<;>rfl
   have idu:∃j cs,u=.aD j 0 x.1.vec.length 1∧h.next≤j∧g1.get j=some cs∧(0<x.1.vec.length→cs=ints x.1.vec):=by
    by_cases c:x.1.vec=[]
    · rw[if_pos c]at hu
      have r:=ru.1
      rw[hu]at r
      simp only[aT,if_true]at r
      cases hg:g1.get (h.next+2)with
      |none=>rw[hg]at r;cases r
      |some cs=>exact⟨h.next+2,cs,by rw[hu,c];rfl,by omega,hg,fun q=>by rw[c]at q;simp at q⟩
    · rw[if_neg c]at hu
      exact⟨h.next+3,_,hu,by omega,gu (Xw.2 c),fun _=>rfl⟩
   obtain⟨j,cs,ej,hj,gj,hcs⟩:=idu
   have jn:=g1.lt _ _ gj
   have o1:wo 9 g1 ov acc.length (vW acc):=o.mono f1 fun i q=>by
    obtain⟨_,o⟩:=o
    rcases o with ⟨rfl,_⟩|⟨i',rfl,o1,_⟩
    · cases q
    · obtain rfl:=uS q;rw[o1];exact x1 _ _ o1
   obtain⟨E,hE⟩:∃E,E=vT x.1 u:=⟨_,rfl⟩
   have lE:E.length=9:=by rw[hE];rfl
   have cE:AV.aB E=true:=by rw[hE];exact yx scu
   have fE:setFrom Z9 0 E=E:=by rw[hE];rfl
   have al:=Xy List.length ha
   rw[Xd,Xd]at al
   obtain⟨v',h',p1,p2,p3,p4,p5,p6⟩:=o1.push (by omega) (z:=104) (m:=1) (by omega) (by omega) E (by rw[lE]) cE (by simp [roomy];omega)
   have ea:vW acc++E=vW (acc++[(x.1,u)]):=by rw[AY,hE]
   rw[ea]at p2
   obtain ⟨e', h2, ov', acc', r1, r2⟩ := Hr hn0 h0 rd hv q (p ++ [x]) (by rw [hp]; simp) h' v' (acc ++ [(x.1, u)]) (fun i c q => by
    have:=h0.lt _ _ q
    rw[p5 i (fun q2=>by have:=hge i q2;omega) (by omega)];exact x1 _ _ (hx i c q)) (by omega) (by omega) (by rw[vF,List.length_singleton];exact p2) (by rw[Xo,Xo,ha];rfl) (fun y hy=>by
    rcases XI.1 hy with hy|hy
    · refine(hb y hy).mono (by rw[p3,f1]) (by omega) (fun j c q1 q2=>by rw[p5 j q1 (by have:=h.lt _ _ q2;omega)];exact x1 _ _ q2) (fun j q1 _=>by rw[p6];intro q2;have:=uS q2;omega)
    · obtain rfl:y=_:=XK.1 hy
      have gj':h'.get j=g1.get j:=p5 j (fun q2=>by have:=(o.lt q2).2;omega) jn
      refine⟨⟨?_,ok.vl,ok.nl,ok.pl⟩,scu,fun i q=> ?_,⟨j,cs,ej,by rw[gj'];exact gj,hcs⟩⟩
      · exact ru.AN fun i q=>by rw[ej]at q;obtain rfl:=uS q;exact gj'
      · rw[show((x.1,u):wc).2=u from rfl,ej]at q
        obtain rfl:=uS q
        exact⟨by omega,by omega,by rw[p6];intro q2;have:=uS q2;omega,by rw[p3,f1];omega⟩) (fun j q=>by rw[p6]at q;have:=uS q;omega) (by rw[p3,f1,hfl])
   have w1:((p++[x]).length:Int)=(p.length:Int)+1:=by simp
   rw[w1]at r1
   refine⟨e',h2,ov',acc',tG ?_ r1,r2.1,r2.2.1,r2.2.2.1,r2.2.2.2.1,r2.2.2.2.2.1,by rw[r2.2.2.2.2.2.1,p3,f1],by have:=r2.2.2.2.2.2.2.1;omega,r2.2.2.2.2.2.2.2⟩
   rw[←hE]at k1
   clear r1 r2 hv rd a1 a2 x1 hx hp o o1 hb ha ea p2 gu ru
   generalize vT x.1 x.2=F at *
   simp (disch:=omega)only[go_sem,vN,AP.f204L0,ln,b1,b2,k1,lE,cE,fE,p1]
theorem FG (h:H) (hf:h.floor≤h.next) (v:AV) (l:List wc) (hn0:l.length<1353300000000) (rd:xo 9 h v l.length (vW l)) (hv:∀x∈l,xw h x∧x.2.sc=true∧x.1.vec.length<20000000000000):
 ∃w h' acc,aS AP.A 204 [v] h=some (w,h')∧Sy 9 h w h' acc.length (vW acc)∧acc.map (·.1)=l.map (·.1)∧∀x∈acc,MS h h' w x:=by
 obtain⟨e',h',ov',acc,r1,r2,r3,r4,r5,r6,r7,r8,r9⟩:=Hr hn0 h rd hv l [] rfl h .aQ [] (Ext.refl h) (u6 _) hf wo.nil rfl (fun x hx=>by cases hx) (fun j q=>by cases q) rfl
 have r1':Lp AP.A [0,3,4] AP.f204L0 [(0,v),(3,.aQ),(4,.int .i64 0)] h=some (.exit 0,e',h'):=r1
 refine⟨ov',h',acc, ?_,⟨r3,r6,r7,r8,r9⟩,r4,r5⟩
 refine tT (fn:=AP.f204) (h2:=h') (e:=[(2,ov')]) (vs:=[ov']) rfl rfl rfl ?_ rfl
 clear rd hv r1 r3 r4 r5 r6
 simp (disch:=omega)only[go_sem,vN,AP.f204,sF,r1',r2]
theorem Li (h:H) (hf:h.floor≤h.next) (v:AV) (l:List wc) (hvs:v.sc=true) (hn0:l.length<1353300000000) (rd:xo 9 h v l.length (vW l)) (hv:∀x∈l,xw h x∧x.2.sc=true∧x.1.vec.length<20000000000000):
 ∃w h' acc,aS AP.A 196 [.agg [v]] h=some (.agg [w],h')∧Sy 9 h w h' acc.length (vW acc)∧acc.map (·.1)=l.map (·.1)∧∀x∈acc,MS h h' w x:=by
 obtain⟨g1,eg1⟩:∃g,g=h.alloc [v]:=⟨_,rfl⟩
 obtain⟨g2,eg2⟩:∃g,g=g1.alloc [.aQ]:=⟨_,rfl⟩
 have n1:g1.next=h.next+1:=by rw[eg1];simp
 have n2:g2.next=h.next+2:=by rw[eg2];simp [n1]
 have f2:g2.floor=h.floor:=by rw[eg2,eg1];simp
 have x2:Ext h g2:=by rw[eg2,eg1];exact((Ext.refl h).alloc _).alloc _
 have z1:g2.get h.next=some [v]:=by rw[eg2,vS (by omega),eg1,vO rfl]
 have z2:g2.get (h.next+1)=some [.aQ]:=by rw[eg2,vO (by omega)]
 obtain⟨w,g3,acc,k1,gen,ha,hb⟩:=FG g2 (by omega) v l hn0 (rd.mono fun i c q=>x2 i c q) (fun x hx=>⟨(hv x hx).1.mono x2,(hv x hx).2⟩)
 have z3:=gen.ext _ _ z2
 have hw:=gen.own.sc
 have cw:=xm hw
 obtain⟨g4,eg4⟩:∃g,g=g3.set (h.next+1) [w]:=⟨_,rfl⟩
 have st:ur g3 (h.next+1) 0 1 [w] (some [.aQ])=some g4:=by rw[uK (by rw[gen.fl,f2];omega) (by simp) hw,eg4];rfl
 have z4:g4.get (h.next+1)=some [w]:=by rw[eg4,vP rfl,z3];rfl
 have xt:∀i,i≠h.next+1→g4.get i=g3.get i:=fun i hi=>by rw[eg4,vL hi]
 have gn:=gen.nx
 refine⟨w,g4,acc, ?_,⟨gen.own.mono (by rw[eg4];simp) (fun i q=>xt i (by have:=gen.ge i q;omega)),fun i c q=> ?_,by rw[eg4];simp [gen.fl,f2],by rw[eg4];simp;omega,fun i q=>by have:=gen.ge i q;omega⟩,ha,fun x hx=> ?_⟩
 · refine tT (fn:=AP.f196) (h2:=g4) (e:=[(2,.aC (h.next+1) 0)]) (vs:=[.agg [w]]) rfl rfl rfl ?_ (by simp only[AP.f196,cM,nk,mU,qQ,z4,tu];rfl)
   clear rd hv hb ha gen xt x2
   simp (disch:=omega)only[go_sem,vN,AP.f196,hvs,←eg1,n1,←eg2,z1,k1,z3,hw,cw,st]
 · have:=h.lt _ _ q
   rw[xt i (by omega)];exact gen.ext _ _ (x2 _ _ q)
 · have b:=hb x hx
   obtain⟨j,cs,q1,q2,q3⟩:=b.wr
   have q4:=b.id j (by rw[q1];rfl)
   exact⟨b.ok.AN fun i q=>xt i (by have:=(b.id i q).1;omega),b.sc,fun i q=>⟨by have:=(b.id i q).1;omega,by rw[eg4];simp;exact(b.id i q).2.1,(b.id i q).2.2.1,by rw[eg4];simp;exact(b.id i q).2.2.2⟩,⟨j,cs,q1,by rw[xt j (by omega)];exact q2,q3⟩⟩
structure ED (h:H) (v:AV) (l:List xx):Prop where
 rd:xo 2 h v l.length (wO l)
 vec:∀x∈l,Rd h x.2 (ints x.1.2)∧x.1.2.length<1125899906842624
theorem ED.mono {h g:H} {v:AV} {l:List xx} (r:ED h v l) (e:Ext h g):ED g v l:=⟨r.rd.mono fun i c q=>e i c q,fun x hx=>⟨(r.vec x hx).1.mono fun i c q=>e i c q,(r.vec x hx).2⟩⟩
theorem ED.at_ {h:H} {v:AV} {l:List xx} (r:ED h v l):∃ad:Int→Nat→AV,(∀i:Int,0≤i∧i<l.length→fV 2 v (.int .i64 i)=some (ad i 0)∧fk 0 (ad i 0)=some (ad i 0)∧fk 1 (ad i 0)=some (ad i 1))∧
 (∀(i:Nat) (x:xx),l[i]?=some x→bU false 1 (ad i 0) h=some (.str x.1.1)∧bU false 1 (ad i 1) h=some x.2):=by
 obtain⟨ad,a1,a2,a4,a3⟩:=r.rd.at_
 refine⟨ad,fun i hi=>⟨a1 i hi,a2 i 0 0 hi,a2 i 0 1 hi⟩,fun i x hx=> ?_⟩
 have hi:i<l.length:=(uY.1 hx).1
 have g:=fun k (hk:k<2)=>yS (f:=k) yr hx hk
 refine⟨(a3 h fun _ _ q=>q).1 i 0 _ ⟨by omega,by omega⟩ ?_,(a3 h fun _ _ q=>q).1 i 1 _ ⟨by omega,by omega⟩ ?_⟩
 · rw[xI];exact g 0 (by omega)
 · rw[xI];exact g 1 (by omega)
theorem H0 {v w : AV} {a b : List xx} (hab : a.length = b.length) (hl : a.length < 1125899906842624) (h : H) (ra : ED h v a) (rb : ED h w b) : ∀ (q r p p' : List xx), a = p ++ q → b = p' ++ r → p.length = p'.length →
 (∃e',Lp AP.A [0,1,5] AP.f182L0 [(0,v),(1,w),(5,.int .i64 p.length)] h=some (.exit 0,e',h)∧q.map (·.1)=r.map (·.1))∨
 (∃e',Lp AP.A [0,1,5] AP.f182L0 [(0,v),(1,w),(5,.int .i64 p.length)] h=some (.ret,e',h)∧look e' 4=.bool false∧q.map (·.1)≠r.map (·.1))
 | [], r, p, p', ha, hb, hp => by
   rw[Xe]at ha;subst ha
   have hr:r=[]:=by
    have:b.length=p'.length+r.length:=by rw[hb];simp
    exact Xm (by omega)
   have ln:=ra.rd.len
   refine .inl ⟨[(0,v),(1,w),(5,.int .i64 a.length),(14,.bool false)],tF ?_,by rw[hr]⟩
   simp (disch:=omega)only[go_sem,vN,AP.f182L0,ln]
 | x :: q, [], p, p', ha, hb, hp => by
   exfalso
   have h1:a.length=p.length+(q.length+1):=by rw[ha];simp
   have h2:b.length=p'.length:=by rw[hb];simp
   omega
 | x :: q, y :: r, p, p', ha, hb, hp => by
   have h1:a.length=p.length+(q.length+1):=by rw[ha];simp
   have hx:a[p.length]?=some x:=by rw[ha];simp
   have hy:b[p.length]?=some y:=by rw[hb,hp];simp
   have ln:=ra.rd.len
   obtain⟨ad,a1,a2⟩:=ra.at_
   obtain⟨bd,b1,b2⟩:=rb.at_
   obtain⟨a3,a4,a5⟩:=a1 p.length ⟨by omega,by omega⟩
   obtain⟨b3,b4,b5⟩:=b1 p.length ⟨by omega,by omega⟩
   obtain⟨a6,a7⟩:=a2 p.length x hx
   obtain⟨b6,b7⟩:=b2 p.length y hy
   obtain⟨vx,lx⟩:=ra.vec x (by rw[ha];simp)
   obtain⟨vy,ly⟩:=rb.vec y (by rw[hb];simp)
   have k1:=CD h x.2 y.2 x.1.2 y.1.2 vx vy lx
   have en:br .neq (.str x.1.1) (.str y.1.1)=some (.bool (!(x.1.1.data.toList==y.1.1.data.toList))):=BA _ _
   have ih:=H0 hab hl h ra rb q r (p++[x]) (p'++[y]) (by rw[ha];simp) (by rw[hb];simp) (by simp [hp])
   have w1:((p++[x]).length:Int)=(p.length:Int)+1:=by simp
   rw[w1]at ih
   obtain⟨B1,hB1⟩:∃B,B=(x.1.1.data.toList==y.1.1.data.toList):=⟨_,rfl⟩
   rw[←hB1]at en
   have key:x.1=y.1↔B1=true∧x.1.2=y.1.2:=by
    constructor
    · intro e;rw[hB1,e];simp
    · rintro ⟨e1,e2⟩
      have e3:x.1.1=y.1.1:=by
       rw[hB1,beq_iff_eq]at e1
       have e4:x.1.1.data=y.1.1.data:=Array.ext' e1
       cases h1:x.1.1;cases h2:y.1.1;rw[h1,h2]at e4;simp_all
      exact Prod.ext e3 e2
   by_cases hk:x.1=y.1
   · obtain⟨k2,k3⟩:=key.1 hk
     rw[k2]at en
     rw[dt k3]at k1
     have step:aM (aS AP.A) bB AP.f182L0 (ax [(0,v),(1,w),(5,.int .i64 p.length)] [0,1,5]) h=some (.normal,[(0,v),(1,w),(5,.int .i64 ((p.length:Int)+1))],h):=by
      clear ih ra rb a1 a2 b1 b2 vx vy ha hb key
      simp (disch:=omega)only[go_sem,vN,AP.f182L0,ln,a3,a4,a5,a6,a7,b3,b4,b5,b6,b7,en,k1]
     rw[Xk,Xk]
     rcases ih with ⟨e',r1,r2⟩|⟨e',r1,r2,r3⟩
     · exact .inl ⟨e',tG step r1,by rw[hk,r2]⟩
     · exact .inr ⟨e',tG step r1,r2,fun q=>r3 (XM q).2⟩
   · refine .inr ⟨[(4,.bool false)],uc ?_,rfl,fun q=>hk (XM q).1⟩
     cases B1 with
     | false =>
       clear ih ra rb a1 a2 b1 b2 vx vy ha hb key
       simp (disch:=omega)only[go_sem,vN,AP.f182L0,ln,a3,a4,a5,a6,a7,b3,b4,b5,b6,b7,en,k1]
     | true =>
       rw[df (fun q=>hk (key.2 ⟨rfl,q⟩))]at k1
       clear ih ra rb a1 a2 b1 b2 vx vy ha hb key
       simp (disch:=omega)only[go_sem,vN,AP.f182L0,ln,a3,a4,a5,a6,a7,b3,b4,b5,b6,b7,en,k1]
theorem LZ (h:H) (v w:AV) (a b:List xx) (ra:ED h v a) (rb:ED h w b) (hl:a.length<1125899906842624):aS AP.A 182 [v,w] h=some (.bool (decide (a.map (·.1)=b.map (·.1))),h):=by
 have xf:Ext h h.dY:=fun i c q=>q
 have l1:=(ra.mono xf).rd.len
 have l2:=(rb.mono xf).rd.len
 by_cases c:a.length=b.length
 · have c':(a.length:Int)=b.length:=by omega
   rcases H0 c hl h.dY (ra.mono xf) (rb.mono xf) a b [] [] rfl rfl rfl with ⟨e',r1,r2⟩|⟨e',r1,r2,r3⟩
   · have r1':Lp AP.A [0,1,5] AP.f182L0 [(0,v),(1,w),(5,.int .i64 0)] h.dY=some (.exit 0,e',h.dY):=r1
     rw[dt r2]
     refine uo (fn:=AP.f182) (h2:=h.dY) (e:=[(4,.bool true)]) rfl rfl rfl ?_ rfl rfl
     clear ra rb r1 r2
     simp (disch:=omega)only[go_sem,vN,AP.f182,l1,l2,sF,r1']
   · have r1':Lp AP.A [0,1,5] AP.f182L0 [(0,v),(1,w),(5,.int .i64 0)] h.dY=some (.ret,e',h.dY):=r1
     rw[df r3]
     refine uo (fn:=AP.f182) (h2:=h.dY) (e:=e') (vs:=[.bool false]) rfl rfl rfl ?_ (by simp only[AP.f182,cM,nk,r2];rfl) rfl
     clear ra rb r1 r3
     simp (disch:=omega)only[go_sem,vN,AP.f182,l1,l2,sF,r1']
 · have c':¬(a.length:Int)=b.length:=by omega
   have e:a.map (·.1)≠b.map (·.1):=fun q=>c (by have:=Xy List.length q;simpa using this)
   rw[df e]
   refine uo (fn:=AP.f182) (h2:=h.dY) (e:=[(4,.bool false)]) rfl rfl rfl ?_ rfl rfl
   clear ra rb
   simp (disch:=omega)only[go_sem,vN,AP.f182,l1,l2]
theorem R7 {g:H} {n:Nat} {E:List AV} (hg:g.get n=some E) (hE:E.length=9):xo 9 g (.aD n 0 1 9) 1 E:=by
 refine⟨?_,by omega,fun _=>by simp⟩
 simp only[aT,if_true,hg,uZ,vk,Nat.one_mul]
 rw[if_pos (by omega),Xf,vA (by omega)]
theorem A3 : ∀ (a b : List UInt8), Op.bytesLess b a = !(Op.bytesLess a b || a == b)
 |[],[]=>rfl
 |[],_::_=>rfl
 |_::_,[]=>rfl
 | x :: a, y :: b => by
   have ih:=A3 a b
   simp only[Op.bytesLess]
   rw[ih]
   by_cases h1:x<y
   · have h2:¬y<x:=fun q=>absurd (UInt8.lt_trans h1 q) (UInt8.lt_irrefl _)
     have h3:¬y=x:=fun q=>by subst q;exact absurd h1 (UInt8.lt_irrefl _)
     simp [h1,h2,h3]
   · by_cases h2:y<x
     · have h3:¬x=y:=fun q=>by subst q;exact absurd h2 (UInt8.lt_irrefl _)
       simp [h1,h2,h3]
     · have h3:x=y:=UInt8.le_antisymm (UInt8.not_lt.1 h2) (UInt8.not_lt.1 h1)
       subst h3
       simp [h1]
def Dp (p:Option wR) (e:wR):Bool:=match p with|none=>true|some q=>Op.bytesLess q.name.toList e.name.toList
theorem JJ (p:Option wR) (e:wR):yF p e=(xO [e]&&Dp p e):=by
 rw[J3]
 unfold yF Dp
 cases wY e.name<;>cases xj e<;>cases xM e<;>cases p<;>simp
theorem Iq {v : AV} {l : List wc} (hl : l.length ≤ 6) (h : H) (b : Nat) (hb : h.get b = some [v]) (rd : xo 9 h v l.length (vW l)) (hv : ∀ x ∈ l, xw h x ∧ x.2.sc = true) : ∀ (q p : List wc), l = p ++ q →
 (∃e',Lp AP.A [1,3] AP.f212L0 [(1,.aC b 0),(3,.int .i64 p.length)] h=some (.exit 0,e',h)∧yT (p.getLast?.map (·.1)) (q.map (·.1))=true)∨
 (∃e',Lp AP.A [1,3] AP.f212L0 [(1,.aC b 0),(3,.int .i64 p.length)] h=some (.ret,e',h)∧look e' 2=.bool false∧yT (p.getLast?.map (·.1)) (q.map (·.1))=false)
 | [], p, hp => by
   rw[Xe]at hp;subst hp
   have ln:=rd.len
   refine .inl ⟨[(1,.aC b 0),(3,.int .i64 l.length),(12,.bool false)],tF ?_,rfl⟩
   simp (disch:=omega)only[go_sem,vN,AP.f212L0,hb,ln]
 | x :: q, p, hp => by
   have hlen:l.length=p.length+(q.length+1):=by rw[hp];simp
   have hx:l[p.length]?=some x:=by rw[hp];simp
   have ln:=rd.len
   obtain⟨ad,a1,a2⟩:=rd.DY
   have b1:=a1 p.length ⟨by omega,by omega⟩
   obtain⟨pe,b2⟩:=a2 h (Ext.refl h) p.length x hx
   obtain⟨qq,f1,f2⟩:=pe.tL
   have l0:=f2 h (Ext.refl h) 0 _ rfl
   obtain⟨ok,sc⟩:=hv x (by rw[hp];simp)
   have k1:=JX h x.1 x.2 sc ok
   have ih:=Iq hl h b hb rd hv q (p++[x]) (by rw[hp];simp)
   have w1:((p++[x]).length:Int)=(p.length:Int)+1:=by simp
   rw[w1,XJ]at ih
   have step:aM (aS AP.A) bB AP.f212L0 (ax [(1,.aC b 0),(3,.int .i64 p.length)] [1,3]) h=if yF (p.getLast?.map (·.1)) x.1 then some (.normal,[(1,.aC b 0),(3,.int .i64 ((p.length:Int)+1))],h)else some (.ret,[(2,.bool false)],h):=by
    rw[JJ]
    generalize xO [x.1]=B at *
    cases hq:p.getLast? with
    | none =>
      have hp0:p=[]:=Xz.1 hq
      have hp1:p.length=0:=by rw[hp0];rfl
      clear ih rd a1 a2 hp w1 pe f2 hv ok
      rw[Xp,show Dp none x.1=true from rfl,XL]
      generalize vT x.1 x.2=E at *
      cases B with
      | false =>
        rw[if_neg (by decide)]
        simp (disch:=omega)only[go_sem,vN,AP.f212L0,hb,ln,b1,b2,f1,l0,k1]
      | true =>
        rw[if_pos rfl]
        simp (disch:=omega)only[go_sem,vN,AP.f212L0,hb,ln,b1,b2,f1,l0,k1]
    | some y =>
      obtain⟨p',rfl⟩:∃p',p=p'++[y]:=XA.1 hq
      have hpl:(p'++[y]).length=p'.length+1:=by simp
      have hy:l[p'.length]?=some y:=by rw[hp];simp
      have bj:=a1 p'.length ⟨by omega,by omega⟩
      obtain⟨pj,_⟩:=a2 h (Ext.refl h) p'.length y hy
      obtain⟨qj,fj1,fj2⟩:=pj.tL
      have lj:=fj2 h (Ext.refl h) 0 _ rfl
      have n2:(((p'++[y]).length:Nat):Int)-1=(p'.length:Int):=by rw[hpl];omega
      have n3:0<(((p'++[y]).length:Nat):Int):=by rw[hpl];omega
      have cmp:br .leq (.str x.1.name) (.str y.1.name)=some (.bool (!(Dp (some y.1) x.1))):=by
       show _=some (AV.bool (!(Op.bytesLess y.1.name.toList x.1.name.toList)))
       rw[A3 x.1.name.toList y.1.name.toList,Bool.not_not];rfl
      clear ih rd a1 a2 hp w1 hx hy hq pe f2 pj fj2 hv ok
      rw[Xc]
      generalize vT x.1 x.2=E at *
      generalize Dp (some y.1) x.1=B2 at *
      generalize (p'++[y]).length=pl at *
      cases B with
      | false =>
        rw[Xg,if_neg (by decide)]
        simp (disch:=omega)only[go_sem,vN,AP.f212L0,hb,ln,b1,b2,f1,l0,k1]
      | true =>
        cases B2 with
        | false =>
          rw[Xi,if_neg (by decide)]
          simp (disch:=omega)only[go_sem,vN,AP.f212L0,hb,ln,b1,b2,f1,l0,k1,bj,fj1,lj,n2,cmp]
        | true =>
          rw[Xr,if_pos rfl]
          simp (disch:=omega)only[go_sem,vN,AP.f212L0,hb,ln,b1,b2,f1,l0,k1,bj,fj1,lj,n2,cmp]
   have hmay:yT (p.getLast?.map (·.1)) ((x::q).map (·.1))=(yF (p.getLast?.map (·.1)) x.1&&yT (some x.1) (q.map (·.1))):=rfl
   rw[hmay]
   by_cases hok:yF (p.getLast?.map (·.1)) x.1=true
   · rw[if_pos hok]at step
     rw[hok,Xj]
     rcases ih with ⟨e',r1,r2⟩|⟨e',r1,r2,r3⟩
     · exact .inl ⟨e',tG step r1,r2⟩
     · exact .inr ⟨e',tG step r1,r2,r3⟩
   · have hok':yF (p.getLast?.map (·.1)) x.1=false:=by simpa using hok
     rw[if_neg hok]at step
     rw[hok',Xg]
     exact .inr ⟨_,uc step,rfl,rfl⟩
theorem KY (h:H) (v:AV) (l:List wc) (hvs:v.sc=true) (hn:l.length<1125899906842624) (rd:xo 9 h v l.length (vW l)) (hv:∀x∈l,xw h x∧x.2.sc=true):aS AP.A 212 [.agg [v]] h=some (.bool (xO (l.map (·.1))),h):=by
 obtain⟨h1,eh1⟩:∃g,g=h.dY.alloc [v]:=⟨_,rfl⟩
 have hx0:Ext h h1:=by rw[eh1];exact fun i c q=>((Ext.refl h.dY).alloc _) i c q
 have hn0:h.dY.next=h.next:=rfl
 have g1:h1.get h.next=some [v]:=by rw[eh1];exact vO rfl
 have rd1:=rd.mono fun i c q=>hx0 i c q
 have ln:=rd1.len
 unfold xO
 rw[Xd]
 by_cases c:l.length≤6
 · have c':¬(6:Int)<l.length:=by omega
   rw[dt c,XL]
   rcases Iq c h1 h.next g1 rd1 (fun x hx=>⟨(hv x hx).1.mono hx0,(hv x hx).2⟩) l [] rfl with ⟨e',r1,r2⟩|⟨e',r1,r2,r3⟩
   · have r1':Lp AP.A [1,3] AP.f212L0 [(1,.aC h.next 0),(3,.int .i64 0)] h1=some (.exit 0,e',h1):=r1
     have r2':yT none (l.map (·.1))=true:=r2
     rw[r2']
     refine uo (fn:=AP.f212) (h2:=h1) (e:=[(2,.bool true)]) rfl rfl rfl ?_ rfl rfl
     clear rd rd1 hv hx0 r1 r2 r2'
     simp (disch:=omega)only[go_sem,vN,AP.f212,hvs,hn0,←eh1,g1,ln,sF,r1']
   · have r1':Lp AP.A [1,3] AP.f212L0 [(1,.aC h.next 0),(3,.int .i64 0)] h1=some (.ret,e',h1):=r1
     have r3':yT none (l.map (·.1))=false:=r3
     rw[r3']
     refine uo (fn:=AP.f212) (h2:=h1) (e:=e') (vs:=[.bool false]) rfl rfl rfl ?_ (by simp only[AP.f212,cM,nk,r2];rfl) rfl
     clear rd rd1 hv hx0 r1 r3 r3'
     simp (disch:=omega)only[go_sem,vN,AP.f212,hvs,hn0,←eh1,g1,ln,sF,r1']
 · have c':(6:Int)<l.length:=by omega
   rw[df c,Xi]
   refine uo (fn:=AP.f212) (h2:=h1) (e:=[(2,.bool false)]) rfl rfl rfl ?_ rfl rfl
   clear rd rd1 hv hx0
   simp (disch:=omega)only[go_sem,vN,AP.f212,hvs,hn0,←eh1,g1,ln]
theorem HD {v:AV} {l:List wc} (h:H) (b:Nat) (hb:h.get b=some [v]) (rd:xo 9 h v l.length (vW l)) (hm:xO (l.map (·.1))=true):∀(q p:List wc),l=p++q→
 ∃e',Lp AP.A [1,3,4] AP.f213L0 [(1,.aC b 0),(3,.int .i64 (22+BB (p.map (·.1)):Nat)),(4,.int .i64 p.length)] h=some (.exit 0,e',h)∧look e' 3=.int .i64 (yl (l.map (·.1)):Nat)
 | [], p, hp => by
   rw[Xe]at hp;subst hp
   have ln:=rd.len
   refine⟨[(1,.aC b 0),(3,.int .i64 (22+BB (l.map (·.1)):Nat)),(4,.int .i64 l.length),(12,.bool false)],tF ?_,rfl⟩
   simp (disch:=omega)only[go_sem,vN,AP.f213L0,hb,ln]
 | x :: q, p, hp => by
   obtain⟨m1,m2,m3⟩:=wF hm
   have hx:l[p.length]?=some x:=by rw[hp];simp
   have hlen:l.length=p.length+(q.length+1):=by rw[hp];simp
   rw[Xd]at m1
   obtain⟨_,_,c3⟩:=m2 x.1 (by rw[hp];simp)
   have c1:=xP (m2 x.1 (by rw[hp];simp)).1
   have c2:=zX c3
   have ln:=rd.len
   obtain⟨ad,a1,a2⟩:=rd.DY
   have b1:=a1 p.length ⟨by omega,by omega⟩
   obtain⟨pe,_⟩:=a2 h (Ext.refl h) p.length x hx
   obtain⟨qq,f1,f2⟩:=pe.tL
   have l0:=f2 h (Ext.refl h) 0 _ rfl
   have l6:=f2 h (Ext.refl h) 6 _ rfl
   obtain⟨e',r1,r2⟩:=HD h b hb rd hm q (p++[x]) (by rw[hp];simp)
   have sz:yl (l.map (·.1))=22+(BB (p.map (·.1))+(K4 x.1+BB (q.map (·.1)))):=by unfold yl;rw[hp,Xo,CI,Xk,BB]
   have e1:22+BB ((p++[x]).map (·.1))=22+BB (p.map (·.1))+K4 x.1:=by rw[Xo,CI];simp [BB];omega
   have n1:((p++[x]).length:Int)=(p.length:Int)+1:=by simp
   rw[e1,n1]at r1
   have se:K4 x.1=128+2* x.1.name.size+x.1.packed.size:=rfl
   obtain⟨N,hN⟩:∃N,N=22+BB (p.map (·.1)):=⟨_,rfl⟩
   rw[←hN]at r1 ⊢
   have hN2:N≤4096:=by omega
   have w:(N:Int)+76+2* (x.1.name.size:Int)+52+(x.1.packed.size:Int)=((N+K4 x.1:Nat):Int):=by omega
   refine⟨e',tG ?_ r1,r2⟩
   clear r1 r2 e1 sz hN rd a1 a2 f2 pe m2 m3 hm hp n1
   simp (disch:=omega)only[go_sem,vN,AP.f213L0,hb,ln,b1,f1,l0,l6,w]
theorem Lj (h:H) (v:AV) (l:List wc) (hvs:v.sc=true) (hn:l.length<1125899906842624) (rd:xo 9 h v l.length (vW l)) (hv:∀x∈l,xw h x∧x.2.sc=true) (hm:xO (l.map (·.1))=true):aS AP.A 213 [.agg [v]] h=some (.int .i64 (yl (l.map (·.1)):Nat),h):=by
 obtain⟨h1,eh1⟩:∃g,g=h.dY.alloc [v]:=⟨_,rfl⟩
 have hx0:Ext h h1:=by rw[eh1];exact fun i c q=>((Ext.refl h.dY).alloc _) i c q
 have hn0:h.dY.next=h.next:=rfl
 have g1:h1.get h.next=some [v]:=by rw[eh1];exact vO rfl
 have rd1:=rd.mono fun i c q=>hx0 i c q
 have k1:=KY h1 v l hvs hn rd1 (fun x hx=>⟨(hv x hx).1.mono hx0,(hv x hx).2⟩)
 rw[hm]at k1
 obtain⟨e',r1,r2⟩:=HD h1 h.next g1 rd1 hm l [] rfl
 have r1':Lp AP.A [1,3,4] AP.f213L0 [(1,.aC h.next 0),(3,.int .i64 22),(4,.int .i64 0)] h1=some (.exit 0,e',h1):=r1
 clear r1 hm
 generalize yl (l.map (·.1))=N at *
 refine uo (fn:=AP.f213) (h2:=h1) (e:=[(2,.int .i64 N)]) (vs:=[.int .i64 N]) rfl rfl rfl ?_ rfl rfl
 clear rd rd1 hv hx0
 simp (disch:=omega)only[go_sem,vN,AP.f213,hvs,hn0,←eh1,g1,wZ,k1,sF,r1',r2]
theorem HI {v : AV} {l : List wc} (hl : l.length ≤ 6) (h : H) (b : Nat) (hb : h.get b = some [v]) (rd : xo 9 h v l.length (vW l)) (hv : ∀ x ∈ l, xw h x ∧ x.2.sc = true) : ∀ (q p : List wc), l = p ++ q →
 (∃e',Lp AP.A [1,3] AP.f205L0 [(1,.aC b 0),(3,.int .i64 p.length)] h=some (.exit 0,e',h)∧(q.map (·.1)).all xy=true)∨
 (∃e',Lp AP.A [1,3] AP.f205L0 [(1,.aC b 0),(3,.int .i64 p.length)] h=some (.ret,e',h)∧look e' 2=.bool false∧(q.map (·.1)).all xy=false)
 | [], p, hp => by
   rw[Xe]at hp;subst hp
   have ln:=rd.len
   refine .inl ⟨[(1,.aC b 0),(3,.int .i64 l.length),(16,.bool false)],tF ?_,rfl⟩
   simp (disch:=omega)only[go_sem,vN,AP.f205L0,hb,ln]
 | x :: q, p, hp => by
   have hlen:l.length=p.length+(q.length+1):=by rw[hp];simp
   have hx:l[p.length]?=some x:=by rw[hp];simp
   have ln:=rd.len
   obtain⟨ad,a1,a2⟩:=rd.DY
   have b1:=a1 p.length ⟨by omega,by omega⟩
   obtain⟨_,b2⟩:=a2 h (Ext.refl h) p.length x hx
   obtain⟨ok,sc⟩:=hv x (by rw[hp];simp)
   have k1:=HE h x.1 x.2 sc ok
   have ih:=HI hl h b hb rd hv q (p++[x]) (by rw[hp];simp)
   have w1:((p++[x]).length:Int)=(p.length:Int)+1:=by simp
   rw[w1]at ih
   rw[Xk,XG]
   cases hm:xy x.1 with
   | false =>
     rw[hm]at k1
     refine .inr ⟨[(2,.bool false)],uc ?_,rfl,rfl⟩
     clear ih rd a1 a2 hv hp ok
     generalize vT x.1 x.2=E at *
     simp (disch:=omega)only[go_sem,vN,AP.f205L0,hb,ln,b1,b2,k1]
   | true =>
     rw[hm]at k1
     rw[Xj]
     have step:aM (aS AP.A) bB AP.f205L0 (ax [(1,.aC b 0),(3,.int .i64 p.length)] [1,3]) h=some (.normal,[(1,.aC b 0),(3,.int .i64 ((p.length:Int)+1))],h):=by
      clear ih rd a1 a2 hv hp ok
      generalize vT x.1 x.2=E at *
      simp (disch:=omega)only[go_sem,vN,AP.f205L0,hb,ln,b1,b2,k1]
     rcases ih with ⟨e',r1,r2⟩|⟨e',r1,r2,r3⟩
     · exact .inl ⟨e',tG step r1,r2⟩
     · exact .inr ⟨e',tG step r1,r2,r3⟩
theorem Bq (h:H) (v:AV) (l:List wc) (hvs:v.sc=true) (hn:l.length<1125899906842624) (rd:xo 9 h v l.length (vW l)) (hv:∀x∈l,xw h x∧x.2.sc=true):aS AP.A 205 [.agg [v]] h=some (.bool (xa (l.map (·.1))),h):=by
 obtain⟨h1,eh1⟩:∃g,g=h.dY.alloc [v]:=⟨_,rfl⟩
 have hx0:Ext h h1:=by rw[eh1];exact fun i c q=>((Ext.refl h.dY).alloc _) i c q
 have hn0:h.dY.next=h.next:=rfl
 have g1:h1.get h.next=some [v]:=by rw[eh1];exact vO rfl
 have rd1:=rd.mono fun i c q=>hx0 i c q
 have hv1:∀x∈l,xw h1 x∧x.2.sc=true:=fun x hx=>⟨(hv x hx).1.mono hx0,(hv x hx).2⟩
 have k1:=KY h1 v l hvs hn rd1 hv1
 unfold xa
 cases hm:xO (l.map (·.1))with
 | false =>
   rw[hm]at k1
   rw[Xg]
   refine uo (fn:=AP.f205) (h2:=h1) (e:=[(2,.bool false)]) rfl rfl rfl ?_ rfl rfl
   clear rd rd1 hv hv1 hx0
   simp (disch:=omega)only[go_sem,vN,AP.f205,hvs,hn0,←eh1,g1,wZ,k1]
 | true =>
   rw[hm]at k1
   rw[Xj]
   have k2:=Lj h1 v l hvs hn rd1 hv1 hm
   obtain⟨m1,_,m3⟩:=wF hm
   rw[Xd]at m1
   generalize yl (l.map (·.1))=N at *
   rcases HI m1 h1 h.next g1 rd1 hv1 l [] rfl with ⟨e',r1,r2⟩|⟨e',r1,r2,r3⟩
   · have r1':Lp AP.A [1,3] AP.f205L0 [(1,.aC h.next 0),(3,.int .i64 0)] h1=some (.exit 0,e',h1):=r1
     rw[r2]
     refine uo (fn:=AP.f205) (h2:=h1) (e:=[(2,.bool true)]) rfl rfl rfl ?_ rfl rfl
     clear rd rd1 hv hv1 hx0 r1 r2
     simp (disch:=omega)only[go_sem,vN,AP.f205,hvs,hn0,←eh1,g1,wZ,k1,k2,sF,r1']
   · have r1':Lp AP.A [1,3] AP.f205L0 [(1,.aC h.next 0),(3,.int .i64 0)] h1=some (.ret,e',h1):=r1
     rw[r3]
     refine uo (fn:=AP.f205) (h2:=h1) (e:=e') (vs:=[.bool false]) rfl rfl rfl ?_ (by simp only[AP.f205,cM,nk,r2];rfl) rfl
     clear rd rd1 hv hv1 hx0 r1 r3
     simp (disch:=omega)only[go_sem,vN,AP.f205,hvs,hn0,←eh1,g1,wZ,k1,k2,sF,r1']
theorem DT (h:H) (s:ByteArray) (hs:s.size<1125899906842624):aS AP.A 200 [.str s] h=some (.int .i64 ((yo s%8:Nat):Int),h):=by
 have k1:=CV h.dY s hs
 have rm:br .rem (.int .i64 (yo s:Int)) (.int .i64 8)=some (.int .i64 ((yo s%8:Nat):Int)):=by
  show(if(8:Int)=0 then none else some (AV.int .i64 ((yo s:Int).tmod 8)))=_
  rw[if_neg (by decide),Int.tmod_eq_emod_of_nonneg (by omega)];rfl
 generalize ((yo s%8:Nat):Int)=M at *
 refine uo (fn:=AP.f200) (h2:=h.dY) (e:=[(2,.int .i64 M)]) rfl rfl rfl ?_ rfl rfl
 simp (disch:=omega)only[go_sem,vN,AP.f200,k1,rm]
theorem CY {v : AV} {l : List wc} (m : Nat) (hm : xa (l.map (·.1)) = true) (h0 : H) (b : Nat) (hb : h0.get b = some [v]) (rd : xo 9 h0 v l.length (vW l)) (hv : ∀ x ∈ l, xw h0 x ∧ x.2.sc = true) (outv : AV) : ∀ (q p : List wc), l = p ++ q → ∀ (h : H) (ov : AV), Ext h0 h → h.floor ≤ h.next → h0.next ≤ h.next →
 wo 1 h ov (xZ (p.map (·.1)) m).length (ints (xZ (p.map (·.1)) m))→(∀j,ov.id?=some j→h0.next≤j)→
 ∃ e' h' ov', Lp AP.A [1, 4, 5, 6, 7] AP.f197L0 [(1, .aC b 0), (4, outv), (5, .int .i64 m), (6, ov), (7, .int .i64 p.length)] h = some (.exit 2, e', h') ∧ look e' 1 = .aC b 0 ∧ look e' 4 = outv ∧ look e' 5 = .int .i64 m ∧ look e' 6 = ov' ∧
   wo 1 h' ov' (xZ (l.map (·.1)) m).length (ints (xZ (l.map (·.1)) m))∧Ext h0 h'∧h'.floor=h.floor∧h.next≤h'.next∧∀j,ov'.id?=some j→h0.next≤j
 | [], p, hp, h, ov, hx, hf, hn, o, hge => by
   rw[Xe]at hp;subst hp
   have gb:=hx _ _ hb
   have ln:=(rd.mono fun i c q=>hx i c q).len
   refine⟨[(1,.aC b 0),(4,outv),(5,.int .i64 m),(6,ov),(7,.int .i64 l.length),(23,.bool false)],h,ov,tF ?_,rfl,rfl,rfl,rfl,o,hx,rfl,u6 _,hge⟩
   simp (disch:=omega)only[go_sem,vN,AP.f197L0,gb,ln]
 | x :: q, p, hp, h, ov, hx, hf, hn, o, hge => by
   have hm':=hm
   unfold xa at hm'
   rw[u9]at hm'
   obtain⟨m1,m2,m3⟩:=wF hm'.1
   rw[Xd]at m1
   have gb:=hx _ _ hb
   have hlx:l[p.length]?=some x:=by rw[hp];simp
   have hlen:l.length=p.length+(q.length+1):=by rw[hp];simp
   have may:xy x.1=true:=Xv.1 hm'.2 x.1 (by rw[hp];simp)
   have ln:=(rd.mono fun i c q=>hx i c q).len
   obtain⟨ad,a1,a2⟩:=rd.DY
   have b1:=a1 p.length ⟨by omega,by omega⟩
   obtain⟨pe,b2⟩:=a2 h hx p.length x hlx
   obtain⟨qq,f1,f2⟩:=pe.tL
   have l0:=f2 h (Ext.refl h) 0 _ rfl
   obtain⟨ok,sc⟩:=hv x (by rw[hp];simp)
   have k1:=DT h x.1.name ok.nl
   have k1':aS AP.A 200 [.str x.1.name] h=some (.int .i64 ((Cq x.1:Nat):Int),h):=k1
   have k2:=II h x.1 x.2 sc (ok.mono hx)
   unfold IH at k2
   rw[if_pos may]at k2
   have k2':aS AP.A 151 [.agg (vT x.1 x.2)] h=some (.bP [.int .i64 (JD x.1),.int .i64 0],h):=k2
   have w1:((p++[x]).length:Int)=(p.length:Int)+1:=by simp
   have bs:=DS (p.map (·.1)) x.1 m
   have bl:=Bg (p.map (·.1)) m
   rw[Xd]at bl
   by_cases c:Cq x.1=m
   · rw[if_pos c]at bs
     rw[c]at k1'
     obtain⟨v',h',p1,p2,p3,p4,p5,p6⟩:=o.push hf (z:=8) (m:=1) (by omega) (by omega) [.int .i64 (JD x.1)] rfl rfl (by simp [roomy];omega)
     have ea:ints (xZ (p.map (·.1)) m)++[.int .i64 (JD x.1)]=ints (xZ ((p++[x]).map (·.1)) m):=by rw[Xo,XB,bs];simp [ints,I]
     have el:(xZ (p.map (·.1)) m).length+1=(xZ ((p++[x]).map (·.1)) m).length:=by rw[Xo,XB,bs];simp
     rw[ea,el]at p2
     obtain⟨e',h2,ov',r1,r2⟩:=CY m hm h0 b hb rd hv outv q (p++[x]) (by rw[hp];simp) h' v' (fun i c q=>by
      have:=h0.lt _ _ q
      rw[p5 i (fun q2=>by have:=hge i q2;omega) (by omega)];exact hx i c q) (by omega) (by omega) p2 (fun j q=>by rw[p6]at q;have:=uS q;omega)
     rw[w1]at r1
     refine⟨e',h2,ov',tG ?_ r1,r2.1,r2.2.1,r2.2.2.1,r2.2.2.2.1,r2.2.2.2.2.1,r2.2.2.2.2.2.1,by rw[r2.2.2.2.2.2.2.1,p3],by have:=r2.2.2.2.2.2.2.2.1;omega,r2.2.2.2.2.2.2.2.2⟩
     clear r1 r2 rd hv a1 a2 o bs ea el p2 pe f2 hm hm' m2 k2
     generalize vT x.1 x.2=F at *
     generalize JD x.1=D at *
     simp (disch:=omega)only[go_sem,vN,AP.f197L0,gb,ln,b1,b2,f1,l0,k1',k2',p1]
   · rw[if_neg c]at bs
     have c':¬((Cq x.1:Nat):Int)=(m:Int):=by omega
     obtain⟨e',h2,ov',r1,r2⟩:=CY m hm h0 b hb rd hv outv q (p++[x]) (by rw[hp];simp) h ov hx hf hn (by rw[Xo,XB,bs];exact o) hge
     rw[w1]at r1
     refine⟨e',h2,ov',tG ?_ r1,r2⟩
     clear r1 r2 rd hv a1 a2 o bs pe f2 hm hm' m2 k2 k1
     generalize vT x.1 x.2=F at *
     generalize ((Cq x.1:Nat):Int)=B at *
     simp (disch:=omega)only[go_sem,vN,AP.f197L0,gb,ln,b1,b2,f1,l0,k1']
theorem FJ {v:AV} {l:List wc} (hm:xa (l.map (·.1))=true) (h0:H) (b:Nat) (hb:h0.get b=some [v]) (rd:xo 9 h0 v l.length (vW l)) (hv:∀x∈l,xw h0 x∧x.2.sc=true):∀(n i:Nat),i+n=8→∀(h:H) (ov:AV),Ext h0 h→h.floor≤h.next→h0.next≤h.next→
 wo 1 h ov i (ints ((List.range i).map fun b=>wG (xZ (l.map (·.1)) b)))→(∀j,ov.id?=some j→h0.next≤j)→
 ∃e' h' ov',Lp AP.A [1,4,5] AP.f197L1 [(1,.aC b 0),(4,ov),(5,.int .i64 i)] h=some (.exit 0,e',h')∧look e' 4=ov'∧wo 1 h' ov' 8 (ints (vY (l.map (·.1))))∧h'.floor=h.floor
 | 0, i, hi, h, ov, hx, hf, hn, o, hge => by
   obtain rfl:i=8:=by omega
   refine⟨[(1,.aC b 0),(4,ov),(5,.int .i64 8),(16,.bool false)],h,ov,tF ?_,rfl,o,rfl⟩
   simp (disch:=omega)only[go_sem,vN,AP.f197L1]
 | n + 1, i, hi, h, ov, hx, hf, hn, o, hge => by
   obtain⟨e1,h1,dv,r1,r2,r3,r4,r5,r6,r7,r8,r9,r10⟩:=CY i hm h b (hx _ _ hb) (rd.mono fun i c q=>hx i c q) (fun x hx'=>⟨(hv x hx').1.mono hx,(hv x hx').2⟩) ov l [] rfl h .aQ (Ext.refl h) hf (u6 _) wo.nil (fun j q=>by cases q)
   have r1':Lp AP.A [1,4,5,6,7] AP.f197L0 [(1,.aC b 0),(4,ov),(5,.int .i64 i),(6,.aQ),(7,.int .i64 0)] h=some (.exit 2,e1,h1):=r1
   have bl:=Bg (l.map (·.1)) i
   have hm':=hm
   unfold xa at hm'
   rw[u9]at hm'
   have m1:=(wF hm'.1).1
   have k1:=HQ h1 dv (xZ (l.map (·.1)) i) (by have:=r6.rd;exact⟨by rw[pP];exact this.1,this.2.2⟩) (by omega)
   rw[F2 (Ho _ _)]at k1
   have k1':aS AP.A 152 [dv] h1=some (.bP [.int .i64 (wG (xZ (l.map (·.1)) i)),.int .i64 0],h1):=k1
   have o1:wo 1 h1 ov i (ints ((List.range i).map fun b=>wG (xZ (l.map (·.1)) b))):=o.mono r8 fun j q=>by
    obtain⟨_,⟨q1,_⟩|⟨j',q1,q2,_⟩⟩:=o
    · rw[q1]at q;cases q
    · rw[q1]at q;obtain rfl:=uS q;rw[q2];exact r7 _ _ q2
   obtain⟨v',h',p1,p2,p3,p4,p5,p6⟩:=o1.push (by omega) (z:=8) (m:=1) (by omega) (by omega) [.int .i64 (wG (xZ (l.map (·.1)) i))] rfl rfl (by simp [roomy];omega)
   have e:ints ((List.range i).map fun b=>wG (xZ (l.map (·.1)) b))++[.int .i64 (wG (xZ (l.map (·.1)) i))]=ints ((List.range (i+1)).map fun b=>wG (xZ (l.map (·.1)) b)):=by rw[Dr];simp [ints,I]
   rw[e]at p2
   obtain⟨e',h2,ov',s1,s2,s3,s4⟩:=FJ hm h0 b hb rd hv n (i+1) (by omega) h' v' (fun j c q=>by
    have:=h0.lt _ _ q
    rw[p5 j (fun q2=>by have:=hge j q2;omega) (by omega)];exact r7 _ _ (hx j c q)) (by omega) (by omega) p2 (fun j q=>by rw[p6]at q;have:=uS q;omega)
   have w1:((i+1:Nat):Int)=(i:Int)+1:=by omega
   rw[w1]at s1
   refine⟨e',h2,ov',tG ?_ s1,s2,s3,by rw[s4,p3,r8]⟩
   clear r1 r6 r7 s1 s3 o o1 e p2 rd hv hx hm hm' k1
   generalize wG (xZ (l.map (·.1)) i)=D at *
   simp (disch:=omega)only[go_sem,vN,AP.f197L1,sF,r1',r2,r3,r4,r5,k1',p1]
def HC (l:List wR):AV:=if xa l then .bP [wB (vY l),.int .i64 0]else .bP [.aQ,.int .i64 1600]
theorem HB (h:H) (v:AV) (l:List wc) (hvs:v.sc=true) (hn:l.length<1125899906842624) (rd:xo 9 h v l.length (vW l)) (hv:∀x∈l,xw h x∧x.2.sc=true):aS AP.A 197 [.agg [v]] h=some (HC (l.map (·.1)),h):=by
 obtain⟨h1,eh1⟩:∃g,g=h.dY.alloc [v]:=⟨_,rfl⟩
 have hx0:Ext h h1:=by rw[eh1];exact fun i c q=>((Ext.refl h.dY).alloc _) i c q
 have hn0:h.dY.next=h.next:=rfl
 have f1:h1.floor=h.next:=by rw[eh1];simp
 have n1:h1.next=h.next+1:=by rw[eh1];simp
 have g1:h1.get h.next=some [v]:=by rw[eh1];exact vO rfl
 have rd1:=rd.mono fun i c q=>hx0 i c q
 have hv1:∀x∈l,xw h1 x∧x.2.sc=true:=fun x hx=>⟨(hv x hx).1.mono hx0,(hv x hx).2⟩
 have k1:=Bq h1 v l hvs hn rd1 hv1
 unfold HC
 cases hm:xa (l.map (·.1))with
 | false =>
   rw[hm]at k1
   refine uo (fn:=AP.f197) (h2:=h1) (e:=[(2,.aQ),(3,.int .i64 1600)]) (vs:=[.aQ,.int .i64 1600]) rfl rfl rfl ?_ rfl rfl
   clear rd rd1 hv hv1 hx0
   simp (disch:=omega)only[go_sem,vN,AP.f197,hvs,hn0,←eh1,g1,wZ,k1]
 | true =>
   rw[hm]at k1
   obtain⟨e',h2,ov,r1,r2,r3,r4⟩:=FJ hm h1 h.next g1 rd1 hv1 8 0 rfl h1 .aQ (Ext.refl _) (by omega) (u6 _) wo.nil (fun j q=>by cases q)
   have r1':Lp AP.A [1,4,5] AP.f197L1 [(1,.aC h.next 0),(4,.aQ),(5,.int .i64 0)] h1=some (.exit 0,e',h2):=r1
   refine uo (fn:=AP.f197) (h2:=h2) (e:=[(2,ov),(3,.int .i64 0)]) (vs:=[ov,.int .i64 0]) rfl rfl rfl ?_ rfl ?_
   · clear rd rd1 hv hv1 hx0 r1 r3
     simp (disch:=omega)only[go_sem,vN,AP.f197,hvs,hn0,←eh1,g1,wZ,k1,sF,r1',r2]
   · have s:=r3.xV (fl:=h.next) (m:=13) (t:=true) (by rw[r4,f1];exact u6 _)
     have e:BE 1 8 (ints (vY (l.map (·.1))))=wB (vY (l.map (·.1))):=by unfold BE wB;rw[wh];rfl
     rw[e]at s
     show(fK (snap h2.get h.next 15 true) [ov,.int .i64 0]).bind _=_
     simp only[fK,s,uZ]
     rfl
theorem LY (h:H) (v:AV) (l:List Int) (rd:Rd h v (ints l)) (hl:l.length<140737488355328):aS AP.A 198 [v] h=some (Dw l,h):=by
 have xf:Ext h h.dY:=fun i c q=>q
 have k1:=HQ h.dY v l (rd.mono fun i c q=>xf i c q) hl
 have r2:=(rd.mono fun i c q=>xf i c q:Rd h.dY v (ints l)).Bb
 rw[pP]at r2
 have ln:=r2.len
 unfold Dw
 unfold Ch at k1
 cases ha:l.all zm with
 | false =>
   rw[ha]at k1
   have k1':aS AP.A 152 [v] h.dY=some (.bP [.int .i64 0,.int .i64 1500],h.dY):=k1
   refine uo (fn:=AP.f198) (h2:=h.dY) (e:=[(2,.int .i64 0),(3,.int .i64 1600)]) rfl rfl rfl ?_ rfl rfl
   clear rd r2 k1
   by_cases c:l.length=8
   · have c':(l.length:Int)=8:=by omega
     simp (disch:=omega)only[go_sem,vN,AP.f198,k1',ln]
   · have c':¬(l.length:Int)=8:=by omega
     simp (disch:=omega)only[go_sem,vN,AP.f198,k1',ln]
 | true =>
   rw[ha]at k1
   have k1':aS AP.A 152 [v] h.dY=some (.bP [.int .i64 (wG l),.int .i64 0],h.dY):=k1
   by_cases c:l.length=8
   · have c':(l.length:Int)=8:=by omega
     rw[dt c]
     refine uo (fn:=AP.f198) (h2:=h.dY) (e:=[(2,.int .i64 (wG l)),(3,.int .i64 0)]) rfl rfl rfl ?_ rfl rfl
     clear rd r2 k1
     generalize wG l=M at *
     simp (disch:=omega)only[go_sem,vN,AP.f198,k1',ln]
   · have c':¬(l.length:Int)=8:=by omega
     rw[df c]
     refine uo (fn:=AP.f198) (h2:=h.dY) (e:=[(2,.int .i64 0),(3,.int .i64 1600)]) rfl rfl rfl ?_ rfl rfl
     clear rd r2 k1
     generalize wG l=M at *
     simp (disch:=omega)only[go_sem,vN,AP.f198,k1',ln]
theorem Fw {v : AV} {l : List Int} (hl : l.length < 1125899906842624) (h : H) (rd : Rd h v (ints l)) : ∀ (q p : List Int), l = p ++ q →
 (∃e',Lp AP.A [0,3] AP.f206L0 [(0,v),(3,.int .i64 p.length)] h=some (.exit 0,e',h)∧yq p.getLast? q=true)∨
 (∃e',Lp AP.A [0,3] AP.f206L0 [(0,v),(3,.int .i64 p.length)] h=some (.ret,e',h)∧look e' 2=.bool false∧yq p.getLast? q=false)
 | [], p, hp => by
   rw[Xe]at hp;subst hp
   have r2:=rd.Bb
   rw[pP]at r2
   have ln:=r2.len
   refine .inl ⟨[(0,v),(3,.int .i64 l.length),(7,.bool false)],tF ?_,rfl⟩
   simp (disch:=omega)only[go_sem,vN,AP.f206L0,ln]
 | x :: q, p, hp => by
   have r2:=rd.Bb
   rw[pP]at r2
   have ln:=r2.len
   have hlen:l.length=p.length+(q.length+1):=by rw[hp];simp
   have hx:l[p.length]?=some x:=by rw[hp];simp
   obtain⟨ad,a1,a2⟩:=rd.xg
   have b1:=a1 p.length ⟨by omega,by omega⟩
   have b2:=a2 h (Ext.refl h) p.length x hx
   have ih:=Fw hl h rd q (p++[x]) (by rw[hp];simp)
   have w1:((p++[x]).length:Int)=(p.length:Int)+1:=by simp
   rw[w1,XJ]at ih
   rw[Hm]
   have step : aM (aS AP.A) bB AP.f206L0 (ax [(0, v), (3, .int .i64 p.length)] [0, 3]) h = if Lb p.getLast? x then some (.normal, [(0, v), (3, .int .i64 ((p.length : Int) + 1))], h) else some (.ret, [(2, .bool false)], h) := by
    unfold Lb
    cases hq:p.getLast? with
    | none =>
      have hp0:p=[]:=Xz.1 hq
      have hp1:p.length=0:=by rw[hp0];rfl
      clear ih rd r2 a1 a2 hp w1
      by_cases c1:0≤x
      · by_cases c2:x<8
        · simp only[dt c1,dt c2,Xr,if_true]
          simp (disch:=omega)only[go_sem,vN,AP.f206L0,ln,b1,b2]
        · simp only[dt c1,df c2,Xg,Xi,u0,vG]
          simp (disch:=omega)only[go_sem,vN,AP.f206L0,ln,b1,b2]
      · simp only[df c1,Xg,u0,vG]
        simp (disch:=omega)only[go_sem,vN,AP.f206L0,ln,b1,b2]
    | some y =>
      obtain⟨p',rfl⟩:∃p',p=p'++[y]:=XA.1 hq
      have hpl:(p'++[y]).length=p'.length+1:=by simp
      have hy:l[p'.length]?=some y:=by rw[hp];simp
      have bj:=a1 p'.length ⟨by omega,by omega⟩
      have lj:=a2 h (Ext.refl h) p'.length y hy
      have n2:(((p'++[y]).length:Nat):Int)-1=(p'.length:Int):=by rw[hpl];omega
      have n3:0<(((p'++[y]).length:Nat):Int):=by rw[hpl];omega
      clear ih rd r2 a1 a2 hp w1 hx hy hq
      generalize (p'++[y]).length=pl at *
      by_cases c1:0≤x
      · by_cases c2:x<8
        · by_cases c3:y<x
          · rw[dt c1,dt c2]
            simp only[dt c3,Xr,if_true]
            simp (disch:=omega)only[go_sem,vN,AP.f206L0,ln,b1,b2,bj,lj,n2]
          · rw[dt c1,dt c2]
            simp only[df c3,Xi,u0,vG]
            simp (disch:=omega)only[go_sem,vN,AP.f206L0,ln,b1,b2,bj,lj,n2]
        · simp only[dt c1,df c2,Xg,Xi,u0,vG]
          simp (disch:=omega)only[go_sem,vN,AP.f206L0,ln,b1,b2]
      · simp only[df c1,Xg,u0,vG]
        simp (disch:=omega)only[go_sem,vN,AP.f206L0,ln,b1,b2]
   by_cases hok:Lb p.getLast? x=true
   · rw[if_pos hok]at step
     rw[hok,Xj]
     rcases ih with ⟨e',r1,r2⟩|⟨e',r1,r2,r3⟩
     · exact .inl ⟨e',tG step r1,r2⟩
     · exact .inr ⟨e',tG step r1,r2,r3⟩
   · have hok':Lb p.getLast? x=false:=by simpa using hok
     rw[if_neg hok]at step
     rw[hok',Xg]
     exact .inr ⟨_,uc step,rfl,rfl⟩
theorem Hl (h:H) (v:AV) (l:List Int) (rd:Rd h v (ints l)) (hl:l.length<1125899906842624):aS AP.A 206 [v] h=some (.bool (yE l),h):=by
 have xf:Ext h h.dY:=fun i c q=>q
 have rdf:Rd h.dY v (ints l):=rd.mono fun i c q=>xf i c q
 unfold yE
 rcases Fw hl h.dY rdf l [] rfl with ⟨e',r1,r3⟩|⟨e',r1,r3,r4⟩
 · have r1':Lp AP.A [0,3] AP.f206L0 [(0,v),(3,.int .i64 0)] h.dY=some (.exit 0,e',h.dY):=r1
   have r3':yq none l=true:=r3
   rw[r3']
   refine uo (fn:=AP.f206) (h2:=h.dY) (e:=[(2,.bool true)]) rfl rfl rfl ?_ rfl rfl
   clear rd rdf r1 r3
   simp (disch:=omega)only[go_sem,vN,AP.f206,sF,r1']
 · have r1':Lp AP.A [0,3] AP.f206L0 [(0,v),(3,.int .i64 0)] h.dY=some (.ret,e',h.dY):=r1
   have r4':yq none l=false:=r4
   rw[r4']
   refine uo (fn:=AP.f206) (h2:=h.dY) (e:=e') (vs:=[.bool false]) rfl rfl rfl ?_ (by simp only[AP.f206,cM,nk,r3];rfl) rfl
   clear rd rdf r1 r4
   simp (disch:=omega)only[go_sem,vN,AP.f206,sF,r1']
def Jg (e:wR) (bs:List Int):List GF:=List.replicate (bs.count ((Cq e:Nat):Int)) (e.name,e.vec)
theorem Jx (e:wR) (p:List Int) (y:Int):Jg e (p++[y])=if((Cq e:Nat):Int)=y then Jg e p++[(e.name,e.vec)]else Jg e p:=by
 unfold Jg
 rw[List.count_append,List.count_singleton]
 by_cases c:((Cq e:Nat):Int)=y
 · rw[if_pos c,if_pos (by simp [c]),List.replicate_succ']
 · rw[if_neg c,if_neg (by simpa using fun q=>c q.symm)];rfl
theorem IC {e:wR} {bs:List Int} (h:bs.Nodup):Jg e bs=if bs.contains ((Cq e:Nat):Int)then [(e.name,e.vec)]else []:=by
 unfold Jg
 by_cases c:((Cq e:Nat):Int)∈bs
 · rw[if_pos (by simpa using c),List.Nodup.count h,if_pos c];rfl
 · rw[if_neg (by simpa using c),List.count_eq_zero_of_not_mem c];rfl
theorem CX {v w:AV} {l:List wc} {bs:List Int} (h0:H) (b:Nat) (hb:h0.get b=some [v]) (rd:xo 9 h0 v l.length (vW l)) (rdb:Rd h0 w (ints bs)) (hbs:bs.length≤8) (i:Nat) (x:wc) (hi:i<l.length) (hl:l[i]?=some x) (ok:xw h0 x) (v4:x.1.vec.length=4) (A0:List GF) (hA:A0.length≤100):∀(q p:List Int),bs=p++q→∀(h:H) (ov:AV) (acc:List xx),Ext h0 h→h.floor≤h.next→h0.next≤h.next→
 wo 2 h ov acc.length (wO acc)→acc.map (·.1)=A0++Jg x.1 p→(∀y∈acc,Jf h0 h ov y)→(∀j,ov.id?=some j→h0.next≤j)→h0.floor=h.floor→h.floor≤h0.next→
 ∃ e' h' ov' acc', Lp AP.A [1, 2, 6, 7, 8] AP.f199L0 [(1, w), (2, .aC b 0), (6, ov), (7, .int .i64 i), (8, .int .i64 p.length)] h = some (.exit 2, e', h') ∧ look e' 1 = w ∧ look e' 2 = .aC b 0 ∧ look e' 6 = ov' ∧ look e' 7 = .int .i64 i ∧
   wo 2 h' ov' acc'.length (wO acc')∧acc'.map (·.1)=A0++Jg x.1 bs∧(∀y∈acc',Jf h0 h' ov' y)∧Ext h0 h'∧h'.floor=h.floor∧h.next≤h'.next∧∀j,ov'.id?=some j→h0.next≤j
 | [], p, hp, h, ov, acc, hx, hf, hn, o, ha, hbk, hge, hfl, hf0 => by
   rw[Xe]at hp;subst hp
   have r2:=(rdb.mono fun i c q=>hx i c q:Rd h w (ints bs)).Bb
   rw[pP]at r2
   have lnb:=r2.len
   refine⟨[(1,w),(2,.aC b 0),(6,ov),(7,.int .i64 i),(8,.int .i64 bs.length),(27,.bool false)],h,ov,acc,tF ?_,rfl,rfl,rfl,rfl,o,ha,hbk,hx,rfl,u6 _,hge⟩
   simp (disch:=omega)only[go_sem,vN,AP.f199L0,lnb]
 | y :: q, p, hp, h, ov, acc, hx, hf, hn, o, ha, hbk, hge, hfl, hf0 => by
   have r2:=(rdb.mono fun i c q=>hx i c q:Rd h w (ints bs)).Bb
   rw[pP]at r2
   have lnb:=r2.len
   have hlen:bs.length=p.length+(q.length+1):=by rw[hp];simp
   have hy:bs[p.length]?=some y:=by rw[hp];simp
   have gb:=hx _ _ hb
   obtain⟨ad,a1,a2⟩:=rd.DY
   have b1:=a1 i ⟨by omega,by omega⟩
   obtain⟨pe,_⟩:=a2 h hx i x hl
   obtain⟨qq,f1,f2⟩:=pe.tL
   have l0:=f2 h (Ext.refl h) 0 _ rfl
   have l2:=f2 h (Ext.refl h) 2 _ rfl
   obtain⟨bd,c1,c2⟩:=rdb.xg
   have c3:=c1 p.length ⟨by omega,by omega⟩
   have c4:=c2 h hx p.length y hy
   have k1:=DT h x.1.name ok.nl
   have k1':aS AP.A 200 [.str x.1.name] h=some (.int .i64 ((Cq x.1:Nat):Int),h):=k1
   have w1:((p++[y]).length:Int)=(p.length:Int)+1:=by simp
   have bs':=Jx x.1 p y
   have al:=Xy List.length ha
   rw[Xd,vF]at al
   have cl:(Jg x.1 p).length≤p.length:=by unfold Jg;rw[Xu];exact List.count_le_length
   by_cases c:((Cq x.1:Nat):Int)=y
   · rw [if_pos c] at bs'
     rw[c]at k1'
     obtain⟨g2,eg2⟩:∃g,g=((h.alloc []).del h.next).alloc (ints x.1.vec):=⟨_,rfl⟩
     have rv:=(ok.vec.mono fun i c q=>hx i c q:Rd h x.2 (ints x.1.vec)).Bb
     rw[pP]at rv
     have ap:=Av rv hf (by omega) (by omega) (z:=8) (by simp [roomy];omega) (yf x.1.vec)
     rw[v4,←eg2]at ap
     have low2:∀i,i<h.next→g2.get i=h.get i:=fun i hi=>by rw[eg2,vS (by simp;omega),zI (by omega),vS (by omega)]
     have fl2:g2.floor=h.floor:=by rw[eg2];simp
     have n2:g2.next=h.next+2:=by rw[eg2];simp
     have zv:g2.get (h.next+1)=some (ints x.1.vec):=by rw[eg2,vO (by simp)]
     have x2:Ext h0 g2:=fun i c q=>by rw[low2 i (by have:=h0.lt _ _ q;omega)];exact hx i c q
     have gb2:=x2 _ _ hb
     have xA:Ext h (h.alloc []):=(Ext.refl h).alloc _
     have gbA:=xA _ _ gb
     have l2A:=f2 (h.alloc []) xA 2 _ rfl
     have xB:Ext h (g2.alloc [.str x.1.name,.aD (h.next+1) 0 4 1]):=fun i c q=>(Ext.refl g2).alloc _ _ _ (by rw[low2 i (h.lt _ _ q)];exact q)
     have gbB:=xB _ _ gb
     have l0B:=f2 _ xB 0 _ rfl
     obtain⟨pe2,_⟩:=a2 g2 x2 i x hl
     have l0':=f2 g2 (fun i c q=>by rw[low2 i (h.lt _ _ q)];exact q) 0 _ rfl
     have o2:wo 2 g2 ov acc.length (wO acc):=o.mono fl2 fun i q=>low2 i (o.lt q).2
     obtain⟨v',h',p1,p2,p3,p4,p5,p6⟩:=o2.push (by omega) (z:=40) (m:=1) (by omega) (by omega) [.str x.1.name,.aD (h.next+1) 0 4 1] rfl rfl (by simp [roomy];omega)
     have ea:wO acc++[.str x.1.name,.aD (h.next+1) 0 4 1]=wO (acc++[((x.1.name,x.1.vec),.aD (h.next+1) 0 4 1)]):=by rw[AR];rfl
     rw[ea]at p2
     have ovl:∀j,ov.id?=some j→j<h.next:=fun j q=>(o.lt q).2
     obtain⟨e',h2,ov',acc',r1,r2⟩:=CX h0 b hb rd rdb hbs i x hi hl ok v4 A0 hA q (p++[y]) (by rw[hp];simp) h' v' (acc++[((x.1.name,x.1.vec),.aD (h.next+1) 0 4 1)]) (fun i c q=>by
      have:=h0.lt _ _ q
      rw[p5 i (fun q2=>by have:=hge i q2;omega) (by omega)];exact x2 i c q) (by omega) (by omega) (by rw[vF,List.length_singleton];exact p2) (by rw[Xo,XB,bs',ha,XF]) (fun z hz=>by
      rcases XI.1 hz with hz|hz
      · refine(hbk z hz).mono (by rw[p3,fl2]) (fun j q1 q2=>by rw[p5 j q2 (by omega),low2 j q1]) (fun j q1 _=>by rw[p6];intro q2;have:=uS q2;omega)
      · obtain rfl:z=_:=XK.1 hz
        refine⟨⟨h.next+1,rfl, ?_,by omega,by rw[p6];intro q2;have:=uS q2;omega,by rw[p3,fl2];omega⟩,v4⟩
        rw[p5 _ (fun q2=>by have:=ovl _ q2;omega) (by omega)]
        exact zv) (fun j q=>by rw[p6]at q;have:=uS q;omega) (by rw[p3,fl2,hfl]) (by rw[p3,fl2];exact hf0)
     rw[w1]at r1
     refine⟨e',h2,ov',acc',tG ?_ r1,r2.1,r2.2.1,r2.2.2.1,r2.2.2.2.1,r2.2.2.2.2.1,r2.2.2.2.2.2.1,r2.2.2.2.2.2.2.1,r2.2.2.2.2.2.2.2.1,by rw[r2.2.2.2.2.2.2.2.2.1,p3,fl2],by have:=r2.2.2.2.2.2.2.2.2.2.1;omega,r2.2.2.2.2.2.2.2.2.2.2⟩
     clear r1 r2 rd a1 a2 pe pe2 f2 hx x2 xA xB o o2 hbk ha ea p2 rdb c1 c2 ok rv bs' k1 low2 zv eg2 ovl
     subst c
     generalize ((Cq x.1:Nat):Int)=B at *
     simp (disch:=omega)only[go_sem,vN,AP.f199L0,lnb,gb,b1,f1,l0,l2,k1',c3,c4,gbA,l2A,ap,gbB,l0B,p1]
   · rw[if_neg c]at bs'
     obtain⟨e',h2,ov',acc',r1,r2⟩:=CX h0 b hb rd rdb hbs i x hi hl ok v4 A0 hA q (p++[y]) (by rw[hp];simp) h ov acc hx hf hn o (by rw[bs'];exact ha) hbk hge hfl hf0
     rw[w1]at r1
     refine⟨e',h2,ov',acc',tG ?_ r1,r2⟩
     clear r1 r2 rd a1 a2 pe f2 hx o hbk ha rdb c1 c2 ok bs' k1
     generalize ((Cq x.1:Nat):Int)=B at *
     simp (disch:=omega)only[go_sem,vN,AP.f199L0,lnb,gb,b1,f1,l0,l2,k1',c3,c4]
theorem EK (l:List wR) (e:wR) {bs:List Int} (h:bs.Nodup):w9 (l++[e]) bs=w9 l bs++Jg e bs:=by
 rw[Cc,IC h]
 split<;>simp
theorem FI {v w:AV} {l:List wc} {bs:List Int} (hm:xa (l.map (·.1))=true) (h0:H) (b:Nat) (hb:h0.get b=some [v]) (rd:xo 9 h0 v l.length (vW l)) (hv:∀x∈l,xw h0 x∧x.2.sc=true) (rdb:Rd h0 w (ints bs)) (hbs:bs.length≤8) (nd:bs.Nodup):∀(q p:List wc),l=p++q→∀(h:H) (ov:AV) (acc:List xx),Ext h0 h→h.floor≤h.next→h0.next≤h.next→
 wo 2 h ov acc.length (wO acc)→acc.map (·.1)=w9 (p.map (·.1)) bs→(∀y∈acc,Jf h0 h ov y)→(∀j,ov.id?=some j→h0.next≤j)→h.floor≤h0.next→h0.floor=h.floor→
 ∃e' h' ov' acc',Lp AP.A [1,2,6,7] AP.f199L1 [(1,w),(2,.aC b 0),(6,ov),(7,.int .i64 p.length)] h=some (.exit 0,e',h')∧look e' 6=ov'∧wo 2 h' ov' acc'.length (wO acc')∧acc'.map (·.1)=w9 (l.map (·.1)) bs∧(∀y∈acc',Jf h0 h' ov' y)∧h'.floor=h.floor
 | [], p, hp, h, ov, acc, hx, hf, hn, o, ha, hbk, hge, hf0, hfl => by
   rw[Xe]at hp;subst hp
   have gb:=hx _ _ hb
   have ln:=(rd.mono fun i c q=>hx i c q).len
   refine⟨[(1,w),(2,.aC b 0),(6,ov),(7,.int .i64 l.length),(21,.bool false)],h,ov,acc,tF ?_,rfl,o,ha,hbk,rfl⟩
   simp (disch:=omega)only[go_sem,vN,AP.f199L1,gb,ln]
 | x :: q, p, hp, h, ov, acc, hx, hf, hn, o, ha, hbk, hge, hf0, hfl => by
   have hm':=hm
   unfold xa at hm'
   rw[u9]at hm'
   obtain⟨m1,m2,m3⟩:=wF hm'.1
   rw[Xd]at m1
   have gb:=hx _ _ hb
   have hlx:l[p.length]?=some x:=by rw[hp];simp
   have hlen:l.length=p.length+(q.length+1):=by rw[hp];simp
   have ln:=(rd.mono fun i c q=>hx i c q).len
   have v4:x.1.vec.length=4:=(yj (m2 x.1 (by rw[hp];simp)).2.1).1
   obtain⟨ok,sc⟩:=hv x (by rw[hp];simp)
   have bl:=zT (p.map (·.1)) bs
   rw[Xd]at bl
   have al:=Xy List.length ha
   rw[Xd]at al
   obtain⟨e1,h1,ov1,acc1,r1,r2,r3,r4,r5,r6,r7,r8,r9,r10,r11,r12⟩:=CX h0 b hb rd rdb hbs p.length x (by omega) hlx ok v4 (w9 (p.map (·.1)) bs) (by omega) bs [] rfl h ov acc hx hf hn o (by rw[ha];unfold Jg;simp) hbk hge hfl hf0
   rw[←EK _ _ nd]at r7
   have r1':Lp AP.A [1,2,6,7,8] AP.f199L0 [(1,w),(2,.aC b 0),(6,ov),(7,.int .i64 p.length),(8,.int .i64 0)] h=some (.exit 2,e1,h1):=r1
   obtain⟨e',h',ov',acc',s1,s2⟩:=FI hm h0 b hb rd hv rdb hbs nd q (p++[x]) (by rw[hp];simp) h1 ov1 acc1 r9 (by omega) (by omega) r6 (by rw[Xo,XB];exact r7) r8 r12 (by omega) (by rw[r10];exact hfl)
   have w1:((p++[x]).length:Int)=(p.length:Int)+1:=by simp
   rw[w1]at s1
   refine⟨e',h',ov',acc',tG ?_ s1,s2.1,s2.2.1,s2.2.2.1,s2.2.2.2.1,by rw[s2.2.2.2.2,r10]⟩
   clear r1 s1 s2 rd hv rdb r6 r7 r8 r9 o ha hbk hm hm' m2 hx ok
   simp (disch:=omega)only[go_sem,vN,AP.f199L1,gb,ln,sF,r1',r2,r3,r4,r5]
def GY (b:GF):xx:=(b,wB b.2)
def Bf (l:List GF):AV:=BE 2 l.length (wO (l.map GY))
theorem BF (l:List xx):(wO l).length=l.length* 2:=GU yr l
theorem Et {h:H} {fl:Nat} {h0:H} {ov:AV} (hfl:fl≤h0.next) (m:Nat):∀{acc:List xx},(∀y∈acc,Jf h0 h ov y)→fK (snap h.get fl (m+3) false) (wO acc)=some (wO ((acc.map (·.1)).map GY))
 |[],_=>rfl
 | y :: acc, hb => by
   obtain⟨j,e1,e2,e3,e4,e5⟩:=(hb y (by simp)).ex
   have l4:=(hb y (by simp)).l4
   have ih:=Et (ov:=ov) hfl m (acc:=acc) fun z hz=>hb z (by simp [hz])
   have s1:snap h.get fl (m+3) false y.2=some (wB y.1.2):=by
    have o:wo 1 ⟨h.next,fl,h.cG,h.len⟩ (.aD j 0 4 1) 4 (ints y.1.2):=⟨by rw[pP];omega,.inr ⟨j,rfl,e2,by show fl≤j;omega,by omega⟩⟩
    have:=o.xV (fl:=fl) (m:=m+1) (t:=false) (u6 _)
    rw[e1]
    have e:BE 1 4 (ints y.1.2)=wB y.1.2:=by unfold BE wB;rw[l4];rfl
    rw[e]at this;exact this
   show fK (snap h.get fl (m+3) false) (.str y.1.1::y.2::wO acc)=_
   have s0:snap h.get fl (m+3) false (.str y.1.1)=some (.str y.1.1):=rfl
   simp only[fK,s0,s1,ih,uZ]
   rfl
def MY (l:List wR) (bs:List Int):AV:=if xa l&&yE bs then .bP [Bf (w9 l bs),.int .i64 0]else .bP [.aQ,.int .i64 1600]
theorem Fz (g:H) {l:List GF} (hl:∀b∈l,b.2.length<1125899906842624):ED g (Bf l) (l.map GY):=by
 refine⟨?_,fun x hx=> ?_⟩
 · unfold Bf
   have:=A6 (n:=2) (k:=l.length) (h:=g) (cs:=wO (l.map GY)) (by rw[BF,Xd])
   rw[Xd];exact this
 · obtain⟨b,hb,rfl⟩:=Xl.1 hx
   exact⟨yh g b.2,hl b hb⟩
theorem ID (h : H) (v w : AV) (l : List wc) (bs : List Int) (hvs : v.sc = true) (hn : l.length < 1125899906842624) (rd : xo 9 h v l.length (vW l)) (hv : ∀ x ∈ l, xw h x ∧ x.2.sc = true) (rdb : Rd h w (ints bs)) (hbs : bs.length < 1125899906842624) : aS AP.A 199 [.agg [v], w] h = some (MY (l.map (·.1)) bs, h) := by
 obtain⟨h1,eh1⟩:∃g,g=h.dY.alloc [v]:=⟨_,rfl⟩
 have hx0:Ext h h1:=by rw[eh1];exact fun i c q=>((Ext.refl h.dY).alloc _) i c q
 have hn0:h.dY.next=h.next:=rfl
 have f1:h1.floor=h.next:=by rw[eh1];simp
 have n1:h1.next=h.next+1:=by rw[eh1];simp
 have g1:h1.get h.next=some [v]:=by rw[eh1];exact vO rfl
 have rd1:=rd.mono fun i c q=>hx0 i c q
 have hv1:∀x∈l,xw h1 x∧x.2.sc=true:=fun x hx=>⟨(hv x hx).1.mono hx0,(hv x hx).2⟩
 have rdb1:Rd h1 w (ints bs):=rdb.mono fun i c q=>hx0 i c q
 have k1:=Bq h1 v l hvs hn rd1 hv1
 have k2:=Hl h1 w bs rdb1 hbs
 unfold MY
 cases hm:xa (l.map (·.1))with
 | false =>
   rw[hm]at k1
   refine uo (fn:=AP.f199) (h2:=h1) (e:=[(4,.aQ),(5,.int .i64 1600)]) (vs:=[.aQ,.int .i64 1600]) rfl rfl rfl ?_ rfl rfl
   clear rd rd1 hv hv1 hx0 rdb rdb1
   simp (disch:=omega)only[go_sem,vN,AP.f199,hvs,hn0,←eh1,g1,wZ,k1,k2]
 | true =>
   rw[hm]at k1
   cases hb:yE bs with
   | false =>
     rw[hb]at k2
     refine uo (fn:=AP.f199) (h2:=h1) (e:=[(4,.aQ),(5,.int .i64 1600)]) (vs:=[.aQ,.int .i64 1600]) rfl rfl rfl ?_ rfl rfl
     clear rd rd1 hv hv1 hx0 rdb rdb1
     simp (disch:=omega)only[go_sem,vN,AP.f199,hvs,hn0,←eh1,g1,wZ,k1,k2]
   | true =>
     rw[hb]at k2
     obtain⟨bf,nd⟩:=Cb hb
     have b8:bs.length≤8:=by
      have sub:bs.Subset [0,1,2,3,4,5,6,7]:=fun y hy=>by
       have:=bf y hy
       simp only[vC,List.not_mem_nil,or_false]
       omega
      have:=List.Nodup.length_le_of_subset nd sub
      simpa using this
     obtain⟨e',h2,ov,acc,r1,r2,r3,r4,r5,r6⟩:=FI hm h1 h.next g1 rd1 hv1 rdb1 b8 nd l [] rfl h1 .aQ [] (Ext.refl _) (by omega) (u6 _) wo.nil rfl (fun y hy=>by cases hy) (fun j q=>by cases q) (by omega) rfl
     have r1':Lp AP.A [1,2,6,7] AP.f199L1 [(1,w),(2,.aC h.next 0),(6,.aQ),(7,.int .i64 0)] h1=some (.exit 0,e',h2):=r1
     refine uo (fn:=AP.f199) (h2:=h2) (e:=[(4,ov),(5,.int .i64 0)]) (vs:=[ov,.int .i64 0]) rfl rfl rfl ?_ rfl ?_
     · clear rd rd1 hv hv1 hx0 rdb rdb1 r1 r3 r4 r5
       simp (disch:=omega)only[go_sem,vN,AP.f199,hvs,hn0,←eh1,g1,wZ,k1,k2,sF,r1',r2]
     · have al:=Xy List.length r4
       rw[Xd]at al
       have s:snap h2.get h.next 15 true ov=some (Bf (w9 (l.map (·.1)) bs)):=by
        unfold Bf BE
        obtain⟨q0,⟨q1,q2⟩|⟨j,q1,q2,q3,q4⟩⟩:=r3
        · rw[q1,←al,q2];rfl
        · rw[q1,if_neg (by omega)]
          show(if j<h.next then _ else _)=_
          rw[if_neg (by rw[r6,f1]at q3;omega),q2,uZ,if_pos (by rw[BF];omega),Xf,vA (by rw[BF];exact u6 _)]
          have:=Et (h:=h2) (fl:=h.next) (h0:=h1) (ov:=ov) (by omega) 11 r5
          rw[this,r4,al];rfl
       show(fK (snap h2.get h.next 15 true) [ov,.int .i64 0]).bind _=_
       simp only[fK,s,uZ]
       rfl
instance:DecidableEq wR:=fun a b=>decidable_of_iff _ (A8 a b)
theorem H4 {v w : AV} {a b : List wc} (hab : a.length = b.length) (hl : a.length < 1125899906842624) (h : H) (ra : xo 9 h v a.length (vW a)) (rb : xo 9 h w b.length (vW b)) (ha : ∀ x ∈ a, xw h x ∧ x.2.sc = true) (hb : ∀ x ∈ b, xw h x ∧ x.2.sc = true) : ∀ (q r p p' : List wc), a = p ++ q → b = p' ++ r → p.length = p'.length →
 (∃e',Lp AP.A [0,1,5] AP.f207L0 [(0,v),(1,w),(5,.int .i64 p.length)] h=some (.exit 0,e',h)∧q.map (·.1)=r.map (·.1))∨
 (∃e',Lp AP.A [0,1,5] AP.f207L0 [(0,v),(1,w),(5,.int .i64 p.length)] h=some (.ret,e',h)∧look e' 4=.bool false∧q.map (·.1)≠r.map (·.1))
 | [], r, p, p', hp, hr, hpp => by
   rw[Xe]at hp;subst hp
   have h1:b.length=p'.length+r.length:=by rw[hr];simp
   have hr0:r=[]:=Xm (by omega)
   have ln:=ra.len
   refine .inl ⟨[(0,v),(1,w),(5,.int .i64 a.length),(14,.bool false)],tF ?_,by rw[hr0]⟩
   simp (disch:=omega)only[go_sem,vN,AP.f207L0,ln]
 | x :: q, [], p, p', hp, hr, hpp => by
   exfalso
   have h1:a.length=p.length+(q.length+1):=by rw[hp];simp
   have h2:b.length=p'.length:=by rw[hr];simp
   omega
 | x :: q, y :: r, p, p', hp, hr, hpp => by
   have h1:a.length=p.length+(q.length+1):=by rw[hp];simp
   have hx:a[p.length]?=some x:=by rw[hp];simp
   have hy:b[p.length]?=some y:=by rw[hr,hpp];simp
   have ln:=ra.len
   obtain⟨ad,a1,a2⟩:=ra.DY
   obtain⟨bd,b1,b2⟩:=rb.DY
   have a3:=a1 p.length ⟨by omega,by omega⟩
   have b3:=b1 p.length ⟨by omega,by omega⟩
   obtain⟨_,a4⟩:=a2 h (Ext.refl h) p.length x hx
   obtain⟨_,b4⟩:=b2 h (Ext.refl h) p.length y hy
   obtain⟨ox,sx⟩:=ha x (by rw[hp];simp)
   obtain⟨oy,sy⟩:=hb y (by rw[hr];simp)
   have k1:=L3 h x.1 y.1 x.2 y.2 sx sy ox oy
   have ih:=H4 hab hl h ra rb ha hb q r (p++[x]) (p'++[y]) (by rw[hp];simp) (by rw[hr];simp) (by simp [hpp])
   have w1:((p++[x]).length:Int)=(p.length:Int)+1:=by simp
   rw[w1]at ih
   rw[Xk,Xk]
   cases hk:BW x.1 y.1 with
   | true =>
     rw[hk]at k1
     have e:=(A8 _ _).1 hk
     have step:aM (aS AP.A) bB AP.f207L0 (ax [(0,v),(1,w),(5,.int .i64 p.length)] [0,1,5]) h=some (.normal,[(0,v),(1,w),(5,.int .i64 ((p.length:Int)+1))],h):=by
      clear ih ra rb a1 a2 b1 b2 ha hb ox oy hp hr e
      generalize vT x.1 x.2=E at *
      generalize vT y.1 y.2=F at *
      simp (disch:=omega)only[go_sem,vN,AP.f207L0,ln,a3,a4,b3,b4,k1]
     rcases ih with ⟨e',r1,r2⟩|⟨e',r1,r2,r3⟩
     · exact .inl ⟨e',tG step r1,by rw[e,r2]⟩
     · exact .inr ⟨e',tG step r1,r2,fun q=>r3 (XM q).2⟩
   | false =>
     rw[hk]at k1
     refine .inr ⟨[(4,.bool false)],uc ?_,rfl,fun q=>by
      have:=(A8 x.1 y.1).2 (XM q).1
      rw[hk]at this;cases this⟩
     clear ih ra rb a1 a2 b1 b2 ha hb ox oy hp hr
     generalize vT x.1 x.2=E at *
     generalize vT y.1 y.2=F at *
     simp (disch:=omega)only[go_sem,vN,AP.f207L0,ln,a3,a4,b3,b4,k1]
theorem Dy (h:H) (v w:AV) (a b:List wc) (hl:a.length<1125899906842624) (ra:xo 9 h v a.length (vW a)) (rb:xo 9 h w b.length (vW b)) (ha:∀x∈a,xw h x∧x.2.sc=true) (hb:∀x∈b,xw h x∧x.2.sc=true):aS AP.A 207 [v,w] h=some (.bool (decide (a.map (·.1)=b.map (·.1))),h):=by
 have xf:Ext h h.dY:=fun i c q=>q
 have ra':=ra.mono fun i c q=>xf i c q
 have rb':=rb.mono fun i c q=>xf i c q
 have l1:=ra'.len
 have l2:=rb'.len
 by_cases c:a.length=b.length
 · have c':(a.length:Int)=b.length:=by omega
   rcases H4 c hl h.dY ra' rb' (fun x hx=>⟨(ha x hx).1.mono xf,(ha x hx).2⟩) (fun x hx=>⟨(hb x hx).1.mono xf,(hb x hx).2⟩) a b [] [] rfl rfl rfl with ⟨e',r1,r2⟩|⟨e',r1,r2,r3⟩
   · have r1':Lp AP.A [0,1,5] AP.f207L0 [(0,v),(1,w),(5,.int .i64 0)] h.dY=some (.exit 0,e',h.dY):=r1
     rw[dt r2]
     refine uo (fn:=AP.f207) (h2:=h.dY) (e:=[(4,.bool true)]) rfl rfl rfl ?_ rfl rfl
     clear ra rb ra' rb' ha hb r1 r2
     simp (disch:=omega)only[go_sem,vN,AP.f207,l1,l2,sF,r1']
   · have r1':Lp AP.A [0,1,5] AP.f207L0 [(0,v),(1,w),(5,.int .i64 0)] h.dY=some (.ret,e',h.dY):=r1
     rw[df r3]
     refine uo (fn:=AP.f207) (h2:=h.dY) (e:=e') (vs:=[.bool false]) rfl rfl rfl ?_ (by simp only[AP.f207,cM,nk,r2];rfl) rfl
     clear ra rb ra' rb' ha hb r1 r3
     simp (disch:=omega)only[go_sem,vN,AP.f207,l1,l2,sF,r1']
 · have c':¬(a.length:Int)=b.length:=by omega
   have e:a.map (·.1)≠b.map (·.1):=fun q=>c (by have:=Xy List.length q;simpa using this)
   rw[df e]
   refine uo (fn:=AP.f207) (h2:=h.dY) (e:=[(4,.bool false)]) rfl rfl rfl ?_ rfl rfl
   clear ra rb ra' rb' ha hb
   simp (disch:=omega)only[go_sem,vN,AP.f207,l1,l2]
theorem L4 (h:H) (v w:AV) (a b:List wc) (hvs:v.sc=true) (hws:w.sc=true) (hl:a.length<1125899906842624) (ra:xo 9 h v a.length (vW a)) (rb:xo 9 h w b.length (vW b)) (ha:∀x∈a,xw h x∧x.2.sc=true) (hb:∀x∈b,xw h x∧x.2.sc=true):aS AP.A 202 [.agg [v],.agg [w]] h=some (.bool (decide (a.map (·.1)=b.map (·.1))),h):=by
 obtain⟨h1,eh1⟩:∃g,g=h.dY.alloc [v]:=⟨_,rfl⟩
 obtain⟨h2,eh2⟩:∃g,g=h1.alloc [w]:=⟨_,rfl⟩
 have hx2:Ext h h2:=by rw[eh2,eh1];exact fun i c q=>(((Ext.refl h.dY).alloc _).alloc _) i c q
 have hn0:h.dY.next=h.next:=rfl
 have n1:h1.next=h.next+1:=by rw[eh1];simp
 have g1:h2.get h.next=some [v]:=by rw[eh2,vS (by omega),eh1];exact vO rfl
 have g2:h2.get (h.next+1)=some [w]:=by rw[eh2,vO (by omega)]
 have k1:=Dy h2 v w a b hl (ra.mono fun i c q=>hx2 i c q) (rb.mono fun i c q=>hx2 i c q) (fun x hx=>⟨(ha x hx).1.mono hx2,(ha x hx).2⟩) (fun x hx=>⟨(hb x hx).1.mono hx2,(hb x hx).2⟩)
 generalize decide (a.map (·.1)=b.map (·.1))=B at *
 refine uo (fn:=AP.f202) (h2:=h2) (e:=[(4,.bool B)]) rfl rfl rfl ?_ rfl rfl
 clear ra rb ha hb hx2
 simp (disch:=omega)only[go_sem,vN,AP.f202,hvs,hws,hn0,←eh1,n1,←eh2,g1,g2,k1]
def Bx (n:Nat):aH:=(.seq (.o5 [⟨(some 11),.bin .lss (.t 10) (.t 9),none⟩] [0,1,2,9,10,11]) (.seq (.cond (.t 11) (.skip) (.exit 0) [0,1,2,9,10]) (.seq (.block 1 (.seq (.o5 [⟨(some 12),.mv (.t 10),none⟩,⟨(some 7),.mv (.t 12),none⟩] [0,1,2,7,9,10]) (.seq (.iY [0,1,2,3,4,5,6,7,8,9,10,11,12,13,14,15,16,17,18,19,20,21,22,23,24] [⟨(some 13),.mv (.t 2),none⟩,⟨(some 14),.mv (.t 0),none⟩,⟨(some 15),.mv (.t 7),none⟩,⟨(some 16),.nZ n (.t 14) (.t 15),none⟩,⟨(some 17),.call (.t 13) [(.t 16)],none⟩,⟨(some 18),.call (.c (.fn 121 [] [])) [(.t 17)],none⟩,⟨(some 19),.not (.t 18),none⟩,⟨(some 20),.mv (.t 19),none⟩,⟨(some 21),.mv (.t 7),(some (20,false))⟩,⟨(some 22),.bin .gtr (.t 21) (.c (.int .i64 0)),(some (20,false))⟩,⟨(some 23),.mv (.t 22),(some (20,false))⟩,⟨(some 24),.mv (.t 2),(some (23,true))⟩,⟨(some 25),.mv (.t 0),(some (23,true))⟩,⟨(some 26),.mv (.t 7),(some (23,true))⟩,⟨(some 27),.bin .sub (.t 26) (.c (.int .i64 1)),(some (23,true))⟩,⟨(some 28),.nZ n (.t 25) (.t 27),(some (23,true))⟩,⟨(some 29),.call (.t 24) [(.t 28)],(some (23,true))⟩,⟨(some 30),.mv (.t 2),(some (23,true))⟩,⟨(some 31),.mv (.t 0),(some (23,true))⟩,⟨(some 32),.mv (.t 7),(some (23,true))⟩,⟨(some 33),.nZ n (.t 31) (.t 32),(some (23,true))⟩,⟨(some 34),.call (.t 30) [(.t 33)],(some (23,true))⟩,⟨(some 35),.bin .geq (.t 29) (.t 34),(some (23,true))⟩,⟨(some 36),.pick (.t 23) (.t 35) (.c (.bool false)),(some (20,false))⟩,⟨(some 37),.pick (.t 20) (.c (.bool true)) (.t 36),none⟩] [] [0,1,2,9,10,37]) (.cond (.t 37) (.seq (.o5 [⟨(some 6),.mv (.c (.bool false)),none⟩] [6]) (.ret)) (.skip) [0,1,2,9,10]))) [0,1,2,9,10]) (.o5 [⟨(some 38),.bin .add (.t 10) (.c (.int .i64 1)),none⟩,⟨(some 10),.mv (.t 38),none⟩] [0,1,2,9,10]))))
def ER (n:Nat):aH:=(.seq (.o5 [⟨(some 9),.bin .lss (.t 8) (.t 7),none⟩] [0,1,7,8,9]) (.seq (.cond (.t 9) (.skip) (.exit 0) [0,1,7,8]) (.seq (.block 1 (.seq (.o5 [⟨(some 10),.mv (.t 8),none⟩,⟨(some 5),.mv (.t 10),none⟩] [0,1,5,7,8]) (.seq (.o5 [⟨(some 11),.mv (.t 1),none⟩,⟨(some 12),.mv (.t 0),none⟩,⟨(some 13),.mv (.t 5),none⟩,⟨(some 14),.nZ n (.t 12) (.t 13),none⟩,⟨(some 15),.load true n (.t 14),none⟩,⟨(some 16),.call (.t 11) [(.t 15)],none⟩] [0,1,5,7,8,16]) (.cond (.t 16) (.seq (.o5 [⟨(some 17),.mv (.t 5),none⟩,⟨(some 4),.mv (.t 17),none⟩] [4]) (.ret)) (.skip) [0,1,7,8]))) [0,1,7,8]) (.o5 [⟨(some 18),.bin .add (.t 8) (.c (.int .i64 1)),none⟩,⟨(some 8),.mv (.t 18),none⟩] [0,1,7,8]))))
def yG (p:Option ByteArray) (s:ByteArray):Bool:=match p with|none=>true|some q=>Op.bytesLess q.toList s.toList
theorem CC (p:Option ByteArray) (s:ByteArray) (r:List ByteArray):xe p (s::r)=((wY s&&yG p s)&&xe (some s) r):=by cases p<;>rfl
theorem Eo {v : AV} {k sz : Nat} {least : AV} {ns : List ByteArray} (hn : ns.length < 1125899906842624) (hs : ∀ s ∈ ns, s.size < 1125899906842624) (h : H) (ad : Int → AV) (ha : ∀ i : Int, 0 ≤ i ∧ i < ns.length → fV sz v (.int .i64 i) = some (ad i))
 (hk:∀(i:Nat) (s:ByteArray),ns[i]?=some s→aS AP.A k [ad i] h=some (.str s,h)):∀(q p:List ByteArray),ns=p++q→
 (∃e',Lp AP.A [0,1,2,9,10] (Bx sz) [(0,v),(1,least),(2,.fn k [] []),(9,.int .i64 ns.length),(10,.int .i64 p.length)] h=some (.exit 0,e',h)∧look e' 0=v∧look e' 1=least∧xe p.getLast? q=true)∨
 (∃e',Lp AP.A [0,1,2,9,10] (Bx sz) [(0,v),(1,least),(2,.fn k [] []),(9,.int .i64 ns.length),(10,.int .i64 p.length)] h=some (.ret,e',h)∧look e' 6=.bool false∧xe p.getLast? q=false)
 | [], p, hp => by
   rw[Xe]at hp;subst hp
   refine .inl ⟨[(0,v),(1,least),(2,.fn k [] []),(9,.int .i64 ns.length),(10,.int .i64 ns.length),(11,.bool false)],tF ?_,rfl,rfl,rfl⟩
   simp (disch:=omega)only[go_sem,vN,Bx]
 | s :: q, p, hp => by
   have hlen:ns.length=p.length+(q.length+1):=by rw[hp];simp
   have hx:ns[p.length]?=some s:=by rw[hp];simp
   have b1:=ha p.length ⟨by omega,by omega⟩
   have b2:=hk p.length s hx
   have k1:=J7 h s (hs s (by rw[hp];simp))
   have ih:=Eo (least:=least) hn hs h ad ha hk q (p++[s]) (by rw[hp];simp)
   have w1:(((p++[s]).length:Nat):Int)=(p.length:Int)+1:=by simp
   rw[w1,XJ]at ih
   rw[CC]
   have step:aM (aS AP.A) bB (Bx sz) (ax [(0,v),(1,least),(2,.fn k [] []),(9,.int .i64 ns.length),(10,.int .i64 p.length)] [0,1,2,9,10]) h=if(wY s&&yG p.getLast? s)=true then some (.normal,[(0,v),(1,least),(2,.fn k [] []),(9,.int .i64 ns.length),(10,.int .i64 ((p.length:Int)+1))],h)else some (.ret,[(6,.bool false)],h):=by
    cases hl:p.getLast? with
    | none =>
      have hp1:p.length=0:=by rw[Xz.1 hl];rfl
      clear ih w1 hp hx
      rw[show yG none s=true from rfl]
      generalize wY s=B1 at *
      cases B1<;>simp only[Xg,Xr,Xj,if_true,u0,vG]<;>simp (disch:=omega)only[go_sem,vN,Bx,b1,b2,k1,nQ]
    | some y =>
      obtain⟨p',rfl⟩:∃p',p=p'++[y]:=XA.1 hl
      have hpl:(p'++[y]).length=p'.length+1:=by simp
      have hy:ns[p'.length]?=some y:=by rw[hp];simp
      have bj:=ha p'.length ⟨by omega,by omega⟩
      have kj:=hk p'.length y hy
      have cmp:br .geq (.str y) (.str s)=some (.bool (!(Op.bytesLess y.toList s.toList))):=rfl
      have n2:(((p'++[y]).length:Nat):Int)-1=(p'.length:Int):=by rw[hpl];omega
      clear ih w1 hp hx hy
      rw[show yG (some y) s=Op.bytesLess y.toList s.toList from rfl]
      generalize Op.bytesLess y.toList s.toList=B2 at *
      generalize wY s=B1 at *
      generalize (p'++[y]).length=pl at *
      cases B1<;>cases B2<;>simp only[Xg,Xr,Xi,Xj,if_true,u0,vG]<;>simp (disch:=omega)only[go_sem,vN,Bx,b1,b2,k1,bj,kj,cmp,n2,nQ]
   generalize (wY s&&yG p.getLast? s)=ok at *
   cases ok with
   | true =>
     rw[if_pos rfl]at step
     rw[Xj]
     rcases ih with ⟨e',r1,r2,r3,r4⟩|⟨e',r1,r2,r3⟩
     · exact .inl ⟨e',tG step r1,r2,r3,r4⟩
     · exact .inr ⟨e',tG step r1,r2,r3⟩
   | false =>
     rw[if_neg (by decide)]at step
     rw[Xg]
     exact .inr ⟨_,uc step,rfl,rfl⟩
def Dv (n:Nat):fi:={np:=3,res:=[.tmp 6],pure:=true,body:=(.seq (.o5 [⟨(some 6),.mv (.c (.bool false)),none⟩] [0,1,2]) (.seq (.seq (.o5 [⟨(some 8),.mv (.t 0),none⟩,⟨(some 9),.len false (.t 8),none⟩,⟨(some 10),.mv (.c (.int .i64 0)),none⟩] [0,1,2,9,10]) (.block 0 (.loop [0,1,2,9,10] (Bx n)) [0,1])) (.seq (.o5 [⟨(some 39),.mv (.t 0),none⟩,⟨(some 40),.len false (.t 39),none⟩,⟨(some 41),.mv (.t 1),none⟩,⟨(some 42),.bin .geq (.t 40) (.t 41),none⟩,⟨(some 43),.mv (.t 42),none⟩,⟨(some 44),.mv (.t 0),(some (43,true))⟩,⟨(some 45),.len false (.t 44),(some (43,true))⟩,⟨(some 46),.bin .leq (.t 45) (.c (.int .i64 6)),(some (43,true))⟩,⟨(some 47),.pick (.t 43) (.t 46) (.c (.bool false)),none⟩,⟨(some 6),.mv (.t 47),none⟩] [6]) (.ret))))}
theorem E8 {f sz k:Nat} (hf:AP.A f=some (Dv sz)) {v:AV} {least:Int} {ns:List ByteArray} (hn:ns.length<1125899906842624) (hs:∀s∈ns,s.size<1125899906842624) (h:H) (ln:ji false v=some (.int .i64 ns.length)) (ad:Int→AV) (ha:∀i:Int,0≤i∧i<ns.length→fV sz v (.int .i64 i)=some (ad i))
 (hk:∀(i:Nat) (s:ByteArray),ns[i]?=some s→aS AP.A k [ad i] h.dY=some (.str s,h.dY)):aS AP.A f [v,.int .i64 least,.fn k [] []] h=some (.bool (xe none ns&&(decide (least≤ns.length)&&decide (ns.length≤6))),h):=by
 rcases Eo (least:=.int .i64 least) hn hs h.dY ad ha hk ns [] rfl with ⟨e',r1,r2,r3,r4⟩|⟨e',r1,r2,r3⟩
 · have r1':Lp AP.A [0,1,2,9,10] (Bx sz) [(0,v),(1,.int .i64 least),(2,.fn k [] []),(9,.int .i64 ns.length),(10,.int .i64 0)] h.dY=some (.exit 0,e',h.dY):=r1
   have r4':xe none ns=true:=r4
   rw[r4',Xj]
   refine uo (fn:=Dv sz) (h2:=h.dY) (e:=[(6,.bool (decide (least≤ns.length)&&decide (ns.length≤6)))]) hf rfl rfl ?_ rfl rfl
   clear ha hk r1 r4 r4'
   by_cases c1:least≤(ns.length:Int)
   · by_cases c2:ns.length≤6<;>simp (disch:=omega)only[go_sem,vN,Dv,ln,sF,r1',r2,r3]
   · simp (disch:=omega)only[go_sem,vN,Dv,ln,sF,r1',r2,r3]
 · have r1':Lp AP.A [0,1,2,9,10] (Bx sz) [(0,v),(1,.int .i64 least),(2,.fn k [] []),(9,.int .i64 ns.length),(10,.int .i64 0)] h.dY=some (.ret,e',h.dY):=r1
   have r4':xe none ns=false:=r3
   rw[r4',Xg]
   refine uo (fn:=Dv sz) (h2:=h.dY) (e:=e') (vs:=[.bool false]) hf rfl rfl ?_ (by simp only[Dv,cM,nk,r2];rfl) rfl
   clear ha hk r1 r3 r4'
   simp (disch:=omega)only[go_sem,vN,Dv,ln,sF,r1']
theorem FT {v : AV} {k sz n : Nat} {B : Nat → Bool} (hn : n < 1125899906842624) (h : H) (ad : Int → AV) (el : Nat → AV) (ha : ∀ i : Int, 0 ≤ i ∧ i < n → fV sz v (.int .i64 i) = some (ad i)) (hl : ∀ i : Nat, i < n → bU true sz (ad i) h = some (el i))
 (hk:∀i,i<n→aS AP.A k [el i] h=some (.bool (B i),h)):∀(m i:Nat),i+m=n→
 (∃e',Lp AP.A [0,1,7,8] (ER sz) [(0,v),(1,.fn k [] []),(7,.int .i64 n),(8,.int .i64 i)] h=some (.exit 0,e',h)∧∀j,i≤j→j<n→B j=false)∨
 (∃e',Lp AP.A [0,1,7,8] (ER sz) [(0,v),(1,.fn k [] []),(7,.int .i64 n),(8,.int .i64 i)] h=some (.ret,e',h)∧(∃j:Nat,look e' 4=.int .i64 j∧j<n∧B j=true))
 | 0, i, hi => by
   obtain rfl:i=n:=by omega
   refine .inl ⟨[(0,v),(1,.fn k [] []),(7,.int .i64 i),(8,.int .i64 i),(9,.bool false)],tF ?_,fun j h1 h2=>by omega⟩
   clear ha hl hk
   simp (disch:=omega)only[go_sem,vN,ER]
 | m + 1, i, hi => by
   have b1:=ha i ⟨by omega,by omega⟩
   have b2:=hl i (by omega)
   have k1:=hk i (by omega)
   have ih:=FT hn h ad el ha hl hk m (i+1) (by omega)
   have w1:((i+1:Nat):Int)=(i:Int)+1:=by omega
   rw[w1]at ih
   cases c:B i with
   | true =>
     rw[c]at k1
     refine .inr ⟨[(4,.int .i64 i)],uc ?_,i,rfl,by omega,c⟩
     clear ha hl hk ih
     simp (disch:=omega)only[go_sem,vN,ER,b1,b2,k1,nQ]
   | false =>
     rw[c]at k1
     have step:aM (aS AP.A) bB (ER sz) (ax [(0,v),(1,.fn k [] []),(7,.int .i64 n),(8,.int .i64 i)] [0,1,7,8]) h=some (.normal,[(0,v),(1,.fn k [] []),(7,.int .i64 n),(8,.int .i64 ((i:Int)+1))],h):=by
      clear ha hl hk ih
      simp (disch:=omega)only[go_sem,vN,ER,b1,b2,k1,nQ]
     rcases ih with ⟨e',r1,r2⟩|⟨e',r1,r2⟩
     · exact .inl ⟨e',tG step r1,fun j h1 h2=>by
        by_cases q:j=i
        · rw[q];exact c
        · exact r2 j (by omega) h2⟩
     · exact .inr ⟨e',tG step r1,r2⟩
def IZ (n:Nat):fi:={np:=2,res:=[.tmp 4],pure:=true,body:=(.seq (.o5 [⟨(some 4),.mv (.c (.int .i64 0)),none⟩] [0,1]) (.seq (.seq (.o5 [⟨(some 6),.mv (.t 0),none⟩,⟨(some 7),.len false (.t 6),none⟩,⟨(some 8),.mv (.c (.int .i64 0)),none⟩] [0,1,7,8]) (.block 0 (.loop [0,1,7,8] (ER n)) [])) (.seq (.o5 [⟨(some 4),.mv (.c (.int .i64 (-1))),none⟩] [4]) (.ret))))}
def Vk (g:Nat):fi:={np:=2,res:=[.tmp 4],pure:=true,body:=(.seq (.o5 [⟨(some 4),.mv (.c (.bool false)),none⟩] [0,1]) (.seq (.o5 [⟨(some 5),.mv (.t 0),none⟩,⟨(some 6),.mv (.t 1),none⟩,⟨(some 7),.call (.c (.fn g [] [])) [(.t 5),(.t 6)],none⟩,⟨(some 8),.bin .geq (.t 7) (.c (.int .i64 0)),none⟩,⟨(some 4),.mv (.t 8),none⟩] [4]) (.ret)))}
theorem Hu {f g sz k n:Nat} (hf:AP.A f=some (Vk g)) (hg:AP.A g=some (IZ sz)) {v:AV} {B:Nat→Bool} (hn:n<1125899906842624) (h:H) (ln:ji false v=some (.int .i64 n)) (ad:Int→AV) (el:Nat→AV) (ha:∀i:Int,0≤i∧i<n→fV sz v (.int .i64 i)=some (ad i)) (hl:∀i:Nat,i<n→bU true sz (ad i) h=some (el i))
 (hk:∀(g:H),Ext h g→g.next=h.next→g.floor=g.next→∀i,i<n→aS AP.A k [el i] g=some (.bool (B i),g)):∃b,aS AP.A f [v,.fn k [] []] h=some (.bool b,h)∧(b=false↔∀j,j<n→B j=false):=by
 have k1:∃j:Int,aS AP.A g [v,.fn k [] []] h.dY=some (.int .i64 j,h.dY)∧(j<0↔∀j,j<n→B j=false):=by
  have hl':∀i:Nat,i<n→bU true sz (ad i) h.dY.dY=some (el i):=fun i hi=>by
   have:=hl i hi
   unfold bU at this ⊢
   cases hq:ad i<;>rw[hq]at this<;>first|exact this|cases this
  rcases FT hn h.dY.dY ad el ha hl' (hk h.dY.dY (fun i c q=>q) rfl rfl) n 0 (by omega)with ⟨e',r1,r2⟩|⟨e',r1,j,r2,r3,r4⟩
  · have r1':Lp AP.A [0,1,7,8] (ER sz) [(0,v),(1,.fn k [] []),(7,.int .i64 n),(8,.int .i64 0)] h.dY.dY=some (.exit 0,e',h.dY.dY):=r1
    refine⟨-1,uo (fn:=IZ sz) (h2:=h.dY.dY) (e:=[(4,.int .i64 (-1))]) hg rfl rfl ?_ rfl rfl,by simp only[Int.reduceNeg,Int.reduceLT,true_iff];exact fun j hj=>r2 j (by omega) hj⟩
    clear ha hl hl' hk r1 r2
    simp (disch:=omega)only[go_sem,vN,IZ,ln,sF,r1']
  · have r1':Lp AP.A [0,1,7,8] (ER sz) [(0,v),(1,.fn k [] []),(7,.int .i64 n),(8,.int .i64 0)] h.dY.dY=some (.ret,e',h.dY.dY):=r1
    refine⟨j,uo (fn:=IZ sz) (h2:=h.dY.dY) (e:=e') (vs:=[.int .i64 j]) hg rfl rfl ?_ (by simp only[IZ,cM,nk,r2];rfl) rfl,⟨fun q=>by omega,fun q=>by rw[q j r3]at r4;cases r4⟩⟩
    clear ha hl hl' hk r1 r2
    simp (disch:=omega)only[go_sem,vN,IZ,ln,sF,r1']
 obtain⟨j,k1,k2⟩:=k1
 refine⟨decide (0≤j),uo (fn:=Vk g) (h2:=h.dY) (e:=[(4,.bool (decide (0≤j)))]) hf rfl rfl ?_ rfl rfl,by rw[←k2,decide_eq_false_iff_not];omega⟩
 clear ha hl hk k2 ln
 by_cases c:0≤j<;>simp (disch:=omega)only[go_sem,vN,Vk,k1]
def pk:List Nat→Nat
 |[]=>0
 |b::l=>b^^^(pk l* 2^8)
theorem LH (e : wR) : xy e = (wY e.name && (xj e && xM e) && (e.gone || (match yA e.method e.packed e.size with | some t => decide ((yo t : Int) = e.zo) | none => false))) := by
 unfold xy z6
 have hm:xO [e]=(wY e.name&&(xj e&&xM e)):=by simp [xO,yT,Cx]
 rw[hm]
 cases (wY e.name&&(xj e&&xM e))with
 |false=>rfl
 | true =>
   rw[if_neg (by decide)]
   cases e.gone with
   |true=>rfl
   | false =>
     rw[if_neg (by decide)]
     cases yA e.method e.packed e.size with
     |none=>rfl
     | some t =>
       dsimp only
       by_cases c:(yo t:Int)=e.zo
       · rw[if_pos c];simp [c]
       · rw[if_neg c];simp [c]
def wW (l:List ByteArray):List AV:=l.map .str
theorem wA (l:List ByteArray):(wW l).length=l.length:=by simp [wW]
theorem Rd.AH {h:H} {v:AV} {l:List ByteArray} (r:Rd h v (wW l)):∃ad:Int→AV,(∀i:Int,0≤i∧i<l.length→fV 1 v (.int .i64 i)=some (ad i))∧(∀(i:Int) (g:H),0≤i∧i<l.length→jF g (ad i)=some (ad i,g))∧
 ∀g:H,Ext h g→∀(i:Nat) (s:ByteArray),l[i]?=some s→bU false 1 (ad i) g=some (.str s):=by
 have r2:=r.Bb
 rw[wA]at r2
 obtain⟨ad,a1,_,a4,a3⟩:=r2.at_
 refine⟨fun i=>ad i 0,a1,fun i g hi=>a4 i 0 g hi,fun g hg i n hn=> ?_⟩
 have hi:i<l.length:=(uY.1 hn).1
 refine(a3 g hg).1 i 0 _ ⟨by omega,by omega⟩ ?_
 rw[xI,XD,Xq]
 simp [wW,hn]
structure wJ where
 m:Ae
 vd:AV
 vb:AV
 vf:AV
 vn:AV
 ve:AV
 fs:List xx
 es:List wc
def vH (x:wJ):List AV:=[.int .i64 x.m.kind,.int .i64 x.m.src,.int .i64 x.m.dst,.int .i64 x.m.root,x.vd,x.vb,x.vf,x.vn,x.ve]
structure zS (h:H) (x:wJ):Prop where
 rd:Rd h x.vd (ints x.m.wS)
 rb:Rd h x.vb (ints x.m.wX)
 rf:ED h x.vf x.fs
 hf:x.fs.map (·.1)=x.m.vR
 rn:Rd h x.vn (wW x.m.names)
 re:xo 9 h x.ve x.es.length (vW x.es)
 he:x.es.map (·.1)=x.m.wT
 ve:∀y∈x.es,xw h y∧y.2.sc=true
 vf:∀y∈x.fs,y.2.sc=true
 sc:x.vd.sc=true∧x.vb.sc=true∧x.vf.sc=true∧x.vn.sc=true∧x.ve.sc=true
 zd:x.m.wS.length<140737488355328
 zb:x.m.wX.length<140737488355328
 zf:x.m.vR.length<140737488355328
 zn:x.m.names.length<140737488355328
 ze:x.m.wT.length<140737488355328
 zs:(∀s∈x.m.names,s.size<1125899906842624)∧∀b∈x.m.vR,b.1.size<1125899906842624
theorem zS.mono {h g:H} {x:wJ} (o:zS h x) (e:Ext h g):zS g x:=
 ⟨o.rd.mono fun i c q=>e i c q,o.rb.mono fun i c q=>e i c q,o.rf.mono e,o.hf,o.rn.mono fun i c q=>e i c q,o.re.mono fun i c q=>e i c q,o.he,fun y hy=>⟨(o.ve y hy).1.mono e,(o.ve y hy).2⟩,o.vf,o.sc,o.zd,o.zb,o.zf,o.zn,o.ze,o.zs⟩
def vV:wJ:=⟨⟨0,0,0,0,[],[],[],[],[]⟩,.aQ,.aQ,.aQ,.aQ,.aQ,[],[]⟩
theorem xG {h:H} {x:wJ} (o:zS h x):AV.aB (vH x)=true:=by
 obtain⟨a,b,c,d,e⟩:=o.sc
 simp [vH,a,b,c,d,e]
theorem RK {m:Ae} (h:m.kind=0):yk m=decide (((((m.wS.length:Int)+m.wX.length)+m.vR.length)+m.names.length)+m.wT.length=0):=by
 rw[yk,h];generalize m.wS.length=a;generalize m.wX.length=b;generalize m.vR.length=c;generalize m.names.length=d;generalize m.wT.length=e;rw[Bool.eq_iff_iff];simp;omega
theorem RL {m:Ae} (h:m.kind=1):yk m=(decide (m.root=0)&&decide ((((0+(m.wX.length:Int))+m.vR.length)+m.names.length)+m.wT.length=0)):=by
 rw[yk,h];generalize m.wS.length=a;generalize m.wX.length=b;generalize m.vR.length=c;generalize m.names.length=d;generalize m.wT.length=e;rw[Bool.eq_iff_iff];simp;omega
theorem RM {m:Ae} (h:m.kind=2):yk m=(decide (m.root=0)&&decide (((((m.wS.length:Int)+0)+0)+m.names.length)+m.wT.length=0)):=by
 rw[yk,h];generalize m.wS.length=a;generalize m.wX.length=b;generalize m.vR.length=c;generalize m.names.length=d;generalize m.wT.length=e;rw[Bool.eq_iff_iff];simp;omega
theorem lean_3 {m:Ae} (h:m.kind=3):yk m=(decide (m.root=0)&&decide (((((m.wS.length:Int)+m.wX.length)+m.vR.length)+0)+m.wT.length=0)):=by
 rw[yk,h];generalize m.wS.length=a;generalize m.wX.length=b;generalize m.vR.length=c;generalize m.names.length=d;generalize m.wT.length=e;rw[Bool.eq_iff_iff];simp;omega
theorem RN {m:Ae} (h:m.kind=4):yk m=(decide (m.root=0)&&decide (((((m.wS.length:Int)+m.wX.length)+m.vR.length)+m.names.length)+0=0)):=by
 rw[yk,h];generalize m.wS.length=a;generalize m.wX.length=b;generalize m.vR.length=c;generalize m.names.length=d;generalize m.wT.length=e;rw[Bool.eq_iff_iff];simp;omega
theorem Gg : ∀ (l : List wR) (p : Option wR), (yT p l && l.all xy) = (xe (p.map (·.name)) (l.map (·.name)) && l.all xy)
 |[],_=>rfl
 | e :: l, p => by
   have ih:=Gg l (some e)
   rw[Xk,CC,yT,XG]
   cases hm:xy e with
   |false=>simp
   | true =>
     have hk:xj e=true∧xM e=true:=by
      rw[LH]at hm
      simp only[J3,u9]at hm
      exact hm.1.2
     have ek:yF p e=(wY e.name&&yG (p.map (·.name)) e.name):=by
      unfold yF
      rw[hk.1,hk.2]
      cases p<;>simp [yG]
     rw[ek,Xj,Bool.and_assoc,ih];simp only[Bool.and_assoc];rfl
theorem Mw {h:H} {v:AV} {l:List xx} (r:ED h v l):∃ad:Int→AV,(∀i:Int,0≤i∧i<l.length→fV 2 v (.int .i64 i)=some (ad i))∧(∀(i:Nat) (x:xx),l[i]?=some x→bU true 2 (ad i) h=some (.agg (IB x))∧aS AP.A 264 [ad i] h=some (.str x.1.1,h)):=by
 obtain⟨ad,a1,a2,a4,a3⟩:=r.rd.at_
 refine⟨fun i=>ad i 0,a1,fun i x hx=> ?_⟩
 have hi:i<l.length:=(uY.1 hx).1
 have hI:(0:Int)≤(i:Int)∧(i:Int)<l.length:=⟨by omega,by omega⟩
 have f:=a2 i 0 0 hI
 rw[Xq]at f
 have n:=a4 i 0 h hI
 have l0:=(a3 h fun _ _ q=>q).1 i 0 (.str x.1.1) hI (by
  rw[xI,show wO l=l.flatMap IB from rfl,yS yr hx (by omega)];rfl)
 refine⟨?_,tT (fn:=AP.f264) (h2:=h) (e:=[(2,.str x.1.1)]) (vs:=[.str x.1.1]) rfl rfl rfl ?_ rfl⟩
 · rw[(a3 h fun _ _ q=>q).2 _ hI,xI,show wO l=l.flatMap IB from rfl,Cy yr hx]
 · clear a1 a2 a3 a4
   simp (disch:=omega)only[go_sem,vN,AP.f264,n,f,l0]
theorem U5 {h:H} {v:AV} {l:List ByteArray} (r:Rd h v (wW l)):∃ad:Int→AV,(∀i:Int,0≤i∧i<l.length→fV 1 v (.int .i64 i)=some (ad i))∧∀(i:Nat) (s:ByteArray),l[i]?=some s→aS AP.A 267 [ad i] h=some (.str s,h):=by
 obtain⟨ad,a1,a4,a3⟩:=r.AH
 refine⟨ad,a1,fun i s hs=> ?_⟩
 have hi:i<l.length:=(uY.1 hs).1
 have n:=a4 i h ⟨by omega,by omega⟩
 have l0:=a3 h (Ext.refl h) i s hs
 refine tT (fn:=AP.f267) (h2:=h) (e:=[(2,.str s)]) (vs:=[.str s]) rfl rfl rfl ?_ rfl
 clear a1 a3 a4
 simp (disch:=omega)only[go_sem,vN,AP.f267,n,l0]
theorem Mx {h:H} {v:AV} {l:List wc} (r:xo 9 h v l.length (vW l)):∃ad:Int→AV,(∀i:Int,0≤i∧i<l.length→fV 9 v (.int .i64 i)=some (ad i))∧(∀(i:Nat) (x:wc),l[i]?=some x→bU true 9 (ad i) h=some (.agg (vT x.1 x.2))∧aS AP.A 270 [ad i] h=some (.str x.1.name,h)):=by
 obtain⟨ad,a1,a2⟩:=r.DY
 refine⟨fun i=>ad i 0,a1,fun i x hx=> ?_⟩
 obtain⟨pe,ld⟩:=a2 h (Ext.refl h) i x hx
 obtain⟨q,f1,f2⟩:=pe.tL
 have n:=pe.nil
 have l0:=f2 h (Ext.refl h) 0 _ rfl
 refine⟨ld,tT (fn:=AP.f270) (h2:=h) (e:=[(2,.str x.1.name)]) (vs:=[.str x.1.name]) rfl rfl rfl ?_ rfl⟩
 clear a1 a2 pe f2
 simp (disch:=omega)only[go_sem,vN,AP.f270,n,f1,l0]
theorem LV (h:H) {x:wJ} (o:zS h x):aS AP.A 263 [x.vf,.int .i64 0,.fn 264 [] []] h=some (.bool (xe none (x.m.vR.map (·.1))&&decide (x.m.vR.length≤6)),h):=by
 obtain⟨ad,a1,a2⟩:=Mw (o.mono (g:=h.dY) fun i c q=>q).rf
 have e:(x.m.vR.map (·.1)).length=x.fs.length:=by rw[←o.hf];simp
 have z:=o.zf
 have e2:x.m.vR.length=x.fs.length:=by rw[←o.hf];simp
 have:=E8 (f:=263) (sz:=2) (k:=264) rfl (v:=x.vf) (least:=0) (ns:=x.m.vR.map (·.1)) (by omega) (fun s hs=>by obtain⟨b,hb,rfl⟩:=Xl.1 hs;exact o.zs.2 b hb) h (by rw[e];exact o.rf.rd.len) ad (fun i hi=>a1 i (by rw[e]at hi;exact hi)) (fun i s hs=>by
  rw[←o.hf,List.map_map,vq]at hs
  cases hx:x.fs[i]? with
  |none=>rw[hx]at hs;cases hs
  |some y=>rw[hx]at hs;obtain rfl:=uS hs;exact(a2 i y hx).2)
 rw[this,e,e2,dt (by omega),Xj]
theorem LX (h:H) {x:wJ} (o:zS h x):aS AP.A 266 [x.vn,.int .i64 1,.fn 267 [] []] h=some (.bool (xe none x.m.names&&(decide (1≤x.m.names.length)&&decide (x.m.names.length≤6))),h):=by
 obtain⟨ad,a1,a2⟩:=U5 (o.mono (g:=h.dY) fun i c q=>q).rn
 have z:=o.zn
 have ln:=o.rn.Bb.len
 rw[wA]at ln
 have:=E8 (f:=266) (sz:=1) (k:=267) rfl (v:=x.vn) (least:=1) (ns:=x.m.names) (by omega) o.zs.1 h ln ad a1 a2
 rw[this]
 congr 5
 rw[decide_eq_decide];omega
theorem LW (h:H) {x:wJ} (o:zS h x):aS AP.A 269 [x.ve,.int .i64 1,.fn 270 [] []] h=some (.bool (xe none (x.m.wT.map (·.name))&&(decide (1≤x.m.wT.length)&&decide (x.m.wT.length≤6))),h):=by
 obtain⟨ad,a1,a2⟩:=Mx (o.mono (g:=h.dY) fun i c q=>q).re
 have e2:x.m.wT.length=x.es.length:=by rw[←o.he];simp
 have e:(x.m.wT.map (·.name)).length=x.es.length:=by simp [e2]
 have z:=o.ze
 have:=E8 (f:=269) (sz:=9) (k:=270) rfl (v:=x.ve) (least:=1) (ns:=x.m.wT.map (·.name)) (by omega) (fun s hs=>by
  obtain⟨b,hb,rfl⟩:=Xl.1 hs
  rw[←o.he]at hb
  obtain⟨y,hy,rfl⟩:=Xl.1 hb
  exact(o.ve y hy).1.nl) h (by rw[e];exact o.re.len) ad (fun i hi=>a1 i (by rw[e]at hi;exact hi)) (fun i s hs=>by
  rw[←o.he,List.map_map,vq]at hs
  cases hx:x.es[i]? with
  |none=>rw[hx]at hs;cases hs
  |some y=>rw[hx]at hs;obtain rfl:=uS hs;exact(a2 i y hx).2)
 rw[this,e,e2]
 congr 5
 rw[decide_eq_decide];omega
theorem Jv (h:H) (s:ByteArray) (v:AV) (l:List Int) (hv:v.sc=true) (rd:Rd h v (ints l)) (hl:l.length<1125899906842624):aS AP.A 262 [.agg [.str s,v]] h=some (.bool (!xn l),h):=by
 obtain⟨h1,eh1⟩:∃g,g=h.dY.alloc [.str s,v]:=⟨_,rfl⟩
 have x1:Ext h h1:=fun i c q=>by rw[eh1];exact((Ext.refl h.dY).alloc _) i c q
 have g1:h1.get h.next=some [.str s,v]:=by rw[eh1];exact vO rfl
 have n0:h.dY.next=h.next:=rfl
 have k1:=Il h1 v l (rd.mono fun i c q=>x1 i c q) hl
 refine uo (fn:=AP.f262) (h2:=h1) (e:=[(2,.bool (!xn l))]) rfl rfl rfl ?_ rfl rfl
 clear rd x1
 simp (disch:=omega)only[go_sem,vN,AP.f262,hv,n0,←eh1,g1,k1]
theorem Lg (h : H) {x : wJ} (o : zS h x) : aS AP.A 265 [x.vf, .fn 262 [] []] h = some (.bool (!x.m.vR.all fun b => xn b.2), h) := by
 obtain⟨ad,a1,a2⟩:=Mw o.rf
 have z:=o.zf
 have e2:x.m.vR.length=x.fs.length:=by rw[←o.hf];simp
 obtain⟨b,k1,k2⟩:=Hu (f:=265) (g:=299) (sz:=2) (k:=262) (n:=x.fs.length) (B:=fun i=>match x.fs[i]? with|some y=> !xn y.1.2|none=>false) rfl rfl (v:=x.vf) (by omega) h o.rf.rd.len ad (fun i=>match x.fs[i]? with|some y=>.agg (IB y)|none=>.bot) a1 (fun i hi=>by
  obtain⟨y,hy⟩:∃y,x.fs[i]?=some y:=⟨x.fs[i],by simp⟩
  rw[hy];exact(a2 i y hy).1) (fun g hg _ _ i hi=>by
  obtain⟨y,hy⟩:∃y,x.fs[i]?=some y:=⟨x.fs[i],by simp⟩
  have hm:=vi hy
  rw[hy]
  obtain⟨r1,r2⟩:=o.rf.vec y hm
  exact Jv g y.1.1 y.2 y.1.2 (o.vf y hm) (r1.mono fun i c q=>hg i c q) r2)
 rw[k1]
 congr 3
 cases hb:b with
 | false =>
   have:=k2.1 hb
   have q:(x.m.vR.all fun b=>xn b.2)=true:=by
    rw[Xv]
    intro c hc
    rw[←o.hf]at hc
    obtain⟨y,hy,rfl⟩:=Xl.1 hc
    obtain⟨i,hi,e⟩:=List.mem_iff_getElem.1 hy
    have:=this i hi
    rw[Xt hi,e]at this
    simpa using this
   rw[q];rfl
 | true =>
   cases q:(x.m.vR.all fun b=>xn b.2)with
   |false=>rfl
   | true =>
     have:b=false:=k2.2 fun j hj=>by
      rw[Xt hj]
      rw[Xv]at q
      have:=q (x.fs[j]).1 (by rw[←o.hf];exact Xl.2 ⟨_,List.getElem_mem hj,rfl⟩)
      simpa using this
     rw[this]at hb;cases hb
theorem Jw (h:H) (hf:h.floor≤h.next) (e:wR) (v:AV) (hv:v.sc=true) (ok:xw h (e,v)):aS AP.A 268 [.agg (vT e v)] h=some (.bool (!xy e),h):=by
 obtain⟨E,hE⟩:∃E,E=vT e v:=⟨_,rfl⟩
 have lE:E.length=9:=by rw[hE];rfl
 have cE:AV.aB E=true:=by rw[hE];exact yx hv
 have rE:ij true 9 E 0=some (.agg E):=by rw[hE];rfl
 obtain⟨h1,eh1⟩:∃g,g=h.dY.alloc E:=⟨_,rfl⟩
 have x1:Ext h h1:=fun i c q=>by rw[eh1];exact((Ext.refl h.dY).alloc _) i c q
 have g1:h1.get h.next=some E:=by rw[eh1];exact vO rfl
 have n0:h.dY.next=h.next:=rfl
 have k1:=GN h1 (by rw[eh1];simp) e v hv (ok.mono x1)
 rw[←hE]at k1 ⊢
 refine uo (fn:=AP.f268) (h2:=h1) (e:=[(2,.bool (!xy e))]) rfl rfl rfl ?_ rfl rfl
 clear ok x1 hE
 simp (disch:=omega)only[go_sem,vN,AP.f268,lE,cE,n0,←eh1,g1,rE,k1]
theorem Lh (h : H) {x : wJ} (o : zS h x) : aS AP.A 187 [x.ve, .fn 268 [] []] h = some (.bool (!x.m.wT.all xy), h) := by
 obtain⟨ad,a1,a2⟩:=Mx o.re
 have z:=o.ze
 have e2:x.m.wT.length=x.es.length:=by rw[←o.he];simp
 obtain⟨b,k1,k2⟩:=Hu (f:=187) (g:=191) (sz:=9) (k:=268) (n:=x.es.length) (B:=fun i=>match x.es[i]? with|some y=> !xy y.1|none=>false) rfl rfl (v:=x.ve) (by omega) h o.re.len ad (fun i=>match x.es[i]? with|some y=>.agg (vT y.1 y.2)|none=>.bot) a1 (fun i hi=>by
  obtain⟨y,hy⟩:∃y,x.es[i]?=some y:=⟨x.es[i],by simp⟩
  rw[hy];exact(a2 i y hy).1) (fun g hg _ hf i hi=>by
  obtain⟨y,hy⟩:∃y,x.es[i]?=some y:=⟨x.es[i],by simp⟩
  have hm:=vi hy
  rw[hy]
  exact Jw g (by omega) y.1 y.2 (o.ve y hm).2 ((o.ve y hm).1.mono hg))
 rw[k1]
 congr 3
 cases hb:b with
 | false =>
   have:=k2.1 hb
   have q:(x.m.wT.all xy)=true:=by
    rw[Xv]
    intro c hc
    rw[←o.he]at hc
    obtain⟨y,hy,rfl⟩:=Xl.1 hc
    obtain⟨i,hi,e⟩:=List.mem_iff_getElem.1 hy
    have:=this i hi
    rw[Xt hi,e]at this
    simpa using this
   rw[q];rfl
 | true =>
   cases q:(x.m.wT.all xy)with
   |false=>rfl
   | true =>
     have:b=false:=k2.2 fun j hj=>by
      rw[Xt hj]
      rw[Xv]at q
      have:=q (x.es[j]).1 (by rw[←o.he];exact Xl.2 ⟨_,List.getElem_mem hj,rfl⟩)
      simpa using this
     rw[this]at hb;cases hb
def MX:Ty:=.st [.str,FW]
def Mp:Ty:=.sl MX 2 40
def MQ:Ty:=.sl .str 1 16
def LL:Ty:=.st [Ad,Ad,Ad,Ad,FW,FW,Mp,MQ,JK]
theorem Ma {ess:List (List AV)} (h:∀es,es∈ess→Sh reachBytes .str es):∃l:List ByteArray,l.length=ess.length∧ess.flatten=wW l∧∀x∈l,x.size<140737488355328+1:=by
 induction ess with
 |nil=>exact⟨[],rfl,rfl,fun x hx=>by cases hx⟩
 | cons y ess ih =>
   obtain⟨s,rfl,q⟩:=Fa (h y (by simp))
   obtain⟨l,h1,h2,h3⟩:=ih fun es q=>h es (by simp [q])
   refine⟨s::l,by simp [h1],by rw[List.flatten_cons,h2];rfl,fun x hx=> ?_⟩
   rcases vC.1 hx with rfl|hx
   · omega
   · exact h3 x hx
theorem Mb {avs:List AV} (h:Sh reachBytes MQ avs):∃(v:AV) (l:List ByteArray),avs=[v]∧v.sc=true∧(∀g,Rd g v (wW l))∧(∀x∈l,x.size<140737488355328+1)∧l.length<9000000000000:=by
 cases h with
 |aQ=>exact⟨.aQ,[],rfl,rfl,fun g=>⟨rfl,fun s q=>(by cases q)⟩,fun x hx=>(by cases hx),by simp⟩
 | aW ess h hz hb =>
   obtain⟨l,h1,h2,h3⟩:=Ma h
   have hl:ess.flatten.length=ess.length:=by rw[h2,wA,h1]
   refine⟨_,l,rfl,rfl,fun g=> ?_,h3, ?_⟩
   · rw[h2,←h1]
     refine⟨?_,fun s q=>by cases q⟩
     simp only[aT,if_true,vk]
     rw[if_pos (by rw[wA];omega),Xf,vA (by rw[wA];omega),wA]
   · rw[h1];unfold reachBytes at hb;omega
theorem Se {avs:List AV} (h:Sh reachBytes MX avs):∃(n:ByteArray) (vec:List Int) (v:AV),avs=[.str n,v]∧v.sc=true∧(∀g,Rd g v (ints vec))∧vec.length<20000000000000∧n.size<140737488355328+1:=by
 obtain⟨a1,r1,rfl,s1,h1⟩:=wV (H7 h)
 obtain⟨a2,r2,rfl,s2,h2⟩:=wV h1
 obtain rfl:=CE h2
 obtain⟨n,rfl,z1⟩:=Fa s1
 obtain⟨v,l,rfl,hv,rd,z3⟩:=CF s2
 exact⟨n,l,v,rfl,hv,rd,z3,by omega⟩
theorem L6 {ess:List (List AV)} (h:∀es,es∈ess→Sh reachBytes MX es):∃l:List xx,l.length=ess.length∧ess.flatten=wO l∧∀x∈l,x.2.sc=true∧(∀g,Rd g x.2 (ints x.1.2))∧x.1.2.length<20000000000000∧x.1.1.size<140737488355328+1:=by
 induction ess with
 |nil=>exact⟨[],rfl,rfl,fun x hx=>by cases hx⟩
 | cons y ess ih =>
   obtain⟨n,vec,v,rfl,hv,rd,hl,hs⟩:=Se (h y (by simp))
   obtain⟨l,h1,h2,h3⟩:=ih fun es q=>h es (by simp [q])
   refine⟨((n,vec),v)::l,by simp [h1],by rw[List.flatten_cons,h2];rfl,fun x hx=> ?_⟩
   rcases vC.1 hx with rfl|hx
   · exact⟨hv,rd,hl,hs⟩
   · exact h3 x hx
theorem zU (l:List xx):(wO l).length=l.length* 2:=by
 induction l with
 |nil=>rfl
 |cons x l ih=>show(IB x++wO l).length=_;rw[vF,ih,yr,W9];omega
theorem L7 {avs:List AV} (h:Sh reachBytes Mp avs):∃(v:AV) (l:List xx),avs=[v]∧v.sc=true∧(∀g,ED g v l)∧(∀x∈l,x.2.sc=true∧x.1.2.length<20000000000000∧x.1.1.size<140737488355328+1)∧l.length<3600000000000:=by
 cases h with
 |aQ=>exact⟨.aQ,[],rfl,rfl,fun g=>⟨⟨rfl,rfl,fun s q=>(by cases q)⟩,fun x hx=>(by cases hx)⟩,fun x hx=>(by cases hx),by simp⟩
 | aW ess h hz hb =>
   obtain⟨l,h1,h2,h3⟩:=L6 h
   have hl:ess.flatten.length=ess.length* 2:=by rw[h2,zU,h1]
   refine⟨_,l,rfl,rfl,fun g=>⟨?_,fun x hx=>⟨(h3 x hx).2.1 g,by have:=(h3 x hx).2.2.1;omega⟩⟩,fun x hx=>⟨(h3 x hx).1,(h3 x hx).2.2⟩, ?_⟩
   · rw[h2,←h1]
     refine⟨?_,by rw[zU],fun s q=>by cases q⟩
     simp only[aT,if_true,vk]
     rw[if_pos (by rw[zU];omega),Xf,vA (by rw[zU];omega)]
   · rw[h1];unfold reachBytes at hb;omega
structure VC (m:Ae):Prop where
 zd:m.wS.length<20000000000000
 zb:m.wX.length<20000000000000
 zn:m.names.length<9000000000000
 zf:m.vR.length<3600000000000
 ze:m.wT.length<1353300000000
 wf:∀b∈m.vR,b.2.length<20000000000000
 we:∀e∈m.wT,e.vec.length<20000000000000
theorem Si {avs:List AV} (h:Sh reachBytes LL avs):∃x:wJ,avs=vH x∧(∀g,zS g x)∧VC x.m:=by
 obtain⟨a1,r1,rfl,s1,h1⟩:=wV (H7 h)
 obtain⟨a2,r2,rfl,s2,h2⟩:=wV h1
 obtain⟨a3,r3,rfl,s3,h3⟩:=wV h2
 obtain⟨a4,r4,rfl,s4,h4⟩:=wV h3
 obtain⟨a5,r5,rfl,s5,h5⟩:=wV h4
 obtain⟨a6,r6,rfl,s6,h6⟩:=wV h5
 obtain⟨a7,r7,rfl,s7,h7⟩:=wV h6
 obtain⟨a8,r8,rfl,s8,h8⟩:=wV h7
 obtain⟨a9,r9,rfl,s9,h9⟩:=wV h8
 obtain rfl:=CE h9
 obtain⟨k,rfl,_⟩:=yU s1
 obtain⟨f,rfl,_⟩:=yU s2
 obtain⟨t,rfl,_⟩:=yU s3
 obtain⟨r,rfl,_⟩:=yU s4
 obtain⟨vd,ld,rfl,sd,rd,zd⟩:=CF s5
 obtain⟨vb,lb,rfl,sb,rb,zb⟩:=CF s6
 obtain⟨vf,lf,rfl,sf,rf,wf,zf⟩:=L7 s7
 obtain⟨vn,ln,rfl,sn,rn,wn,zn⟩:=Mb s8
 obtain⟨ve,le,rfl,se,re,we,ze⟩:=H6 s9
 have mf:∀b∈lf.map (·.1),b.2.length<20000000000000∧b.1.size<140737488355328+1:=fun b hb=>by
  obtain⟨y,hy,rfl⟩:=Xl.1 hb
  exact(wf y hy).2
 refine⟨⟨⟨k,f,t,r,ld,lb,lf.map (·.1),ln,le.map (·.1)⟩,vd,vb,vf,vn,ve,lf,le⟩,rfl,fun g=>⟨rd g,rb g,rf g,rfl,rn g,re g,rfl,fun y hy=>⟨(we y hy).2.1 g,(we y hy).1⟩,fun y hy=>(wf y hy).1,⟨sd,sb,sf,sn,se⟩, ?_, ?_, ?_, ?_, ?_, ?_, ?_⟩, ?_⟩
 · show ld.length<_;omega
 · show lb.length<_;omega
 · show(lf.map (·.1)).length<_;rw[Xd];omega
 · show ln.length<_;omega
 · show(le.map (·.1)).length<_;rw[Xd];omega
 · exact fun s hs=>by have:=wn s hs;omega
 · exact fun b hb=>by have:=(mf b hb).2;omega
 · refine⟨zd,zb,zn, ?_, ?_,fun b hb=>(mf b hb).1,fun e he=> ?_⟩
   · show(lf.map (·.1)).length<_;rw[Xd];exact zf
   · show(le.map (·.1)).length<_;rw[Xd];exact ze
   · obtain⟨y,hy,rfl⟩:=Xl.1 he
     exact(we y hy).2.2
theorem GK {A : bg} {f g : Nat} {fn gn : fi} (ef : A f = some fn) (eg : A g = some gn) (hp : fn.pure = true) (gp : gn.pure = false) (hb : fn.body = gn.body) (hn : fn.np = gn.np) (hr : fn.res = gn.res) {args : List AV} {h h' : H} {v v' : AV}
 (k:aS A g args h.dY=some (v,h')) (s:snap h'.get h.next 16 true v=some v'):aS A f args h=some (v',h):=by
 obtain⟨n,hn'⟩:=eQ k
 cases n with
 |zero=>cases hn'
 | succ d =>
   refine mK (n:=d+1) ?_
   simp only[aU,ef,eg,uZ,fg,hn,hb,hp,gp,if_true]at hn' ⊢
   split at hn'
   · rename_i c
     rw[if_pos c]
     have e0:(if(false:Bool)=true then h.dY.dY else h.dY)=h.dY:=rfl
     rw[e0]at hn'
     cases hx:aM (aU A d) (aK d) gn.body (params 0 args) h.dY with
     |none=>rw[hx]at hn';cases hn'
     | some r =>
       rw[hx]at hn'
       rw[uZ]at hn' ⊢
       obtain⟨x,e,hh⟩:=r
       unfold fin at hn' ⊢
       cases x with
       |exit m=>cases hn'
       | normal =>
         simp only[hr,hp,gp,if_true]at hn' ⊢
         cases hq:cM e hh gn.res with
         |none=>rw[hq]at hn';cases hn'
         | some vs =>
           rw[hq,uZ]at hn'
           have:=uS hn'
           obtain⟨rfl,rfl⟩:=uU this
           rw[uZ]
           unfold g9
           rw[s];rfl
       | ret =>
         simp only[hr,hp,gp,if_true]at hn' ⊢
         cases hq:cM e hh gn.res with
         |none=>rw[hq]at hn';cases hn'
         | some vs =>
           rw[hq,uZ]at hn'
           have:=uS hn'
           obtain⟨rfl,rfl⟩:=uU this
           rw[uZ]
           unfold g9
           rw[s];rfl
   · cases hn'
theorem JC (h:H) (e:wR) (v:AV) (hv:v.sc=true) (ok:xw h (e,v)) (h0:0<e.vec.length) (hb:e.vec.length<20000000000000):aS AP.A 165 [.agg (vT e v)] h=some (.agg (vT e (wB e.vec)),h):=by
 obtain⟨h',v',k,q1,q2,q3,q4,q5,q6⟩:=Hv h.dY (u6 _) e v hv (ok.mono fun i c q=>q) hb
 rw[if_neg (by intro c;rw[c]at h0;simp at h0)]at q1
 subst q1
 refine GK (fn:=AP.f165) (gn:=AP.f92) rfl rfl rfl rfl rfl rfl rfl k ?_
 have g:=q6 h0
 have s1:snap h'.get h.next 14 true (.aD (h.next+3) 0 e.vec.length 1)=some (wB e.vec):=by
  have o:wo 1 ⟨h'.next,h.next,h'.cG,h'.len⟩ (.aD (h.next+3) 0 e.vec.length 1) e.vec.length (ints e.vec):=⟨by rw[pP];omega,.inr ⟨h.next+3,rfl,g,by show h.next≤_;omega,h0⟩⟩
  have:=o.xV (fl:=h.next) (m:=12) (t:=true) (u6 _)
  have e:BE 1 e.vec.length (ints e.vec)=wB e.vec:=by unfold BE wB;rw[if_neg (by omega)]
  rw[e]at this;exact this
 have e1:h.dY.next=h.next:=rfl
 rw[e1]
 show(fK (snap h'.get h.next 15 true) (vT e (.aD (h.next+3) 0 e.vec.length 1))).bind _=_
 have s1':snap h'.get h.next 15 true (.aD (h.next+3) 0 e.vec.length 1)=some (wB e.vec):=by
  have o:wo 1 ⟨h'.next,h.next,h'.cG,h'.len⟩ (.aD (h.next+3) 0 e.vec.length 1) e.vec.length (ints e.vec):=⟨by rw[pP];omega,.inr ⟨h.next+3,rfl,g,by show h.next≤_;omega,h0⟩⟩
  have:=o.xV (fl:=h.next) (m:=13) (t:=true) (u6 _)
  have e:BE 1 e.vec.length (ints e.vec)=wB e.vec:=by unfold BE wB;rw[if_neg (by omega)]
  rw[e]at this;exact this
 have e2:fK (snap h'.get h.next 15 true) (vT e (.aD (h.next+3) 0 e.vec.length 1))=some (vT e (wB e.vec)):=by
  unfold vT
  simp only[fK,s1',uZ]
  rfl
 rw[e2];rfl
def v9 (s:ByteArray):List wR→Nat×Bool
 |[]=>(0,false)
 |e::r=>if Op.bytesLess e.name.toList s.toList then((v9 s r).1+1,(v9 s r).2)else(0,e.name.toList==s.toList)
theorem HW {v : AV} {l : List wc} (s : ByteArray) (hl : l.length < 1125899906842624) (h : H) (b : Nat) (hb : h.get b = some [v]) (rd : xo 9 h v l.length (vW l)) : ∀ (q p : List wc), l = p ++ q →
 (∃e',Lp AP.A [1,2,6] AP.f208L0 [(1,.str s),(2,.aC b 0),(6,.int .i64 p.length)] h=some (.exit 0,e',h)∧look e' 2=.aC b 0∧v9 s (q.map (·.1))=(q.length,false))∨
 (∃e',Lp AP.A [1,2,6] AP.f208L0 [(1,.str s),(2,.aC b 0),(6,.int .i64 p.length)] h=some (.ret,e',h)∧look e' 4=.int .i64 (p.length+(v9 s (q.map (·.1))).1:Nat)∧look e' 5=.bool (v9 s (q.map (·.1))).2)
 | [], p, hp => by
   rw[Xe]at hp;subst hp
   have ln:=rd.len
   refine .inl ⟨[(1,.str s),(2,.aC b 0),(6,.int .i64 l.length),(11,.bool false)],tF ?_,rfl,rfl⟩
   simp (disch:=omega)only[go_sem,vN,AP.f208L0,hb,ln]
 | x :: q, p, hp => by
   have hlen:l.length=p.length+(q.length+1):=by rw[hp];simp
   have hx:l[p.length]?=some x:=by rw[hp];simp
   have ln:=rd.len
   obtain⟨ad,a1,a2⟩:=rd.DY
   have b1:=a1 p.length ⟨by omega,by omega⟩
   obtain⟨pe,b2⟩:=a2 h (Ext.refl h) p.length x hx
   obtain⟨qq,f1,f2⟩:=pe.tL
   have l0:=f2 h (Ext.refl h) 0 _ rfl
   have w1:((p++[x]).length:Int)=(p.length:Int)+1:=by simp
   have w2:(p++[x]).length=p.length+1:=by simp
   rw[Xk,v9]
   cases hc:Op.bytesLess x.1.name.toList s.toList with
   | true =>
     have cmp:br .geq (.str x.1.name) (.str s)=some (.bool false):=by
      show some (AV.bool (!(Op.bytesLess x.1.name.toList s.toList)))=_
      rw[hc];rfl
     have step:aM (aS AP.A) bB AP.f208L0 (ax [(1,.str s),(2,.aC b 0),(6,.int .i64 p.length)] [1,2,6]) h=some (.normal,[(1,.str s),(2,.aC b 0),(6,.int .i64 ((p.length:Int)+1))],h):=by
      clear rd a1 a2 pe f2 hp b2
      simp (disch:=omega)only[go_sem,vN,AP.f208L0,hb,ln,b1,f1,l0,cmp]
     rw[if_pos rfl]
     rcases HW s hl h b hb rd q (p++[x]) (by rw[hp];simp)with ⟨e',r1,r2,r3⟩|⟨e',r1,r2,r3⟩
     · rw[w1]at r1
       exact .inl ⟨e',tG step r1,r2,by rw[r3];simp⟩
     · rw[w1]at r1
       refine .inr ⟨e',tG step r1,by rw[r2,w2];congr 2;omega,r3⟩
   | false =>
     have cmp:br .geq (.str x.1.name) (.str s)=some (.bool true):=by
      show some (AV.bool (!(Op.bytesLess x.1.name.toList s.toList)))=_
      rw[hc];rfl
     have cm2:br .eql (.str x.1.name) (.str s)=some (.bool (x.1.name.toList==s.toList)):=rfl
     rw[if_neg (by decide)]
     refine .inr ⟨[(4,.int .i64 p.length),(5,.bool (x.1.name.toList==s.toList))],uc ?_,rfl,rfl⟩
     clear rd a1 a2 pe f2 hp b2
     simp (disch:=omega)only[go_sem,vN,AP.f208L0,hb,ln,b1,f1,l0,cmp,cm2]
theorem HX (h:H) (v:AV) (l:List wc) (s:ByteArray) (hvs:v.sc=true) (hn:l.length<1125899906842624) (rd:xo 9 h v l.length (vW l)):aS AP.A 208 [.agg [v],.str s] h=some (.bP [.int .i64 (v9 s (l.map (·.1))).1,.bool (v9 s (l.map (·.1))).2],h):=by
 obtain⟨h1,eh1⟩:∃g,g=h.dY.alloc [v]:=⟨_,rfl⟩
 have hx0:Ext h h1:=by rw[eh1];exact fun i c q=>((Ext.refl h.dY).alloc _) i c q
 have hn0:h.dY.next=h.next:=rfl
 have g1:h1.get h.next=some [v]:=by rw[eh1];exact vO rfl
 have rd1:=rd.mono fun i c q=>hx0 i c q
 have ln:=rd1.len
 rcases HW s hn h1 h.next g1 rd1 l [] rfl with ⟨e',r1,r2,r3⟩|⟨e',r1,r2,r3⟩
 · have r1':Lp AP.A [1,2,6] AP.f208L0 [(1,.str s),(2,.aC h.next 0),(6,.int .i64 0)] h1=some (.exit 0,e',h1):=r1
   rw[r3]
   refine uo (fn:=AP.f208) (h2:=h1) (e:=[(4,.int .i64 l.length),(5,.bool false)]) (vs:=[.int .i64 l.length,.bool false]) rfl rfl rfl ?_ rfl rfl
   clear rd rd1 hx0 r1 r3
   simp (disch:=omega)only[go_sem,vN,AP.f208,hvs,hn0,←eh1,g1,ln,sF,r1',r2]
 · have r1':Lp AP.A [1,2,6] AP.f208L0 [(1,.str s),(2,.aC h.next 0),(6,.int .i64 0)] h1=some (.ret,e',h1):=r1
   rw[show([]:List wc).length+(v9 s (l.map (·.1))).1=(v9 s (l.map (·.1))).1 by simp]at r2
   generalize v9 s (l.map (·.1))=P at *
   refine uo (fn:=AP.f208) (h2:=h1) (e:=e') (vs:=[.int .i64 P.1,.bool P.2]) rfl rfl rfl ?_ (by simp only[AP.f208,cM,nk,r2,r3];rfl) rfl
   clear rd rd1 hx0 r1 r2 r3
   simp (disch:=omega)only[go_sem,vN,AP.f208,hvs,hn0,←eh1,g1,ln,sF,r1']
def Kk (bs:List Nat):List Nat:=Kh bs 0 []
structure Wr (h:H) (w:Nat) (bs:List Nat) (ov:AV):Prop where
 get:h.get w=some [ov,.int .i64 (bs.length:Nat)]
 own:wo 1 h ov (Kk bs).length (zD (Kk bs))
 fl:h.floor≤w
 W3:h.floor≤h.next
 ne:ov.id?≠some w
 W1:Wy (Kk bs)
structure Ss (h:H) (w:Nat) (ov:AV) (h':H) (ov':AV):Prop where
 floor:h'.floor=h.floor
 next:h.next≤h'.next
 xt:∀i,i<h.next→i≠w→ov.id?≠some i→h'.get i=h.get i
 ids:∀j,ov'.id?=some j→ov.id?=some j∨h.next≤j
theorem Ss.refl (h:H) (w:Nat) (ov:AV):Ss h w ov h ov:=⟨rfl,u6 _,fun _ _ _ _=>rfl,fun _ h=>.inl h⟩
theorem Ss.trans {h1 h2 h3:H} {w:Nat} {o1 o2 o3:AV} (a:Ss h1 w o1 h2 o2) (b:Ss h2 w o2 h3 o3):Ss h1 w o1 h3 o3:=
 ⟨by rw [b.floor, a.floor], vD a.next b.next, fun i h hw ho => by
   rw[b.xt i (by have:=a.next;omega) hw (fun q=>by rcases a.ids i q with q|q;exact ho q;omega),a.xt i h hw ho],
  fun j h=>by
   rcases b.ids j h with q|q
   · exact a.ids j q
   · exact .inr (vD a.next q)⟩
theorem wo.hi {h:H} {w:AV} {k n:Nat} {cs:List AV} (o:wo n h w k cs) (hn:0<n) {m:Nat} (hm:m≤k):∃u,sq h n w none (some (.int .i64 m)) none=some u∧aT h n u=some (m,cs.take (m* n))∧u.sc=true:=by
 obtain⟨l,⟨rfl,rfl⟩|⟨id,rfl,hg,hf,hk⟩⟩:=o
 · obtain rfl:m=0:=by omega
   obtain rfl:cs=[]:=Xm (by omega)
   exact⟨.aQ,rfl,by simp [aT],rfl⟩
 · have d:(cs.length-0)/n=k:=by rw[l,Nat.sub_zero,Nat.mul_div_cancel _ hn]
   refine⟨.aD id 0 m n, ?_, ?_,rfl⟩
   · have:=Va (h:=h) (n:=n) (p:=id) (o:=0) (k:=k) (m:=m) hg hn (by omega) ⟨by omega,by rw[d];simpa using hm⟩
     rw[this];rfl
   · simp only[aT,if_true,hg,uZ,vk,Xf]
     rw[if_pos (by rw[l];exact vh _ hm)]
theorem wo.lo {h : H} {w : AV} {k n : Nat} {cs : List AV} (o : wo n h w k cs) (hn : 0 < n) {m : Nat} (hm : m ≤ k) : ∃ u, sq h n w (some (.int .i64 m)) none none = some u ∧ aT h n u = some (k - m, cs.drop (m * n)) ∧ u.sc = true := by
 obtain⟨l,⟨rfl,rfl⟩|⟨id,rfl,hg,hf,hk⟩⟩:=o
 · obtain rfl:m=0:=by omega
   obtain rfl:cs=[]:=Xm (by omega)
   exact⟨.aQ,rfl,by simp [aT],rfl⟩
 · have d:cs.length/n=k:=by rw[l,Nat.mul_div_cancel _ hn]
   have mk:=vh n hm
   refine⟨.aD id (0+m* n) (k-m) n, ?_, ?_,rfl⟩
   · simp only[sq,hn,and_self,if_true,hg,uZ,aA,Nat.sub_zero,d]
     rw[if_pos ⟨by omega,u6 _⟩]
     have h3:kz (.int .i64 m) k=some m:=by
      simp only[kz,nM,uZ]
      rw[if_pos]
      · rfl
      · omega
     simp [h3]
   · simp only[aT,if_true,hg,uZ,vk]
     have e:m* n+(k-m)* n=k* n:=by rw[←vB];congr 1;omega
     rw[if_pos (by omega)]
     rw[vA]
     rw[List.length_drop];omega
def FP (e:wR):wc:=(e,wB e.vec)
theorem Gk (g:Nat→Option (List AV)) (fl m:Nat) (t:Bool):∀L:List wR,fK (snap g fl (m+1) t) (vW (L.map FP))=some (vW (L.map FP))
 |[]=>rfl
 | e :: L => by
   show fK (snap g fl (m+1) t) (.str e.name:: .bool e.gone::wB e.vec:: .int .i64 e.wx:: .int .i64 e.node:: .int .i64 e.method:: .str e.packed:: .int .i64 e.size:: .int .i64 e.zo::vW (L.map FP))=_
   have ih:=Gk g fl m t L
   have a:∀v,v=AV.str e.name∨v=.bool e.gone∨v=wB e.vec∨v=.int .i64 e.wx∨v=.int .i64 e.node∨v=.int .i64 e.method∨v=.str e.packed∨v=.int .i64 e.size∨v=.int .i64 e.zo→snap g fl (m+1) t v=some v:=by
    rintro v (rfl|rfl|rfl|rfl|rfl|rfl|rfl|rfl|rfl)<;>rfl
   simp only[fK,a _ (.inl rfl),a _ (.inr (.inl rfl)),a _ (.inr (.inr (.inl rfl))),a _ (.inr (.inr (.inr (.inl rfl)))),a _ (.inr (.inr (.inr (.inr (.inl rfl))))),a _ (.inr (.inr (.inr (.inr (.inr (.inl rfl)))))),a _ (.inr (.inr (.inr (.inr (.inr (.inr (.inl rfl))))))),a _ (.inr (.inr (.inr (.inr (.inr (.inr (.inr (.inl rfl)))))))),a _ (.inr (.inr (.inr (.inr (.inr (.inr (.inr (.inr rfl)))))))),ih,uZ]
   rfl
def GV (L:List wR):AV:=BE 9 L.length (vW (L.map FP))
theorem HK (L:List wR):(GV L).sc=true:=by unfold GV BE;split<;>rfl
theorem HJ (g:H) (L:List wR):xo 9 g (GV L) (L.map FP).length (vW (L.map FP)):=by
 have:=A6 (n:=9) (k:=L.length) (h:=g) (cs:=vW (L.map FP)) (by rw[zJ,Xd])
 rw[Xd];exact this
theorem wo.KC {h:H} {v:AV} {L:List wR} {fl m:Nat} {t:Bool} (o:wo 9 h v L.length (vW (L.map FP))) (hf:fl≤h.floor):snap h.get fl (m+2) t v=some (GV L):=by
 unfold GV BE
 obtain⟨q0,⟨q1,q2⟩|⟨j,q1,q2,q3,q4⟩⟩:=o
 · rw[q1,q2];rfl
 · rw[q1,if_neg (by omega)]
   show(if j<fl then _ else _)=_
   rw[if_neg (by omega),q2,uZ,if_pos (by omega),Xf,vA (by omega),Gk]
   rfl
theorem AD:∀{a b c:List UInt8},Op.bytesLess a b=true→Op.bytesLess b c=true→Op.bytesLess a c=true
 |_,[],_,h,_=>by simp [Op.bytesLess]at h
 |_,_::_,[],_,h=>by simp [Op.bytesLess]at h
 |[],y::b,z::c,_,_=>rfl
 | x :: a, y :: b, z :: c, h1, h2 => by
   simp only[Op.bytesLess,vv,Xh,u9,beq_iff_eq]at h1 h2 ⊢
   rcases h1 with h1|⟨rfl,h1⟩
   · rcases h2 with h2|⟨rfl,h2⟩
     · exact .inl (UInt8.lt_trans h1 h2)
     · exact .inl h1
   · rcases h2 with h2|⟨rfl,h2⟩
     · exact .inl h2
     · exact .inr ⟨rfl,AD h1 h2⟩
def Sz (l:List wR):Prop:=∀(i j:Nat) (x y:wR),i<j→l[i]?=some x→l[j]?=some y→Op.bytesLess x.name.toList y.name.toList=true
theorem Gf : ∀ {l : List wR} {p : wR}, yT (some p) l = true → (∀ x ∈ l, Op.bytesLess p.name.toList x.name.toList = true) ∧ Sz l
 |[],p,_=>⟨fun x h=>(by cases h),fun i j x y _ h _=>(by simp at h)⟩
 | e :: l, p, h => by
   rw[yT,u9]at h
   obtain⟨i1,i2⟩:=Gf h.2
   have h1:Op.bytesLess p.name.toList e.name.toList=true:=by
    have:=h.1
    unfold yF at this
    simp only[u9]at this
    exact this.2.1
   refine⟨fun x hx=> ?_,fun i j x y hij hx hy=> ?_⟩
   · rcases vC.1 hx with rfl|hx
     · exact h1
     · exact AD h1 (i1 x hx)
   · match i,j,hij with
     | 0, j + 1, _ =>
       simp only[List.getElem?_cons_zero,uV]at hx
       subst hx
       exact i1 y (vi (by simpa using hy))
     |i+1,j+1,hij=>exact i2 i j x y (by omega) (by simpa using hx) (by simpa using hy)
theorem Ku {l:List wR} (h:xO l=true):Sz l:=by
 unfold xO at h
 rw[u9]at h
 match l,h.1 with
 |[],_=>exact fun i j x y _ h _=>by simp at h
 | e :: l, h1 =>
   rw[yT,u9]at h1
   obtain⟨i1,i2⟩:=Gf h1.2
   intro i j x y hij hx hy
   match i,j,hij with
   | 0, j + 1, _ =>
     simp only[List.getElem?_cons_zero,uV]at hx
     subst hx
     exact i1 y (vi (by simpa using hy))
   |i+1,j+1,hij=>exact i2 i j x y (by omega) (by simpa using hx) (by simpa using hy)
theorem Ga (s:ByteArray):∀(l:List wR) (i:Nat),i≤l.length→(∀(k:Nat) (x:wR),k<i→l[k]?=some x→Op.bytesLess x.name.toList s.toList=true)→(∀x:wR,l[i]?=some x→Op.bytesLess x.name.toList s.toList=false)→
 v9 s l=(i,match l[i]? with|some x=>x.name.toList==s.toList|none=>false)
 | [], i, hi, _, _ => by
   have:i=0:=by simpa using hi
   subst this;rfl
 | e :: l, 0, _, _, h2 => by
   have:=h2 e rfl
   rw[v9,this,if_neg (by decide)];rfl
 | e :: l, i + 1, hi, h1, h2 => by
   have he:=h1 0 e (by omega) rfl
   rw[v9,he,if_pos rfl,Ga s l i (by simpa using hi) (fun k x hk hx=>h1 (k+1) x (by omega) (by simpa using hx)) (fun x hx=>h2 x (by simpa using hx))]
   simp
theorem Sb (h:H) (a b:ByteArray):aS AP.A 314 [.str a,.str b] h=some (.int .i64 (if Op.bytesLess a.toList b.toList then-1 else if a.toList==b.toList then 0 else 1),h):=by
 have n1:∀(g:H) (x:ByteArray),aS AP.A 315 [.str x] g=some (.bool false,g):=fun g x=>by
  have:br .neq (.str x) (.str x)=some (.bool false):=by rw[BA];simp
  refine uo (fn:=AP.f315) (h2:=g.dY) (e:=[(2,.bool false)]) rfl rfl rfl ?_ rfl rfl
  simp (disch:=omega)only[go_sem,vN,AP.f315,this]
 have c1:br .lss (.str a) (.str b)=some (.bool (Op.bytesLess a.toList b.toList)):=rfl
 have c2:br .gtr (.str a) (.str b)=some (.bool (!(Op.bytesLess a.toList b.toList||a.toList==b.toList))):=rfl
 refine uo (fn:=AP.f314) (h2:=h.dY) (e:=[(4,.int .i64 (if Op.bytesLess a.toList b.toList then-1 else if a.toList==b.toList then 0 else 1))]) rfl rfl rfl ?_ rfl rfl
 generalize Op.bytesLess a.toList b.toList=B1 at *
 generalize (a.toList==b.toList)=B2 at *
 cases B1<;>cases B2<;>simp only[u0,if_true,vG]<;>simp (disch:=omega)only[go_sem,vN,AP.f314,n1,c1,c2]
theorem J8 (h:H) (e:wR) (v:AV) (hv:v.sc=true) (s:ByteArray):aS AP.A 313 [.agg (vT e v),.str s] h=some (.int .i64 (if Op.bytesLess e.name.toList s.toList then-1 else if e.name.toList==s.toList then 0 else 1),h):=by
 obtain⟨E,hE⟩:∃E,E=vT e v:=⟨_,rfl⟩
 have lE:E.length=9:=by rw[hE];rfl
 have cE:AV.aB E=true:=by rw[hE];exact yx hv
 have e0:E[0]?=some (.str e.name):=by rw[hE];rfl
 obtain⟨h1,eh1⟩:∃g,g=h.dY.alloc E:=⟨_,rfl⟩
 have g1:h1.get h.next=some E:=by rw[eh1];exact vO rfl
 have n0:h.dY.next=h.next:=rfl
 have k1:=Sb h1 e.name s
 rw[←hE]
 generalize (if Op.bytesLess e.name.toList s.toList then(-1:Int)else if e.name.toList==s.toList then 0 else 1)=V at *
 refine uo (fn:=AP.f313) (h2:=h1) (e:=[(4,.int .i64 V)]) rfl rfl rfl ?_ rfl rfl
 clear hE
 simp (disch:=omega)only[go_sem,vN,AP.f313,lE,cE,n0,←eh1,g1,e0,k1]
theorem Ld {v : AV} {l : List wc} (hl : l.length ≤ 6) (h : H) (rd : xo 9 h v l.length (vW l)) (hv : ∀ x ∈ l, x.2.sc = true) (s : ByteArray) (ris : Sz (l.map (·.1))) : ∀ (m i j : Nat), j - i ≤ m → i ≤ j → j ≤ l.length →
 (∀(k:Nat) (x:wR),k<i→(l.map (·.1))[k]?=some x→Op.bytesLess x.name.toList s.toList=true)→(∀(k:Nat) (x:wR),j≤k→(l.map (·.1))[k]?=some x→Op.bytesLess x.name.toList s.toList=false)→
 ∃ e' k, Lp AP.A [0, 1, 2, 8, 9, 10] AP.f312L0 [(0, v), (1, .str s), (2, .fn 313 [] []), (8, .int .i64 l.length), (9, .int .i64 i), (10, .int .i64 j)] h = some (.exit 0, e', h) ∧ look e' 0 = v ∧ look e' 1 = .str s ∧ look e' 2 = .fn 313 [] [] ∧ look e' 8 = .int .i64 l.length ∧ look e' 9 = .int .i64 (k : Nat) ∧ k ≤ l.length ∧
   (∀(q:Nat) (x:wR),q<k→(l.map (·.1))[q]?=some x→Op.bytesLess x.name.toList s.toList=true)∧(∀x:wR,(l.map (·.1))[k]?=some x→Op.bytesLess x.name.toList s.toList=false):=by
 intro m
 induction m with
 | zero =>
   intro i j hm hij hj h1 h2
   obtain rfl:i=j:=by omega
   refine⟨[(0,v),(1,.str s),(2,.fn 313 [] []),(8,.int .i64 l.length),(9,.int .i64 i),(10,.int .i64 i),(17,.bool false)],i,tF ?_,rfl,rfl,rfl,rfl,rfl,hj,h1,fun x hx=>h2 i x (u6 _) hx⟩
   clear h1 h2 ris hv rd
   simp (disch:=omega)only[go_sem,vN,AP.f312L0]
 | succ m ih =>
   intro i j hm hij hj h1 h2
   by_cases c:i=j
   · subst c
     exact ih i i (by omega) (u6 _) hj h1 h2
   have lt:i<j:=by omega
   obtain⟨q,hq⟩:∃q,q=(i+j)/2:=⟨_,rfl⟩
   obtain⟨x,hx⟩:∃x,l[q]?=some x:=⟨l[q]'(by omega),by simp⟩
   have hx':(l.map (·.1))[q]?=some x.1:=by rw[vq,hx];rfl
   obtain⟨ad,a1,a2⟩:=rd.DY
   have b1:=a1 q ⟨by omega,by omega⟩
   have b2:=(a2 h (Ext.refl h) q x hx).2
   have k1:=J8 h x.1 x.2 (hv x (vi hx)) s
   have w1:IntKind.wrap .u64 ((i:Int)+j)=((i+j:Nat):Int):=by simp [IntKind.wrap,IntKind.bits,IntKind.signed];omega
   have w2:px .shr .u64 ((i+j:Nat):Int) 1=some (.int .u64 (q:Nat)):=by
    unfold px
    rw[if_neg (by decide),hq]
    simp [IntKind.bits,Int.fdiv_eq_ediv_of_nonneg]
   have w3:IntKind.wrap .i64 (q:Int)=q:=wi (by omega)
   have w4:((q+1:Nat):Int)=(q:Int)+1:=by omega
   by_cases cl:Op.bytesLess x.1.name.toList s.toList=true
   · rw[if_pos cl]at k1
     obtain⟨e',k,r1,r2⟩:=ih (q+1) j (by omega) (by omega) hj (fun t y ht hy=>by
      by_cases ct:t=q
      · subst ct;rw[hx']at hy;obtain rfl:=uS hy;exact cl
      · exact AD (ris t q y x.1 (by omega) hy hx') cl) h2
     rw[w4]at r1
     refine⟨e',k,tG ?_ r1,r2⟩
     clear h1 h2 ris hv rd r1 r2 a1 a2 hx hx' ih
     simp (disch:=omega)only[go_sem,vN,AP.f312L0,w1,w2,w3,b1,b2,k1,nQ]
   · have cl':Op.bytesLess x.1.name.toList s.toList=false:=by simpa using cl
     rw[if_neg cl]at k1
     obtain⟨e',k,r1,r2⟩:=ih i q (by omega) (by omega) (by omega) h1 (fun t y ht hy=>by
      by_cases ct:t=q
      · subst ct;rw[hx']at hy;obtain rfl:=uS hy;exact cl'
      · cases cy:Op.bytesLess y.name.toList s.toList with
        |false=>rfl
        |true=>exact absurd (AD (ris q t x.1 y (by omega) hx' hy) cy) cl)
     refine⟨e',k,tG ?_ r1,r2⟩
     have k0:(if(x.1.name.toList==s.toList)=true then(0:Int)else 1)=0∨(if(x.1.name.toList==s.toList)=true then(0:Int)else 1)=1:=by split<;>simp
     generalize (if(x.1.name.toList==s.toList)=true then(0:Int)else 1)=V at *
     have k2:¬V<0:=by omega
     clear h1 h2 ris hv rd r1 r2 a1 a2 hx hx' ih k0
     simp (disch:=omega)only[go_sem,vN,AP.f312L0,w1,w2,w3,b1,b2,k1,nQ,df k2]
theorem SK (h:H) (v:AV) (l:List wc) (hl:l.length≤6) (rd:xo 9 h v l.length (vW l)) (hv:∀x∈l,x.2.sc=true) (s:ByteArray) (ris:Sz (l.map (·.1))):aS AP.A 312 [v,.str s,.fn 313 [] []] h=some (.bP [.int .i64 (v9 s (l.map (·.1))).1,.bool (v9 s (l.map (·.1))).2],h):=by
 have rdf:xo 9 h.dY v l.length (vW l):=rd.mono fun i c q=>q
 have ln:=rdf.len
 obtain⟨e',k,r1,r2,r3,r4,r5,r6,r7,r8,r9⟩:=Ld hl h.dY rdf hv s ris l.length 0 l.length (by omega) (by omega) (u6 _) (fun k x hk=>by omega) (fun k x hk hx=>by
  rw[List.getElem?_eq_none (by simpa using hk)]at hx;cases hx)
 have r1':Lp AP.A [0,1,2,8,9,10] AP.f312L0 [(0,v),(1,.str s),(2,.fn 313 [] []),(8,.int .i64 l.length),(9,.int .i64 0),(10,.int .i64 l.length)] h.dY=some (.exit 0,e',h.dY):=r1
 rw[Ga s _ k (by simpa using r7) r8 r9]
 by_cases c:k<l.length
 · obtain⟨x,hx⟩:∃x,l[k]?=some x:=⟨l[k],by simp⟩
   have hx':(l.map (·.1))[k]?=some x.1:=by rw[vq,hx];rfl
   have nl:=r9 _ hx'
   rw[hx']
   obtain⟨ad,a1,a2⟩:=rdf.DY
   have b1:=a1 k ⟨by omega,by omega⟩
   have b2:=(a2 h.dY (Ext.refl _) k x hx).2
   have k1:=J8 h.dY x.1 x.2 (hv x (vi hx)) s
   rw[nl,if_neg (by decide)]at k1
   refine uo (fn:=AP.f312) (h2:=h.dY) (e:=[(6,.int .i64 k),(7,.bool (x.1.name.toList==s.toList))]) (vs:=[.int .i64 k,.bool (x.1.name.toList==s.toList)]) rfl rfl rfl ?_ rfl rfl
   generalize (x.1.name.toList==s.toList)=B at *
   clear rd rdf ris hv r1 r8 r9 a1 a2 hx hx' nl
   cases B
   · rw[if_neg (by decide)]at k1
     simp (disch:=omega)only[go_sem,vN,AP.f312,ln,sF,r1',r2,r3,r4,r5,r6,b1,b2,k1,nQ]
   · rw[if_pos rfl]at k1
     simp (disch:=omega)only[go_sem,vN,AP.f312,ln,sF,r1',r2,r3,r4,r5,r6,b1,b2,k1,nQ]
 · have e:(l.map (·.1))[k]?=none:=List.getElem?_eq_none (by simpa using c)
   rw[e]
   refine uo (fn:=AP.f312) (h2:=h.dY) (e:=[(6,.int .i64 k),(7,.bool false)]) (vs:=[.int .i64 k,.bool false]) rfl rfl rfl ?_ rfl rfl
   clear rd rdf ris hv r1 r8 r9 e
   simp (disch:=omega)only[go_sem,vN,AP.f312,ln,sF,r1',r2,r3,r4,r5,r6]
theorem Mr (h:H) (b o:Nat) {C:List AV} (v:AV) (g:h.get b=some C) (ho:C[o]?=some v) (l:List wc) (hl:l.length≤6) (rd:xo 9 h v l.length (vW l)) (hv:∀x∈l,x.2.sc=true) (s:ByteArray) (ris:Sz (l.map (·.1))):
 aS AP.A 307 [.aC b o,.str s] h=some (.bP [.int .i64 (v9 s (l.map (·.1))).1,.bool (v9 s (l.map (·.1))).2],h):=by
 have k1:=SK h v l hl rd hv s ris
 generalize v9 s (l.map (·.1))=P at *
 refine tT (fn:=AP.f307) (h2:=h) (e:=[(4,.int .i64 P.1),(5,.bool P.2)]) (vs:=[.int .i64 P.1,.bool P.2]) rfl rfl rfl ?_ rfl
 clear rd hv ris
 simp (disch:=omega)only[go_sem,vN,AP.f307,Xq,g,ho,k1]
theorem HF {v w : AV} {a b : List Int} (hab : a.length = b.length) (hl : a.length < 1125899906842624) (h : H) (ra : Rd h v (ints a)) (rb : Rd h w (ints b)) : ∀ (q r p p' : List Int), a = p ++ q → b = p' ++ r → p.length = p'.length →
 (∃e',Lp AP.A [0,1,12,13] AP.f311L0 [(0,v),(1,w),(12,.int .i64 a.length),(13,.int .i64 p.length)] h=some (.exit 0,e',h)∧q=r)∨
 (∃e',Lp AP.A [0,1,12,13] AP.f311L0 [(0,v),(1,w),(12,.int .i64 a.length),(13,.int .i64 p.length)] h=some (.ret,e',h)∧look e' 4=.bool false∧q≠r)
 | [], r, p, p', hp, hp', hpp => by
   rw[Xe]at hp;subst hp
   have hr:r=[]:=Xm (by rw[hp',vF]at hab;omega)
   refine .inl ⟨[(0,v),(1,w),(12,.int .i64 a.length),(13,.int .i64 a.length),(14,.bool false)],tF ?_,hr.symm⟩
   simp (disch:=omega)only[go_sem,vN,AP.f311L0]
 | x :: q, [], p, p', hp, hp', hpp => by
   rw[hp,hp']at hab;simp at hab;omega
 | x :: q, y :: r, p, p', hp, hp', hpp => by
   have hlen:a.length=p.length+(q.length+1):=by rw[hp];simp
   obtain⟨ad,a1,a3⟩:=ra.xg
   obtain⟨bd,b1,b3⟩:=rb.xg
   have i1:=a1 p.length ⟨by omega,by omega⟩
   have i2:=a3 h (Ext.refl h) p.length x (by rw[hp];simp)
   have j1:=b1 p.length ⟨by omega,by omega⟩
   have j2:=b3 h (Ext.refl h) p.length y (by rw[hp',hpp];simp)
   have ih:=HF hab hl h ra rb q r (p++[x]) (p'++[y]) (by rw[hp];simp) (by rw[hp'];simp) (by simp [hpp])
   have w1:(((p++[x]).length:Nat):Int)=(p.length:Int)+1:=by simp
   rw[w1]at ih
   by_cases c:x=y
   · have step:aM (aS AP.A) bB AP.f311L0 (ax [(0,v),(1,w),(12,.int .i64 a.length),(13,.int .i64 p.length)] [0,1,12,13]) h=some (.normal,[(0,v),(1,w),(12,.int .i64 a.length),(13,.int .i64 ((p.length:Int)+1))],h):=by
      clear ih ra rb a1 a3 b1 b3 hp hp'
      simp (disch:=omega)only[go_sem,vN,AP.f311L0,i1,i2,j1,j2,J9 c]
     rcases ih with ⟨e',r1,r2⟩|⟨e',r1,r2,r3⟩
     · exact .inl ⟨e',tG step r1,by rw[c,r2]⟩
     · exact .inr ⟨e',tG step r1,r2,fun q=>r3 (XM q).2⟩
   · refine .inr ⟨[(4,.bool false)],uc ?_,rfl,fun q=>c (XM q).1⟩
     clear ih ra rb a1 a3 b1 b3 hp hp'
     simp (disch:=omega)only[go_sem,vN,AP.f311L0,i1,i2,j1,j2,K3 c]
theorem TT (h:H) (v w:AV) (a b:List Int) (ra:Rd h v (ints a)) (rb:Rd h w (ints b)) (hl:a.length<1125899906842624) (hb:b.length<1125899906842624):aS AP.A 311 [v,w] h=some (.bool (decide (a=b)),h):=by
 have la:=ra.len
 have lb:=rb.len
 rw[pP]at la lb
 simp only[I]at la lb
 have ra':Rd h.dY v (ints a):=ra.mono fun i c q=>q
 have rb':Rd h.dY w (ints b):=rb.mono fun i c q=>q
 by_cases c:a.length=b.length
 · rcases HF c hl h.dY ra' rb' a b [] [] rfl rfl rfl with ⟨e',r1,r2⟩|⟨e',r1,r2,r3⟩
   · have r1':Lp AP.A [0,1,12,13] AP.f311L0 [(0,v),(1,w),(12,.int .i64 a.length),(13,.int .i64 0)] h.dY=some (.exit 0,e',h.dY):=r1
     rw[dt r2]
     refine uo (fn:=AP.f311) (h2:=h.dY) (e:=[(4,.bool true)]) rfl rfl rfl ?_ rfl rfl
     clear ra rb ra' rb' r1 r2
     have c':((a.length:Nat):Int)=b.length:=by omega
     simp (disch:=omega)only[go_sem,vN,AP.f311,la,lb,sF,r1',J9 c']
   · have r1':Lp AP.A [0,1,12,13] AP.f311L0 [(0,v),(1,w),(12,.int .i64 a.length),(13,.int .i64 0)] h.dY=some (.ret,e',h.dY):=r1
     rw[df r3]
     refine uo (fn:=AP.f311) (h2:=h.dY) (e:=e') (vs:=[.bool false]) rfl rfl rfl ?_ (by simp only[AP.f311,cM,nk,r2];rfl) rfl
     clear ra rb ra' rb' r1 r3
     have c':((a.length:Nat):Int)=b.length:=by omega
     simp (disch:=omega)only[go_sem,vN,AP.f311,la,lb,sF,r1',J9 c']
 · rw[df (fun q=>c (by rw[q]))]
   refine uo (fn:=AP.f311) (h2:=h.dY) (e:=[(4,.bool false)]) rfl rfl rfl ?_ rfl rfl
   clear ra rb ra' rb'
   have c':¬((a.length:Nat):Int)=b.length:=by omega
   simp (disch:=omega)only[go_sem,vN,AP.f311,la,lb,K3 c']
theorem Ib (i:Nat):∀(n k:Nat) (l:List Int) (h:H),k+n=l.length→l.length<1000000→h.get i=some (ints l)→h.floor≤i→
 ∃e' l',Lp AP.A [0,2] AP.f168L0 [(0,.aD i 0 l.length 1),(2,.int .i64 k)] h=some (.exit 0,e',h.set i (ints l'))∧l'.length=l.length
 | 0, k, l, h, hk, hl, hg, hf => by
   obtain rfl:k=l.length:=by omega
   refine⟨[(0,.aD i 0 l.length 1),(2,.int .i64 l.length),(6,.bool false)],l, ?_,rfl⟩
   rw[H.jI hg]
   refine tF ?_
   simp (disch:=omega)only[go_sem,vN,AP.f168L0]
 | n + 1, k, l, h, hk, hl, hg, hf => by
   obtain⟨x,hx⟩:∃x,l[k]?=some x:=⟨l[k]'(by omega),by simp⟩
   have ix:(ints l)[k]?=some (.int .i64 x):=te hx
   have st:(ints l).set k (.int .i64 (IntKind.wrap .i64 (-9-x)))=ints (l.set k (IntKind.wrap .i64 (-9-x))):=by simp [ints,I,List.map_set]
   obtain⟨e',l',r1,r2⟩:=Ib i n (k+1) (l.set k (IntKind.wrap .i64 (-9-x))) (h.set i (ints (l.set k (IntKind.wrap .i64 (-9-x))))) (by simp;omega) (by simp;exact hl) (by rw[vP rfl,hg];rfl) (by simp;exact hf)
   rw[H.set_set,List.length_set]at r1
   have w1:((k+1:Nat):Int)=(k:Int)+1:=by omega
   rw[w1]at r1
   refine⟨e',l',tG ?_ r1,by rw[r2];simp⟩
   have il:=pP l
   clear r1 hx
   simp (disch:=first|omega|(simp only[xk,W9,Xa,vk,Nat.reduceAdd];first|done|omega|fail)|(simp (disch:=first|omega|(simp only[xk,W9,Xa,vk,Nat.reduceAdd];first|done|omega|fail)|fail)only[xk,Ao,Xc,W9,Xa,vk,Nat.reduceAdd];done)|fail)only[go_sem,vN,AK,AP.f168L0,hg,ix,il,st]
theorem Gm {h:H} {i:Nat} {l:List Int} (hg:h.get i=some (ints l)) (hl:l.length<1000000) (hf:h.floor≤i):∃l',aS AP.A 168 [.aD i 0 l.length 1] h=some (.bP [],h.set i (ints l'))∧l'.length=l.length:=by
 obtain⟨e',l',r1,r2⟩:=Ib i l.length 0 l h (by omega) hl hg hf
 have r1':Lp AP.A [0,2] AP.f168L0 [(0,.aD i 0 l.length 1),(2,.int .i64 0)] h=some (.exit 0,e',h.set i (ints l')):=r1
 obtain⟨e2,he⟩:∃e2,aM (aS AP.A) bB AP.f168.body (params 0 [.aD i 0 l.length 1]) h=some (.normal,e2,h.set i (ints l')):=by
  refine⟨?_, ?_⟩
  rotate_left
  · simp (disch:=omega)only[go_sem,vN,AP.f168,sF,r1']
    rfl
 exact⟨l',wC (fn:=AP.f168) (e:=e2) (vs:=[]) rfl rfl rfl he rfl,r2⟩
theorem xX (h:H):aS AP.A 168 [.aQ] h=some (.bP [],h):=by
 have r:Lp AP.A [0,2] AP.f168L0 [(0,.aQ),(2,.int .i64 0)] h=some (.exit 0,[(0,.aQ),(2,.int .i64 0),(6,.bool false)],h):=by
  refine tF ?_
  simp (disch:=omega)only[go_sem,vN,AP.f168L0]
 obtain⟨e2,he⟩:∃e2,aM (aS AP.A) bB AP.f168.body (params 0 [.aQ]) h=some (.normal,e2,h):=by
  refine⟨?_, ?_⟩
  rotate_left
  · simp (disch:=omega)only[go_sem,vN,AP.f168,sF,r]
    rfl
 exact wC (fn:=AP.f168) (e:=e2) (vs:=[]) rfl rfl rfl he rfl
structure SB (B:Nat) (h:H) (o n i:Nat) (cs:List AV):Prop where
 get:h.get o=some cs
 len:cs.length=n* 2
 fl:h.floor≤o
 bo:B≤o
 el:∀k,k<n→∃(s:ByteArray) (j:Nat) (l:List Int),cs[k* 2]?=some (.str s)∧s.size≤8+(if k<i then 1 else 0)∧cs[k* 2+1]?=some (.aD j 0 4 1)∧h.get j=some (ints l)∧l.length=4∧B≤j∧j≠o∧h.floor≤j
end Ab
