/- Part C3. -/
import Derived.Test.YtebioenemijecaaGreatDoorC2
set_option linter.unusedSimpArgs false
set_option linter.unusedVariables false
set_option maxRecDepth 100000
namespace Ab
open Go
def EH (s:ByteArray):List Nat:=s.data.toList.map (·.toNat)
theorem KL (s:ByteArray):(EH s).length=s.size:=by unfold EH;rw[aa0,Array.length_toList];rfl
theorem Pk (a b:ByteArray):EH (a++b)=EH a++EH b:=by simp [EH]
theorem NS (s:ByteArray):∀b∈EH s,b<256:=by
 intro b hb
 obtain⟨x,_,rfl⟩:=aa6.1 hb
 exact x.toNat_lt
theorem HR (s:ByteArray):bytesOf (EH s)=s:=by
 unfold EH bytesOf;rw[abw];apply ByteArray.ext;simp [Function.comp_def]
theorem I3 {l:List Nat} (h:∀b∈l,b<256):EH (bytesOf l)=l:=by
 simp only[EH,bytesOf,abw]
 conv=>rhs;rw[←List.map_id l]
 exact List.map_congr_left fun b hb=>by simp [Function.comp,UInt8.toNat_ofNat_of_lt' (h b hb)]
theorem AE (a b:List Nat):bytesOf a++bytesOf b=bytesOf (a++b):=by
 apply ByteArray.ext;simp [bytesOf]
theorem Bh (x k:Nat):∀b∈ya x k,b<256:=by
 intro b hb
 obtain⟨i,_,rfl⟩:=aa6.1 hb
 exact Nat.mod_lt _ (by omega)
theorem EE {a b:ByteArray} (h:a.size+b.size≤9223372036854775807):bC .add (.str a) (.str b)=some (.str (a++b)):=HD h
theorem zj {a b:List Nat} (h:a.length+b.length≤9223372036854775807):bC .add (.str (bytesOf a)) (.str (bytesOf b))=some (.str (bytesOf (a++b))):=by
 rw[EE (by rw[yq,yq];exact h),AE]
def HV (c:Nat) (l:List Nat):Nat:=l.foldl AN c
theorem Og {s:ByteArray} {i:Nat} {p q:List Nat} {b:Nat} (h:EH s=p++b::q) (hi:p.length=i):AU s i=b:=by
 have:(EH s)[i]?=some b:=by rw[h,←hi];simp
 unfold AU
 unfold EH at this
 rw[xa]at this
 have e:s[i]?=s.data.toList[i]?:=by
  show s.data[i]?=_
  simp
 rw[e]
 cases hq:s.data.toList[i]? with
 |none=>rw[hq]at this;cases this
 |some x=>rw[hq]at this;simpa using this
theorem Ge (s:ByteArray):∀(q p:List Nat) (c:Nat),EH s=p++q→Av s q.length p.length c=HV c q
 |[],p,c,h=>rfl
 | b :: q, p, c, h => by
   show Av s q.length (p.length+1) (AN c (AU s p.length))=_
   have:=Ge s q (p++[b]) (AN c b) (by rw[h];simp)
   rw[Og h rfl]
   rw[xu]at this
   exact this
theorem Dr (a:Nat) (s:ByteArray):zC a s=4294967295-HV (4294967295-a) (EH s):=by
 unfold zC
 have:=Ge s (EH s) [] (4294967295-a) rfl
 rw[KL]at this
 rw[←this];rfl
theorem JS:∀(l:List Nat) {c:Nat},c<4294967296→(∀b∈l,b<256)→HV c l<4294967296
 |[],_,h,_=>h
 |b::l,_,h,hb=>JS l (BI h (hb b (by simp))) (fun x hx=>hb x (by simp [hx]))
theorem Cw {a:Nat} (s t:ByteArray):zC (zC a s) t=zC a (s++t):=by
 rw[Dr,Dr a,Dr a,Pk]
 have:=JS (EH s) (c:=4294967295-a) (by omega) (NS s)
 rw[show 4294967295-(4294967295-HV (4294967295-a) (EH s))=HV (4294967295-a) (EH s)by omega]
 simp [HV]
def AM (l:List Nat):Nat:=4294967295-HV 4294967295 l
theorem Ss (s:ByteArray):zT s=AM (EH s):=Dr 0 s
theorem BH {l:List Nat} (h:∀b∈l,b<256):zT (bytesOf l)=AM l:=by rw[Ss,I3 h]
def CX (l:List Int):List Nat:=l.flatMap fun n=>ya n.toNat 4
def D5 (e:xP):List Nat:=ya 20592 2++ya 22 2++CX e.vec++ya e.xL.toNat 4++ya e.node.toNat 1++ya (if e.gone then 1 else 0) 1
theorem DK (l:List Int):(CX l).length=4* l.length:=by
 induction l with
 |nil=>rfl
 |cons n l ih=>unfold CX at *;rw[abh,xu,xR,ih,aaV];omega
theorem KQ (l:List Int):∀b∈CX l,b<256:=by
 intro b hb
 obtain⟨n,_,hn⟩:=List.mem_flatMap.1 hb
 exact Bh _ _ b hn
theorem O5 (e:xP):∀b∈D5 e,b<256:=by
 intro b hb
 unfold D5 at hb
 simp only[abA]at hb
 rcases hb with ((((hb|hb)|hb)|hb)|hb)|hb
 · exact Bh _ _ b hb
 · exact Bh _ _ b hb
 · exact KQ _ b hb
 · exact Bh _ _ b hb
 · exact Bh _ _ b hb
 · exact Bh _ _ b hb
def LN (e:xP):AV:=if yy e=true then .bW [.str (bytesOf (D5 e)),.int .i64 0]else .bW [.str ⟨#[]⟩,.int .i64 1200]
theorem z9 {e:xP} (h:yy e=true):e.vec.length=4∧(∀n∈e.vec,0≤n∧n≤1048576)∧(1≤e.xL∧e.xL≤1048576)∧(0≤e.node∧e.node<4):=by
 simp only[yy,yS,zo,yY,wT,aa1,aba]at h
 exact⟨h.1.1,h.1.2,⟨h.2.1,h.2.2.1.2⟩,h.2.2.2⟩
theorem IG {v P:AV} {l:List Int} (hl:l.length<1000000) (hn:∀n∈l,0≤n∧n≤1048576) (h:H) (rd:Rd h v (ints l)):∀(q p:List Int) (acc:List Nat),l=p++q→acc.length+4* q.length<100000000→
 ∃e',Lp AP.A [1,4,14,15,16] AP.f102L0 [(1,P),(4,.str (bytesOf acc)),(14,v),(15,.int .i64 l.length),(16,.int .i64 p.length)] h=some (.exit 0,e',h)∧look e' 1=P∧look e' 4=.str (bytesOf (acc++CX q))
 | [], p, acc, hp, ha => by
   refine⟨[(1,P),(4,.str (bytesOf acc)),(14,v),(15,.int .i64 l.length),(16,.int .i64 p.length),(17,.bool false)],u6 ?_,rfl,by simp [CX,look]⟩
   have e:l.length=p.length:=by rw[hp];simp
   rw[e]
   simp (disch:=first|omega|(simp only[yP,aaV,aaX,wY,Nat.reduceAdd];first|done|omega|fail)|(simp (disch:=first|omega|(simp only[yP,aaV,aaX,wY,Nat.reduceAdd];first|done|omega|fail)|fail)only[yP,CB,aaY,aaV,aaX,wY,Nat.reduceAdd];done)|fail)only[go_sem,xF,CF,AP.f102L0]
 | n :: q, p, acc, hp, ha => by
   rw[aaV]at ha
   obtain⟨e',r1,r2,r3⟩:=IG (P:=P) hl hn h rd q (p++[n]) (acc++ya n.toNat 4) (by rw[hp];simp) (by rw[xu,xR];omega)
   obtain⟨ad,a1,a2⟩:=rd.yL
   have hlen:l.length=p.length+(q.length+1):=by rw[hp];simp
   have i1:=a1 (p.length:Int) ⟨by omega,by omega⟩
   have i2:=a2 h (Ext.refl h) p.length n (by rw[hp];simp)
   have bn:=hn n (by rw[hp];simp)
   have k1:=fun g=>CE g n.toNat 4 (by omega) (by omega)
   rw[show((n.toNat:Nat):Int)=n by omega]at k1
   have s1:bC .add (.str (bytesOf acc)) (.str (F0 n.toNat 4))=some (.str (bytesOf (acc++ya n.toNat 4))):=zj (by rw[xR];omega)
   have n1:((p.length+1:Nat):Int)=(p.length:Int)+1:=by omega
   rw[xu,show [n].length=1 from rfl,n1]at r1
   refine⟨e',u9 ?_ r1,r2,by rw[r3];simp [CX]⟩
   have k1':∀g:H,aU AP.A 104 [.int .i64 n,.int .i64 4] g=some (.str (F0 n.toNat 4),g):=k1
   simp (disch:=first|omega|(simp only[yP,aaV,aaX,wY,Nat.reduceAdd];first|done|omega|fail)|(simp (disch:=first|omega|(simp only[yP,aaV,aaX,wY,Nat.reduceAdd];first|done|omega|fail)|fail)only[yP,CB,aaY,aaV,aaX,wY,Nat.reduceAdd];done)|fail)only[go_sem,xF,CF,AP.f102L0,i1,i2,k1',s1]
theorem PE.obj {h:H} {id:Nat} {cs:List AV} (hg:h.get id=some cs):PE h (.aG id 0) cs:=
 ⟨fun g=>rfl,fun k=>.aG id (0+k),fun k=>rfl,fun g hx k c hc=>by
  show cf false 1 (.aG id (0+k)) g=_
  rw[wY]
  simp only[cf,hx _ _ hg,wP,iO,hc];rfl⟩
theorem Sx (h:H) (hf:h.floor≤h.next) (e:xP) (v:AV) (hv:v.sc=true) (ok:yF h (e,v)):aU AP.A 102 [.agg (xA e v)] h=some (LN e,h):=by
 obtain⟨A,hA⟩:∃x,x=xA e v:=⟨_,rfl⟩
 have lA:A.length=9:=by rw[hA];rfl
 have cA:AV.aE A=true:=by rw[hA];exact yH hv
 have g2:A[2]?=some v:=by rw[hA];rfl
 have g1:A[1]?=some (.bool e.gone):=by rw[hA];rfl
 have g3:A[3]?=some (.int .i64 e.xL):=by rw[hA];rfl
 have g4:A[4]?=some (.int .i64 e.node):=by rw[hA];rfl
 have x1:Ext h (h.eO.alloc A):=fun i c q=>((Ext.refl h.eO).alloc _) i c q
 have o1:=ok.mono x1
 have q1:aU AP.A 112 [.aG h.next 0] (h.eO.alloc A)=some (.bool (yy e),h.eO.alloc A):=by
  refine MR (h.eO.alloc A) (.aG h.next 0) v e ?_ o1.vec o1.vl
  rw[←hA];exact PE.obj (xE (by simp))
 unfold LN
 cases hh:yy e with
 | false =>
   rw[hh]at q1
   rw[if_neg (by decide)]
   refine vP (fn:=AP.f102) (h2:=h.eO.alloc A) (e:=[(2,.str ⟨#[]⟩),(3,.int .i64 1200)]) rfl rfl rfl ?_ rfl rfl
   rw[←hA]
   simp (disch:=first|omega|(simp only[yP,aaV,aaX,wY,Nat.reduceAdd];first|done|omega|fail)|(simp (disch:=first|omega|(simp only[yP,aaV,aaX,wY,Nat.reduceAdd];first|done|omega|fail)|fail)only[yP,CB,aaY,aaV,aaX,wY,Nat.reduceAdd];done)|fail)only[go_sem,xF,CF,AP.f102,lA,cA,q1]
 | true =>
   rw[hh]at q1
   rw[if_pos rfl]
   obtain⟨f1,f2,f3,f4⟩:=z9 hh
   have k1:∀g,aU AP.A 104 [.int .i64 20592,.int .i64 2] g=some (.str (bytesOf (ya 20592 2)),g):=fun g=>CE g 20592 2 (by omega) (by omega)
   have k2:∀g,aU AP.A 104 [.int .i64 22,.int .i64 2] g=some (.str (bytesOf (ya 22 2)),g):=fun g=>CE g 22 2 (by omega) (by omega)
   have k3:∀g,aU AP.A 104 [.int .i64 e.xL,.int .i64 4] g=some (.str (bytesOf (ya e.xL.toNat 4)),g):=fun g=>by
    have:=CE g e.xL.toNat 4 (by omega) (by omega)
    rw[show((e.xL.toNat:Nat):Int)=e.xL by omega]at this;exact this
   have k4:∀g,aU AP.A 104 [.int .i64 e.node,.int .i64 1] g=some (.str (bytesOf (ya e.node.toNat 1)),g):=fun g=>by
    have:=CE g e.node.toNat 1 (by omega) (by omega)
    rw[show((e.node.toNat:Nat):Int)=e.node by omega]at this;exact this
   have k5:∀g,aU AP.A 104 [.int .i64 0,.int .i64 1] g=some (.str (bytesOf (ya 0 1)),g):=fun g=>CE g 0 1 (by omega) (by omega)
   have k6:∀g,aU AP.A 104 [.int .i64 1,.int .i64 1] g=some (.str (bytesOf (ya 1 1)),g):=fun g=>CE g 1 1 (by omega) (by omega)
   have ln:=o1.vec.len
   rw[rk]at ln
   simp only[I]at ln
   obtain⟨e',r1,r2,r3⟩:=IG (P:=.aG h.next 0) (by omega) f2 (h.eO.alloc A) o1.vec e.vec [] (ya 20592 2++ya 22 2) rfl (by rw[xu,xR,xR];omega)
   have r1':Lp AP.A [1,4,14,15,16] AP.f102L0 [(1,.aG h.next 0),(4,.str (bytesOf (ya 20592 2++ya 22 2))),(14,v),(15,.int .i64 e.vec.length),(16,.int .i64 0)] (h.eO.alloc A)=some (.exit 0,e',h.eO.alloc A):=r1
   clear r1
   have vl:=DK e.vec
   have s1:bC .add (.str (bytesOf (ya 20592 2))) (.str (bytesOf (ya 22 2)))=some (.str (bytesOf (ya 20592 2++ya 22 2))):=zj (by rw[xR,xR];omega)
   obtain⟨L1,hL1⟩:∃x,x=ya 20592 2++ya 22 2++CX e.vec:=⟨_,rfl⟩
   have l1:L1.length=20:=by rw[hL1,xu,xu,xR,xR,vl,f1]
   obtain⟨S1,h1⟩:∃x,x=bytesOf L1:=⟨_,rfl⟩
   obtain⟨S2,h2⟩:∃x,x=bytesOf (L1++ya e.xL.toNat 4):=⟨_,rfl⟩
   obtain⟨S3,h3⟩:∃x,x=bytesOf (L1++ya e.xL.toNat 4++ya e.node.toNat 1):=⟨_,rfl⟩
   obtain⟨S4,h4⟩:∃x,x=bytesOf (L1++ya e.xL.toNat 4++ya e.node.toNat 1++ya (if e.gone then 1 else 0) 1):=⟨_,rfl⟩
   have s2:bC .add (.str S1) (.str (bytesOf (ya e.xL.toNat 4)))=some (.str S2):=by rw[h1,h2];exact zj (by rw[xR];omega)
   have s3:bC .add (.str S2) (.str (bytesOf (ya e.node.toNat 1)))=some (.str S3):=by rw[h2,h3];exact zj (by rw[xu,xR,xR];omega)
   have s4:bC .add (.str S3) (.str (bytesOf (ya (if e.gone then 1 else 0) 1)))=some (.str S4):=by rw[h3,h4];exact zj (by rw[xu,xu,xR,xR,xR];omega)
   rw[show ya 20592 2++ya 22 2++CX e.vec=L1 from hL1.symm,←h1]at r3
   unfold D5
   rw[←hL1,←hA,←h4]
   clear hL1 o1 x1 ok h1 h2 h3 h4
   refine vP (fn:=AP.f102) (h2:=h.eO.alloc A) (e:=[(2,.str S4),(3,.int .i64 0)]) rfl rfl rfl ?_ rfl rfl
   cases hg:e.gone with
   | true =>
     rw[hg]at g1 s4
     rw[if_pos rfl]at s4
     simp (disch:=first|omega|(simp only[yP,aaV,aaX,wY,Nat.reduceAdd];first|done|omega|fail)|(simp (disch:=first|omega|(simp only[yP,aaV,aaX,wY,Nat.reduceAdd];first|done|omega|fail)|fail)only[yP,CB,aaY,aaV,aaX,wY,Nat.reduceAdd];done)|fail)only[go_sem,xF,CF,AP.f102,lA,cA,q1,k1,k2,k3,k4,k5,k6,s1,s2,s3,s4,g1,g2,g3,g4,ln,uo,r1',r2,r3]
   | false =>
     rw[hg]at g1 s4
     rw[if_neg (by decide)]at s4
     simp (disch:=first|omega|(simp only[yP,aaV,aaX,wY,Nat.reduceAdd];first|done|omega|fail)|(simp (disch:=first|omega|(simp only[yP,aaV,aaX,wY,Nat.reduceAdd];first|done|omega|fail)|fail)only[yP,CB,aaY,aaV,aaX,wY,Nat.reduceAdd];done)|fail)only[go_sem,xF,CF,AP.f102,lA,cA,q1,k1,k2,k3,k4,k5,k6,s1,s2,s3,s4,g1,g2,g3,g4,ln,uo,r1',r2,r3]
theorem GG {v:AV} {b:Nat} {A:List AV} {l:List Int} (hl:l.length<1000000) (hn:∀n∈l,0≤n∧n≤1048576) (h:H) (rd:Rd h v (ints l)) (hg:h.get b=some A) (hA:A[2]?=some v):∀(q p:List Int) (acc:List Nat),l=p++q→acc.length+4* q.length<100000000→
 ∃e',Lp AP.A [1,4,5] AP.f160L0 [(1,.aG b 0),(4,.str (bytesOf acc)),(5,.int .i64 p.length)] h=some (.exit 0,e',h)∧look e' 1=.aG b 0∧look e' 4=.str (bytesOf (acc++CX q))
 | [], p, acc, hp, ha => by
   have ln:=rd.len
   rw[rk]at ln
   simp only[I]at ln
   have e:l.length=p.length:=by rw[hp];simp
   rw[e]at ln
   refine⟨[(1,.aG b 0),(4,.str (bytesOf acc)),(5,.int .i64 p.length),(17,.bool false)],u6 ?_,rfl,by simp [CX,look]⟩
   simp (disch:=first|omega|(simp only[yP,aaV,aaX,wY,Nat.reduceAdd];first|done|omega|fail)|(simp (disch:=first|omega|(simp only[yP,aaV,aaX,wY,Nat.reduceAdd];first|done|omega|fail)|fail)only[yP,CB,aaY,aaV,aaX,wY,Nat.reduceAdd];done)|fail)only[go_sem,xF,CF,AP.f160L0,ln,hg,hA]
 | n :: q, p, acc, hp, ha => by
   rw[aaV]at ha
   obtain⟨e',r1,r2,r3⟩:=GG hl hn h rd hg hA q (p++[n]) (acc++ya n.toNat 4) (by rw[hp];simp) (by rw[xu,xR];omega)
   obtain⟨ad,a1,a2⟩:=rd.yL
   have hlen:l.length=p.length+(q.length+1):=by rw[hp];simp
   have ln:=rd.len
   rw[rk]at ln
   simp only[I]at ln
   have i1:=a1 (p.length:Int) ⟨by omega,by omega⟩
   have i2:=a2 h (Ext.refl h) p.length n (by rw[hp];simp)
   have bn:=hn n (by rw[hp];simp)
   have k1:∀g:H,aU AP.A 161 [.int .i64 n,.int .i64 4] g=some (.str (F0 n.toNat 4),g):=fun g=>by
    have:=C9 g n.toNat 4 (by omega)
    rw[show((n.toNat:Nat):Int)=n by omega]at this;exact this
   have s1:bC .add (.str (bytesOf acc)) (.str (F0 n.toNat 4))=some (.str (bytesOf (acc++ya n.toNat 4))):=zj (by rw[xR];omega)
   have n1:((p.length+1:Nat):Int)=(p.length:Int)+1:=by omega
   rw[xu,show [n].length=1 from rfl,n1]at r1
   refine⟨e',u9 ?_ r1,r2,by rw[r3];simp [CX]⟩
   simp (disch:=first|omega|(simp only[yP,aaV,aaX,wY,Nat.reduceAdd];first|done|omega|fail)|(simp (disch:=first|omega|(simp only[yP,aaV,aaX,wY,Nat.reduceAdd];first|done|omega|fail)|fail)only[yP,CB,aaY,aaV,aaX,wY,Nat.reduceAdd];done)|fail)only[go_sem,xF,CF,AP.f160L0,ln,hg,hA,i1,i2,k1,s1]
theorem Om (h:H) (e:xP) (v:AV) (hv:v.sc=true) (ok:yF h (e,v)):aU AP.A 160 [.agg (xA e v)] h=some (LN e,h):=by
 obtain⟨A,hA⟩:∃x,x=xA e v:=⟨_,rfl⟩
 have lA:A.length=9:=by rw[hA];rfl
 have cA:AV.aE A=true:=by rw[hA];exact yH hv
 have tA:List.take 9 A=A:=by rw[hA];rfl
 have g2:A[2]?=some v:=by rw[hA];rfl
 have g1:A[1]?=some (.bool e.gone):=by rw[hA];rfl
 have g3:A[3]?=some (.int .i64 e.xL):=by rw[hA];rfl
 have g4:A[4]?=some (.int .i64 e.node):=by rw[hA];rfl
 have x1:Ext h (h.eO.alloc A):=fun i c q=>((Ext.refl h.eO).alloc _) i c q
 have o1:=ok.mono x1
 have q1:aU AP.A 169 [.agg A] (h.eO.alloc A)=some (.bool (yy e),h.eO.alloc A):=by
  have:=J5 (h.eO.alloc A) v e o1.vec hv o1.vl
  rw[←hA]at this;exact this
 unfold LN
 cases hh:yy e with
 | false =>
   rw[hh]at q1
   rw[if_neg (by decide)]
   refine vP (fn:=AP.f160) (h2:=h.eO.alloc A) (e:=[(2,.str ⟨#[]⟩),(3,.int .i64 1200)]) rfl rfl rfl ?_ rfl rfl
   rw[←hA]
   simp (disch:=first|omega|(simp only[yP,aaV,aaX,wY,Nat.reduceAdd];first|done|omega|fail)|(simp (disch:=first|omega|(simp only[yP,aaV,aaX,wY,Nat.reduceAdd];first|done|omega|fail)|fail)only[yP,CB,aaY,aaV,aaX,wY,Nat.reduceAdd];done)|fail)only[go_sem,xF,CF,AP.f160,lA,cA,tA,q1]
 | true =>
   rw[hh]at q1
   rw[if_pos rfl]
   obtain⟨f1,f2,f3,f4⟩:=z9 hh
   have kk:∀(g:H) (x k:Nat),k≤8→aU AP.A 161 [.int .i64 x,.int .i64 k] g=some (.str (bytesOf (ya x k)),g):=fun g x k hk=>C9 g x k hk
   have k1:∀g,aU AP.A 161 [.int .i64 20592,.int .i64 2] g=some (.str (bytesOf (ya 20592 2)),g):=fun g=>kk g 20592 2 (by omega)
   have k2:∀g,aU AP.A 161 [.int .i64 22,.int .i64 2] g=some (.str (bytesOf (ya 22 2)),g):=fun g=>kk g 22 2 (by omega)
   have k3:∀g,aU AP.A 161 [.int .i64 e.xL,.int .i64 4] g=some (.str (bytesOf (ya e.xL.toNat 4)),g):=fun g=>by
    have:=kk g e.xL.toNat 4 (by omega)
    rw[show((e.xL.toNat:Nat):Int)=e.xL by omega]at this;exact this
   have k4:∀g,aU AP.A 161 [.int .i64 e.node,.int .i64 1] g=some (.str (bytesOf (ya e.node.toNat 1)),g):=fun g=>by
    have:=kk g e.node.toNat 1 (by omega)
    rw[show((e.node.toNat:Nat):Int)=e.node by omega]at this;exact this
   have k5:∀g,aU AP.A 161 [.int .i64 0,.int .i64 1] g=some (.str (bytesOf (ya 0 1)),g):=fun g=>kk g 0 1 (by omega)
   have k6:∀g,aU AP.A 161 [.int .i64 1,.int .i64 1] g=some (.str (bytesOf (ya 1 1)),g):=fun g=>kk g 1 1 (by omega)
   clear kk
   obtain⟨e',r1,r2,r3⟩:=GG (b:=h.next) (by omega) f2 (h.eO.alloc A) o1.vec (xE (by simp)) g2 e.vec [] (ya 20592 2++ya 22 2) rfl (by rw[xu,xR,xR];omega)
   have r1':Lp AP.A [1,4,5] AP.f160L0 [(1,.aG h.next 0),(4,.str (bytesOf (ya 20592 2++ya 22 2))),(5,.int .i64 0)] (h.eO.alloc A)=some (.exit 0,e',h.eO.alloc A):=r1
   clear r1
   have vl:=DK e.vec
   have s1:bC .add (.str (bytesOf (ya 20592 2))) (.str (bytesOf (ya 22 2)))=some (.str (bytesOf (ya 20592 2++ya 22 2))):=zj (by rw[xR,xR];omega)
   obtain⟨L1,hL1⟩:∃x,x=ya 20592 2++ya 22 2++CX e.vec:=⟨_,rfl⟩
   have l1:L1.length=20:=by rw[hL1,xu,xu,xR,xR,vl,f1]
   obtain⟨S1,h1⟩:∃x,x=bytesOf L1:=⟨_,rfl⟩
   obtain⟨S2,h2⟩:∃x,x=bytesOf (L1++ya e.xL.toNat 4):=⟨_,rfl⟩
   obtain⟨S3,h3⟩:∃x,x=bytesOf (L1++ya e.xL.toNat 4++ya e.node.toNat 1):=⟨_,rfl⟩
   obtain⟨S4,h4⟩:∃x,x=bytesOf (L1++ya e.xL.toNat 4++ya e.node.toNat 1++ya (if e.gone then 1 else 0) 1):=⟨_,rfl⟩
   have s2:bC .add (.str S1) (.str (bytesOf (ya e.xL.toNat 4)))=some (.str S2):=by rw[h1,h2];exact zj (by rw[xR];omega)
   have s3:bC .add (.str S2) (.str (bytesOf (ya e.node.toNat 1)))=some (.str S3):=by rw[h2,h3];exact zj (by rw[xu,xR,xR];omega)
   have s4:bC .add (.str S3) (.str (bytesOf (ya (if e.gone then 1 else 0) 1)))=some (.str S4):=by rw[h3,h4];exact zj (by rw[xu,xu,xR,xR,xR];omega)
   rw[show ya 20592 2++ya 22 2++CX e.vec=L1 from hL1.symm,←h1]at r3
   unfold D5
   rw[←hL1,←hA,←h4]
   clear hL1 o1 x1 ok h1 h2 h3 h4
   refine vP (fn:=AP.f160) (h2:=h.eO.alloc A) (e:=[(2,.str S4),(3,.int .i64 0)]) rfl rfl rfl ?_ rfl rfl
   cases hg:e.gone with
   | true =>
     rw[hg]at g1 s4
     rw[if_pos rfl]at s4
     simp (disch:=first|omega|(simp only[yP,aaV,aaX,wY,Nat.reduceAdd];first|done|omega|fail)|(simp (disch:=first|omega|(simp only[yP,aaV,aaX,wY,Nat.reduceAdd];first|done|omega|fail)|fail)only[yP,CB,aaY,aaV,aaX,wY,Nat.reduceAdd];done)|fail)only[go_sem,xF,CF,AP.f160,lA,cA,tA,q1,k1,k2,k3,k4,k5,k6,s1,s2,s3,s4,g1,g2,g3,g4,uo,r1',r2,r3]
   | false =>
     rw[hg]at g1 s4
     rw[if_neg (by decide)]at s4
     simp (disch:=first|omega|(simp only[yP,aaV,aaX,wY,Nat.reduceAdd];first|done|omega|fail)|(simp (disch:=first|omega|(simp only[yP,aaV,aaX,wY,Nat.reduceAdd];first|done|omega|fail)|fail)only[yP,CB,aaY,aaV,aaX,wY,Nat.reduceAdd];done)|fail)only[go_sem,xF,CF,AP.f160,lA,cA,tA,q1,k1,k2,k3,k4,k5,k6,s1,s2,s3,s4,g1,g2,g3,g4,uo,r1',r2,r3]
def DP (e:xP):List Nat:=ya e.name.size 1++EH e.name++D5 e++ya e.Bd.toNat 4
def La (e:xP):Option Nat:=if yi e=true then some (AM (DP e))else none
def Ph:Option Nat→AV
 |some n=>.bW [.int .i64 n,.int .i64 0]
 |none=>.bW [.int .i64 0,.int .i64 1500]
theorem IZ (l:List Nat):AM l<4294967296:=by unfold AM;omega
theorem JT (p:Nat) (ss:List ByteArray) (h:H) (hg:h.get p=some (ss.map AV.str)) (hs:∀s∈ss,s.size<1125899906842624) (hl:ss.length<1000000):∀(q pr:List ByteArray) (a:Nat),ss=pr++q→a<4294967296→
 ∃e',Lp AP.A [6,7,28,29,30] AP.f91L0 [(6,.fn 103 [] []),(7,.int .i64 a),(28,.aH p 0 ss.length 1),(29,.int .i64 ss.length),(30,.int .i64 pr.length)] h=some (.exit 0,e',h)∧look e' 7=.int .i64 (q.foldl zC a:Nat)
 | [], pr, a, hp, ha => by
   have e:ss.length=pr.length:=by rw[hp];simp
   refine⟨[(6,.fn 103 [] []),(7,.int .i64 a),(28,.aH p 0 ss.length 1),(29,.int .i64 ss.length),(30,.int .i64 pr.length),(31,.bool false)],u6 ?_,rfl⟩
   rw[e]
   simp (disch:=first|omega|(simp only[yP,aaV,aaX,wY,Nat.reduceAdd];first|done|omega|fail)|(simp (disch:=first|omega|(simp only[yP,aaV,aaX,wY,Nat.reduceAdd];first|done|omega|fail)|fail)only[yP,CB,aaY,aaV,aaX,wY,Nat.reduceAdd];done)|fail)only[go_sem,xF,CF,AP.f91L0]
 | s :: q, pr, a, hp, ha => by
   obtain⟨e',r1,r2⟩:=JT p ss h hg hs hl q (pr++[s]) (zC a s) (by rw[hp];simp) (Fb a s)
   have hlen:ss.length=pr.length+(q.length+1):=by rw[hp];simp
   have k1:=Ju h s a ha (hs s (by rw[hp];simp))
   have g1:(ss.map AV.str)[pr.length]?=some (.str s):=by rw[hp];simp
   have n1:((pr.length+1:Nat):Int)=(pr.length:Int)+1:=by omega
   rw[xu,show [s].length=1 from rfl,n1]at r1
   refine⟨e',u9 ?_ r1,r2⟩
   simp (disch:=first|omega|(simp only[yP,aaV,aaX,wY,Nat.reduceAdd];first|done|omega|fail)|(simp (disch:=first|omega|(simp only[yP,aaV,aaX,wY,Nat.reduceAdd];first|done|omega|fail)|fail)only[yP,CB,aaY,aaV,aaX,wY,Nat.reduceAdd];done)|fail)only[go_sem,xF,CF,AP.f91L0,hg,k1,g1]
theorem UZ (a b c d:ByteArray):[a,b,c,d].foldl zC 0=zT (a++b++c++d):=by
 show zC (zC (zC (zC 0 a) b) c) d=zC 0 _
 rw[Cw,Cw,Cw]
 congr 1
 simp only[ByteArray.append_assoc]
theorem Ls (s:ByteArray):Fa s=true↔s.size=0:=by
 unfold Fa
 rw[beq_iff_eq]
 constructor
 · intro h;rw[←KL];unfold EH;rw[h];rfl
 · intro h
   have:s.data.toList.length=0:=by rw[Array.length_toList];exact h
   rw[aa7 this]
theorem GB {e:xP} (h:yi e=true):yy e=true∧(1≤e.name.size∧e.name.size≤8)∧0≤e.Bd∧e.Bd≤4294967295:=by
 unfold yi AA at h
 split at h
 · cases h
 · rename_i hm
   have hm:yK [e]=true:=by cases q:yK [e]with|true=>rfl|false=>exact absurd q hm
   simp only[yK,yC,Dh,wT,abD]at hm
   obtain⟨⟨h1,h2,h3⟩,_⟩:=hm
   refine⟨h2, ?_, ?_⟩
   · simp only[yI,wT,aa1]at h1
     exact⟨h1.1,h1.2.1⟩
   · unfold zm at h3
     split at h3
     · simp only[wT,aa1]at h3;omega
     · simp only[wT,aa1,Bp]at h3;omega
theorem JU (e:xP):∀b∈DP e,b<256:=by
 intro b hb
 unfold DP at hb
 simp only[abA]at hb
 rcases hb with ((hb|hb)|hb)|hb
 · exact Bh _ _ b hb
 · exact NS _ b hb
 · exact O5 _ b hb
 · exact Bh _ _ b hb
theorem JV (e:xP):bytesOf (ya e.name.size 1)++e.name++bytesOf (D5 e)++bytesOf (ya e.Bd.toNat 4)=bytesOf (DP e):=by
 unfold DP
 rw[←AE,←AE,←AE,HR]
theorem IF {e:xP} (h:yy e=true):(D5 e).length=26:=by
 obtain⟨f1,_⟩:=z9 h
 unfold D5
 simp only[xu,xR,DK,f1]
set_option maxHeartbeats 1000000 in
theorem Mx (h:H) (hf:h.floor≤h.next) (e:xP) (v:AV) (hv:v.sc=true) (ok:yF h (e,v)):aU AP.A 91 [.agg (xA e v)] h=some (Ph (La e),h):=by
 obtain⟨A,hA⟩:∃x,x=xA e v:=⟨_,rfl⟩
 have lA:A.length=9:=by rw[hA];rfl
 have cA:AV.aE A=true:=by rw[hA];exact yH hv
 have tA:List.take 9 A=A:=by rw[hA];rfl
 have g0:A[0]?=some (.str e.name):=by rw[hA];rfl
 have g8:A[8]?=some (.int .i64 e.Bd):=by rw[hA];rfl
 have x1:Ext h (h.eO.alloc A):=fun i c q=>((Ext.refl h.eO).alloc _) i c q
 have o1:=ok.mono x1
 have f1:(h.eO.alloc A).floor≤(h.eO.alloc A).next:=by simp
 have q1:aU AP.A 96 [.agg A] (h.eO.alloc A)=some (.bool (yi e),h.eO.alloc A):=by
  have:=Jj (h.eO.alloc A) f1 e v hv o1
  rw[←hA]at this;exact this
 unfold La
 cases hm:yi e with
 | false =>
   rw[hm]at q1
   rw[if_neg (by decide)]
   refine vP (fn:=AP.f91) (h2:=h.eO.alloc A) (e:=[(2,.int .i64 0),(3,.int .i64 1500)]) rfl rfl rfl ?_ rfl rfl
   rw[←hA]
   simp (disch:=first|omega|(simp only[yP,aaV,aaX,wY,Nat.reduceAdd];first|done|omega|fail)|(simp (disch:=first|omega|(simp only[yP,aaV,aaX,wY,Nat.reduceAdd];first|done|omega|fail)|fail)only[yP,CB,aaY,aaV,aaX,wY,Nat.reduceAdd];done)|fail)only[go_sem,xF,CF,AP.f91,lA,cA,tA,q1]
 | true =>
   rw[hm]at q1
   rw[if_pos rfl]
   obtain⟨m1,m2,m3⟩:=GB hm
   have q2:aU AP.A 102 [.agg A] (h.eO.alloc A)=some (.bW [.str (bytesOf (D5 e)),.int .i64 0],h.eO.alloc A):=by
    have:=Sx (h.eO.alloc A) f1 e v hv o1
    unfold LN at this
    rw[if_pos m1,←hA]at this;exact this
   have q3:∀g,aU AP.A 104 [.int .i64 e.name.size,.int .i64 1] g=some (.str (bytesOf (ya e.name.size 1)),g):=fun g=>CE g e.name.size 1 (by omega) (by omega)
   have q4:∀g,aU AP.A 104 [.int .i64 e.Bd,.int .i64 4] g=some (.str (bytesOf (ya e.Bd.toNat 4)),g):=fun g=>by
    have:=CE g e.Bd.toNat 4 (by omega) (by omega)
    rw[show((e.Bd.toNat:Nat):Int)=e.Bd by omega]at this;exact this
   have pl:=IF m1
   obtain⟨T1,e1⟩:∃x,x=bytesOf (ya e.name.size 1):=⟨_,rfl⟩
   obtain⟨T3,e3⟩:∃x,x=bytesOf (D5 e):=⟨_,rfl⟩
   obtain⟨T4,e4⟩:∃x,x=bytesOf (ya e.Bd.toNat 4):=⟨_,rfl⟩
   have ds:=JV e
   rw[←e1,←e3,←e4]at ds
   rw[←e3]at q2
   rw[←e1]at q3
   rw[←e4]at q4
   have t1:T1.size=1:=by rw[e1,yq,xR]
   have t3:T3.size=26:=by rw[e3,yq,pl]
   have t4:T4.size=4:=by rw[e4,yq,xR]
   obtain⟨e',r1,r2⟩:=JT (h.next+1) [T1,e.name,T3,T4] ((h.eO.alloc A).alloc [.str T1,.str e.name,.str T3,.str T4]) (xE (by simp)) (by
    intro s hs
    simp only[xn,List.mem_nil_iff,or_false]at hs
    rcases hs with rfl|rfl|rfl|rfl<;>omega) (by simp) [T1,e.name,T3,T4] [] 0 rfl (by omega)
   rw[UZ,ds,BH (JU e)]at r2
   have r1':Lp AP.A [6,7,28,29,30] AP.f91L0 [(6,.fn 103 [] []),(7,.int .i64 0),(28,.aH (h.next+1) 0 4 1),(29,.int .i64 4),(30,.int .i64 0)] ((h.eO.alloc A).alloc [.str T1,.str e.name,.str T3,.str T4])=some (.exit 0,e',(h.eO.alloc A).alloc [.str T1,.str e.name,.str T3,.str T4]):=r1
   clear r1
   refine vP (fn:=AP.f91) (h2:=(h.eO.alloc A).alloc [.str T1,.str e.name,.str T3,.str T4]) (e:=[(2,.int .i64 (AM (DP e))),(3,.int .i64 0)]) rfl rfl rfl ?_ rfl rfl
   rw[←hA]
   clear ds e1 e3 e4 o1 x1 ok
   simp (disch:=first|omega|(simp only[yP,aaV,aaX,wY,Nat.reduceAdd];first|done|omega|fail)|(simp (disch:=first|omega|(simp only[yP,aaV,aaX,wY,Nat.reduceAdd];first|done|omega|fail)|fail)only[yP,CB,aaY,aaV,aaX,wY,Nat.reduceAdd];done)|fail)only[go_sem,xF,CF,AP.f91,lA,cA,tA,q1,q2,q3,q4,g0,g8,uo,r1',r2]
theorem Lb (h:H) (e:xP) (v:AV) (hv:v.sc=true) (ok:yF h (e,v)):aU AP.A 151 [.agg (xA e v)] h=some (Ph (La e),h):=by
 obtain⟨A,hA⟩:∃x,x=xA e v:=⟨_,rfl⟩
 have lA:A.length=9:=by rw[hA];rfl
 have cA:AV.aE A=true:=by rw[hA];exact yH hv
 have tA:List.take 9 A=A:=by rw[hA];rfl
 have g0:A[0]?=some (.str e.name):=by rw[hA];rfl
 have g8:A[8]?=some (.int .i64 e.Bd):=by rw[hA];rfl
 have x1:Ext h (h.eO.alloc A):=fun i c q=>((Ext.refl h.eO).alloc _) i c q
 have o1:=ok.mono x1
 have q1:aU AP.A 157 [.agg A] (h.eO.alloc A)=some (.bool (yi e),h.eO.alloc A):=by
  have:=BK (h.eO.alloc A) e v hv o1
  rw[←hA]at this;exact this
 unfold La
 cases hm:yi e with
 | false =>
   rw[hm]at q1
   rw[if_neg (by decide)]
   refine vP (fn:=AP.f151) (h2:=h.eO.alloc A) (e:=[(2,.int .i64 0),(3,.int .i64 1500)]) rfl rfl rfl ?_ rfl rfl
   rw[←hA]
   simp (disch:=first|omega|(simp only[yP,aaV,aaX,wY,Nat.reduceAdd];first|done|omega|fail)|(simp (disch:=first|omega|(simp only[yP,aaV,aaX,wY,Nat.reduceAdd];first|done|omega|fail)|fail)only[yP,CB,aaY,aaV,aaX,wY,Nat.reduceAdd];done)|fail)only[go_sem,xF,CF,AP.f151,lA,cA,tA,q1]
 | true =>
   rw[hm]at q1
   rw[if_pos rfl]
   obtain⟨m1,m2,m3⟩:=GB hm
   have q2:aU AP.A 160 [.agg A] (h.eO.alloc A)=some (.bW [.str (bytesOf (D5 e)),.int .i64 0],h.eO.alloc A):=by
    have:=Om (h.eO.alloc A) e v hv o1
    unfold LN at this
    rw[if_pos m1,←hA]at this;exact this
   have q3:∀g,aU AP.A 161 [.int .i64 e.name.size,.int .i64 1] g=some (.str (bytesOf (ya e.name.size 1)),g):=fun g=>C9 g e.name.size 1 (by omega)
   have q4:∀g,aU AP.A 161 [.int .i64 e.Bd,.int .i64 4] g=some (.str (bytesOf (ya e.Bd.toNat 4)),g):=fun g=>by
    have:=C9 g e.Bd.toNat 4 (by omega)
    rw[show((e.Bd.toNat:Nat):Int)=e.Bd by omega]at this;exact this
   have pl:=IF m1
   obtain⟨T1,e1⟩:∃x,x=bytesOf (ya e.name.size 1):=⟨_,rfl⟩
   obtain⟨T3,e3⟩:∃x,x=bytesOf (D5 e):=⟨_,rfl⟩
   obtain⟨T4,e4⟩:∃x,x=bytesOf (ya e.Bd.toNat 4):=⟨_,rfl⟩
   have ds:=JV e
   rw[←e1,←e3,←e4]at ds
   rw[←e3]at q2
   rw[←e1]at q3
   rw[←e4]at q4
   have t1:T1.size=1:=by rw[e1,yq,xR]
   have t3:T3.size=26:=by rw[e3,yq,pl]
   have t4:T4.size=4:=by rw[e4,yq,xR]
   have s1:bC .add (.str T1) (.str e.name)=some (.str (T1++e.name)):=EE (by omega)
   have s2:bC .add (.str (T1++e.name)) (.str T3)=some (.str (T1++e.name++T3)):=EE (by rw[ByteArray.size_append];omega)
   have s3:bC .add (.str (T1++e.name++T3)) (.str T4)=some (.str (bytesOf (DP e))):=by rw[←ds];exact EE (by rw[ByteArray.size_append,ByteArray.size_append];omega)
   have zz:(bytesOf (DP e)).size<1125899906842624:=by rw[←ds,ByteArray.size_append,ByteArray.size_append,ByteArray.size_append];omega
   have k1:∀g,aU AP.A 101 [.str (bytesOf (DP e))] g=some (.int .i64 (AM (DP e)),g):=fun g=>by rw[EU g _ zz,BH (JU e)]
   refine vP (fn:=AP.f151) (h2:=h.eO.alloc A) (e:=[(2,.int .i64 (AM (DP e))),(3,.int .i64 0)]) rfl rfl rfl ?_ rfl rfl
   rw[←hA]
   clear ds e1 e3 e4 o1 x1 ok zz
   generalize T1++e.name++T3=T6 at *
   generalize T1++e.name=T5 at *
   simp (disch:=first|omega|(simp only[yP,aaV,aaX,wY,Nat.reduceAdd];first|done|omega|fail)|(simp (disch:=first|omega|(simp only[yP,aaV,aaX,wY,Nat.reduceAdd];first|done|omega|fail)|fail)only[yP,CB,aaY,aaV,aaX,wY,Nat.reduceAdd];done)|fail)only[go_sem,xF,CF,AP.f151,lA,cA,tA,q1,q2,q3,q4,g0,g8,s1,s2,s3,k1]
def AL (l:List Int):List Nat:=l.flatMap fun n=>ya n.toNat 4
def Ei (l:List Int):Option Nat:=if l.all Bp=true then some (AM (AL l))else none
theorem Iq (l:List Int):∀b∈AL l,b<256:=KQ l
theorem GA {v : AV} {l : List Int} (hl : l.length < 1125899906842624) (h : H) (rd : Rd h v (ints l)) : ∀ (q p : List Int) (a : Nat), l = p ++ q → a < 4294967296 →
 (q.all Bp=true∧∃e',Lp AP.A [4,7,8,9] AP.f93L0 [(4,.int .i64 a),(7,v),(8,.int .i64 l.length),(9,.int .i64 p.length)] h=some (.exit 0,e',h)∧look e' 4=.int .i64 (zC a (bytesOf (AL q)):Nat))∨
 (q.all Bp=false∧∃e',Lp AP.A [4,7,8,9] AP.f93L0 [(4,.int .i64 a),(7,v),(8,.int .i64 l.length),(9,.int .i64 p.length)] h=some (.ret,e',h)∧look e' 2=.int .i64 0∧look e' 3=.int .i64 1500)
 | [], p, a, hp, ha => by
   left
   have e:l.length=p.length:=by rw[hp];simp
   refine⟨rfl,[(4,.int .i64 a),(7,v),(8,.int .i64 l.length),(9,.int .i64 p.length),(10,.bool false)],u6 ?_, ?_⟩
   · rw[e]
     simp (disch:=first|omega|(simp only[yP,aaV,aaX,wY,Nat.reduceAdd];first|done|omega|fail)|(simp (disch:=first|omega|(simp only[yP,aaV,aaX,wY,Nat.reduceAdd];first|done|omega|fail)|fail)only[yP,CB,aaY,aaV,aaX,wY,Nat.reduceAdd];done)|fail)only[go_sem,xF,CF,AP.f93L0]
   · show AV.int .i64 (a:Int)=.int .i64 ((zC a (bytesOf []):Nat):Int)
     rw[Dr]
     have:HV (4294967295-a) (EH (bytesOf []))=4294967295-a:=rfl
     rw[this];congr 1;omega
 | n :: q, p, a, hp, ha => by
   obtain⟨ad,a1,a2⟩:=rd.yL
   have hlen:l.length=p.length+(q.length+1):=by rw[hp];simp
   have i1:=a1 (p.length:Int) ⟨by omega,by omega⟩
   have i2:=a2 h (Ext.refl h) p.length n (by rw[hp];simp)
   have k1:=OE h n
   rw[abE]
   cases hn:Bp n with
   | false =>
     rw[hn]at k1
     right
     refine⟨rfl,[(2,.int .i64 0),(3,.int .i64 1500)],vF ?_,rfl,rfl⟩
     simp (disch:=first|omega|(simp only[yP,aaV,aaX,wY,Nat.reduceAdd];first|done|omega|fail)|(simp (disch:=first|omega|(simp only[yP,aaV,aaX,wY,Nat.reduceAdd];first|done|omega|fail)|fail)only[yP,CB,aaY,aaV,aaX,wY,Nat.reduceAdd];done)|fail)only[go_sem,xF,CF,AP.f93L0,i1,i2,k1]
   | true =>
     rw[hn]at k1
     rw[aa3]
     simp only[Bp,aa1]at hn
     have k2:∀g,aU AP.A 104 [.int .i64 n,.int .i64 4] g=some (.str (bytesOf (ya n.toNat 4)),g):=fun g=>by
      have:=CE g n.toNat 4 (by omega) (by omega)
      rw[show((n.toNat:Nat):Int)=n by omega]at this;exact this
     have k3:=Ju h (bytesOf (ya n.toNat 4)) a ha (by rw[yq,xR];omega)
     have n1:((p.length+1:Nat):Int)=(p.length:Int)+1:=by omega
     have ih:=GA hl h rd q (p++[n]) (zC a (bytesOf (ya n.toNat 4))) (by rw[hp];simp) (Fb _ _)
     rw[xu,show [n].length=1 from rfl,n1,Cw,AE]at ih
     rcases ih with ⟨g1,e',r1,r2⟩|⟨g1,e',r1,r2⟩
     · left
       refine⟨g1,e',u9 ?_ r1,r2⟩
       simp (disch:=first|omega|(simp only[yP,aaV,aaX,wY,Nat.reduceAdd];first|done|omega|fail)|(simp (disch:=first|omega|(simp only[yP,aaV,aaX,wY,Nat.reduceAdd];first|done|omega|fail)|fail)only[yP,CB,aaY,aaV,aaX,wY,Nat.reduceAdd];done)|fail)only[go_sem,xF,CF,AP.f93L0,i1,i2,k1,k2,k3]
     · right
       refine⟨g1,e',u9 ?_ r1,r2⟩
       simp (disch:=first|omega|(simp only[yP,aaV,aaX,wY,Nat.reduceAdd];first|done|omega|fail)|(simp (disch:=first|omega|(simp only[yP,aaV,aaX,wY,Nat.reduceAdd];first|done|omega|fail)|fail)only[yP,CB,aaY,aaV,aaX,wY,Nat.reduceAdd];done)|fail)only[go_sem,xF,CF,AP.f93L0,i1,i2,k1,k2,k3]
theorem MX (h:H) (v:AV) (l:List Int) (rd:Rd h v (ints l)) (hl:l.length<1125899906842624):aU AP.A 93 [v] h=some (Ph (Ei l),h):=by
 have rd':=rd.mono (xY h)
 have ln:=rd'.len
 rw[rk]at ln
 simp only[I]at ln
 unfold Ei
 rcases GA hl h.eO rd' l [] 0 rfl (by omega)with ⟨g1,e',r1,r2⟩|⟨g1,e',r1,r2,r3⟩
 · rw[if_pos g1]
   have r1':Lp AP.A [4,7,8,9] AP.f93L0 [(4,.int .i64 0),(7,v),(8,.int .i64 l.length),(9,.int .i64 0)] h.eO=some (.exit 0,e',h.eO):=r1
   have r2':look e' 4=.int .i64 (AM (AL l)):=by rw[r2,←BH (Iq l)];rfl
   refine vP (fn:=AP.f93) (h2:=h.eO) (e:=[(2,.int .i64 (AM (AL l))),(3,.int .i64 0)]) rfl rfl rfl ?_ rfl rfl
   simp (disch:=first|omega|(simp only[yP,aaV,aaX,wY,Nat.reduceAdd];first|done|omega|fail)|(simp (disch:=first|omega|(simp only[yP,aaV,aaX,wY,Nat.reduceAdd];first|done|omega|fail)|fail)only[yP,CB,aaY,aaV,aaX,wY,Nat.reduceAdd];done)|fail)only[go_sem,xF,CF,AP.f93,ln,uo,r1',r2']
 · rw[if_neg (by rw[g1];decide)]
   have r1':Lp AP.A [4,7,8,9] AP.f93L0 [(4,.int .i64 0),(7,v),(8,.int .i64 l.length),(9,.int .i64 0)] h.eO=some (.ret,e',h.eO):=r1
   refine vP (fn:=AP.f93) (h2:=h.eO) (e:=e') rfl rfl rfl ?_ (by simp only[AP.f93,c9,oL,r2,r3];rfl) rfl
   simp (disch:=first|omega|(simp only[yP,aaV,aaX,wY,Nat.reduceAdd];first|done|omega|fail)|(simp (disch:=first|omega|(simp only[yP,aaV,aaX,wY,Nat.reduceAdd];first|done|omega|fail)|fail)only[yP,CB,aaY,aaV,aaX,wY,Nat.reduceAdd];done)|fail)only[go_sem,xF,CF,AP.f93,ln,uo,r1']
theorem Yz (h:H) (x:Int):aU AP.A 162 [.int .i64 x] h=some (.bool (Bp x),h):=by
 refine vP (fn:=AP.f162) (h2:=h.eO) (e:=[(2,.bool (Bp x))]) rfl rfl rfl ?_ rfl rfl
 unfold Bp
 by_cases c1:0≤x
 · by_cases c2:x≤4294967295
   · simp (disch:=first|omega|(simp only[yP,aaV,aaX,wY,Nat.reduceAdd];first|done|omega|fail)|(simp (disch:=first|omega|(simp only[yP,aaV,aaX,wY,Nat.reduceAdd];first|done|omega|fail)|fail)only[yP,CB,aaY,aaV,aaX,wY,Nat.reduceAdd];done)|fail)only[go_sem,xF,CF,AP.f162]
   · simp (disch:=first|omega|(simp only[yP,aaV,aaX,wY,Nat.reduceAdd];first|done|omega|fail)|(simp (disch:=first|omega|(simp only[yP,aaV,aaX,wY,Nat.reduceAdd];first|done|omega|fail)|fail)only[yP,CB,aaY,aaV,aaX,wY,Nat.reduceAdd];done)|fail)only[go_sem,xF,CF,AP.f162]
 · simp (disch:=first|omega|(simp only[yP,aaV,aaX,wY,Nat.reduceAdd];first|done|omega|fail)|(simp (disch:=first|omega|(simp only[yP,aaV,aaX,wY,Nat.reduceAdd];first|done|omega|fail)|fail)only[yP,CB,aaY,aaV,aaX,wY,Nat.reduceAdd];done)|fail)only[go_sem,xF,CF,AP.f162]
theorem Fk {v : AV} {l : List Int} (hl : l.length < 281474976710656) (h : H) (rd : Rd h v (ints l)) : ∀ (q p : List Int) (acc : List Nat), l = p ++ q → acc.length + 4 * q.length < 1125899906842624 →
 (q.all Bp=true∧∃e',Lp AP.A [0,4,5] AP.f152L0 [(0,v),(4,.str (bytesOf acc)),(5,.int .i64 p.length)] h=some (.exit 0,e',h)∧look e' 4=.str (bytesOf (acc++AL q)))∨
 (q.all Bp=false∧∃e',Lp AP.A [0,4,5] AP.f152L0 [(0,v),(4,.str (bytesOf acc)),(5,.int .i64 p.length)] h=some (.ret,e',h)∧look e' 2=.int .i64 0∧look e' 3=.int .i64 1500)
 | [], p, acc, hp, ha => by
   left
   have e:l.length=p.length:=by rw[hp];simp
   have ln:=rd.len
   rw[rk]at ln
   simp only[I]at ln
   refine⟨rfl,[(0,v),(4,.str (bytesOf acc)),(5,.int .i64 p.length),(9,.bool false)],u6 ?_,by simp [AL,look]⟩
   rw[e]at ln
   simp (disch:=first|omega|(simp only[yP,aaV,aaX,wY,Nat.reduceAdd];first|done|omega|fail)|(simp (disch:=first|omega|(simp only[yP,aaV,aaX,wY,Nat.reduceAdd];first|done|omega|fail)|fail)only[yP,CB,aaY,aaV,aaX,wY,Nat.reduceAdd];done)|fail)only[go_sem,xF,CF,AP.f152L0,ln]
 | n :: q, p, acc, hp, ha => by
   rw[aaV]at ha
   have ln:=rd.len
   rw[rk]at ln
   simp only[I]at ln
   obtain⟨ad,a1,a2⟩:=rd.yL
   have hlen:l.length=p.length+(q.length+1):=by rw[hp];simp
   have i1:=a1 (p.length:Int) ⟨by omega,by omega⟩
   have i2:=a2 h (Ext.refl h) p.length n (by rw[hp];simp)
   have k1:=Yz h n
   rw[abE]
   cases hn:Bp n with
   | false =>
     rw[hn]at k1
     right
     refine⟨rfl,[(2,.int .i64 0),(3,.int .i64 1500)],vF ?_,rfl,rfl⟩
     simp (disch:=first|omega|(simp only[yP,aaV,aaX,wY,Nat.reduceAdd];first|done|omega|fail)|(simp (disch:=first|omega|(simp only[yP,aaV,aaX,wY,Nat.reduceAdd];first|done|omega|fail)|fail)only[yP,CB,aaY,aaV,aaX,wY,Nat.reduceAdd];done)|fail)only[go_sem,xF,CF,AP.f152L0,ln,i1,i2,k1]
   | true =>
     rw[hn]at k1
     rw[aa3]
     simp only[Bp,aa1]at hn
     have k2:∀g,aU AP.A 161 [.int .i64 n,.int .i64 4] g=some (.str (bytesOf (ya n.toNat 4)),g):=fun g=>by
      have:=C9 g n.toNat 4 (by omega)
      rw[show((n.toNat:Nat):Int)=n by omega]at this;exact this
     have s1:bC .add (.str (bytesOf acc)) (.str (bytesOf (ya n.toNat 4)))=some (.str (bytesOf (acc++ya n.toNat 4))):=zj (by rw[xR];omega)
     have n1:((p.length+1:Nat):Int)=(p.length:Int)+1:=by omega
     have ih:=Fk hl h rd q (p++[n]) (acc++ya n.toNat 4) (by rw[hp];simp) (by rw[xu,xR];omega)
     rw[xu,show [n].length=1 from rfl,n1]at ih
     rcases ih with ⟨g1,e',r1,r2⟩|⟨g1,e',r1,r2⟩
     · left
       refine⟨g1,e',u9 ?_ r1,by rw[r2];simp [AL]⟩
       simp (disch:=first|omega|(simp only[yP,aaV,aaX,wY,Nat.reduceAdd];first|done|omega|fail)|(simp (disch:=first|omega|(simp only[yP,aaV,aaX,wY,Nat.reduceAdd];first|done|omega|fail)|fail)only[yP,CB,aaY,aaV,aaX,wY,Nat.reduceAdd];done)|fail)only[go_sem,xF,CF,AP.f152L0,ln,i1,i2,k1,k2,s1]
     · right
       refine⟨g1,e',u9 ?_ r1,r2⟩
       simp (disch:=first|omega|(simp only[yP,aaV,aaX,wY,Nat.reduceAdd];first|done|omega|fail)|(simp (disch:=first|omega|(simp only[yP,aaV,aaX,wY,Nat.reduceAdd];first|done|omega|fail)|fail)only[yP,CB,aaY,aaV,aaX,wY,Nat.reduceAdd];done)|fail)only[go_sem,xF,CF,AP.f152L0,ln,i1,i2,k1,k2,s1]
theorem Kf (h:H) (v:AV) (l:List Int) (rd:Rd h v (ints l)) (hl:l.length<140737488355328):aU AP.A 152 [v] h=some (Ph (Ei l),h):=by
 have rd':=rd.mono (xY h)
 unfold Ei
 rcases Fk (by omega) h.eO rd' l [] [] rfl (by rw[aaX];omega)with ⟨g1,e',r1,r2⟩|⟨g1,e',r1,r2,r3⟩
 · rw[if_pos g1]
   have r1':Lp AP.A [0,4,5] AP.f152L0 [(0,v),(4,.str ⟨#[]⟩),(5,.int .i64 0)] h.eO=some (.exit 0,e',h.eO):=r1
   have zz:(bytesOf (AL l)).size<1125899906842624:=by
    rw[yq];have:=DK l;unfold CX at this;unfold AL;rw[this];omega
   have k1:∀g,aU AP.A 101 [.str (bytesOf (AL l))] g=some (.int .i64 (AM (AL l)),g):=fun g=>by rw[EU g _ zz,BH (Iq l)]
   rw[abB]at r2
   refine vP (fn:=AP.f152) (h2:=h.eO) (e:=[(2,.int .i64 (AM (AL l))),(3,.int .i64 0)]) rfl rfl rfl ?_ rfl rfl
   simp (disch:=first|omega|(simp only[yP,aaV,aaX,wY,Nat.reduceAdd];first|done|omega|fail)|(simp (disch:=first|omega|(simp only[yP,aaV,aaX,wY,Nat.reduceAdd];first|done|omega|fail)|fail)only[yP,CB,aaY,aaV,aaX,wY,Nat.reduceAdd];done)|fail)only[go_sem,xF,CF,AP.f152,uo,r1',r2,k1]
 · rw[if_neg (by rw[g1];decide)]
   have r1':Lp AP.A [0,4,5] AP.f152L0 [(0,v),(4,.str ⟨#[]⟩),(5,.int .i64 0)] h.eO=some (.ret,e',h.eO):=r1
   refine vP (fn:=AP.f152) (h2:=h.eO) (e:=e') rfl rfl rfl ?_ (by simp only[AP.f152,c9,oL,r2,r3];rfl) rfl
   simp (disch:=first|omega|(simp only[yP,aaV,aaX,wY,Nat.reduceAdd];first|done|omega|fail)|(simp (disch:=first|omega|(simp only[yP,aaV,aaX,wY,Nat.reduceAdd];first|done|omega|fail)|fail)only[yP,CB,aaY,aaV,aaX,wY,Nat.reduceAdd];done)|fail)only[go_sem,xF,CF,AP.f152,uo,r1']
def N3 (e:xP):Nat:=128+2* e.name.size+e.packed.size
def DF:List xP→Nat
 |[]=>0
 |e::l=>N3 e+DF l
theorem EG (a b:List xP):DF (a++b)=DF a+DF b:=by
 induction a with
 |nil=>simp [DF]
 |cons x a ih=>rw[List.cons_append,DF,DF,ih];omega
def zM (l:List xP):Nat:=22+DF l
def yh (l:List xP):Bool:=yK l&&l.all yi
theorem Dv:∀{l:List xP} {p:Option xP},yC p l=true→∀e∈l,yI e.name=true∧yy e=true∧zm e=true
 |[],_,_,e,h=>by cases h
 | x :: l, p, hm, e, h => by
   rw[yC,wT]at hm
   rcases xn.1 h with rfl|h
   · have:=hm.1
     unfold zt at this
     simp only[wT]at this
     exact⟨this.1,this.2.2.1,this.2.2.2⟩
   · exact Dv hm.2 e h
theorem A0 {e:xP} (h:zm e=true):e.packed.size≤300:=by
 unfold zm at h
 split at h
 · simp only[wT]at h
   have:=(Ls _).1 h.2.1
   omega
 · simp only[wT,xh,aa1]at h
   omega
theorem zq {s:ByteArray} (h:yI s=true):1≤s.size∧s.size≤8:=by
 unfold yI at h
 simp only[wT,aa1]at h
 omega
theorem NP:∀{l:List xP},(∀e∈l,yI e.name=true∧yy e=true∧zm e=true)→DF l≤444* l.length
 |[],_=>by simp [DF]
 | e :: l, h => by
   have i:=NP (l:=l) fun x hx=>h x (by simp [hx])
   obtain⟨h1,_,h3⟩:=h e (by simp)
   have:=zq h1
   have:=A0 h3
   rw[DF,aaV];unfold N3;omega
theorem yu {l:List xP} (h:yK l=true):l.length≤6∧(∀e∈l,yI e.name=true∧yy e=true∧zm e=true)∧zM l≤4096:=by
 unfold yK at h
 simp only[wT,aa1]at h
 have a:=Dv h.1
 have:=NP a
 exact⟨h.2,a,by unfold zM;omega⟩
def CI (e:xP):Nat:=zT e.name%8
def Mw (e:xP):Int:=((AM (DP e):Nat):Int)
def yO (l:List xP) (b:Nat):List Int:=(l.filter fun e=>CI e==b).map Mw
theorem Ga (l:List xP) (e:xP) (b:Nat):yO (l++[e]) b=if CI e=b then yO l b++[Mw e]else yO l b:=by
 unfold yO
 rw[List.filter_append,abg]
 by_cases c:CI e=b
 · rw[if_pos c];simp [c]
 · rw[if_neg c];simp [c]
theorem C8 (l:List xP) (b:Nat):(yO l b).length≤l.length:=by
 unfold yO;rw[aa0];exact abv _ _
theorem JI (l:List xP) (b:Nat):(yO l b).all Bp=true:=by
 unfold yO
 rw[List.all_map,aba]
 intro e _
 have:=IZ (DP e)
 simp [Function.comp,Bp,Mw]
 omega
def xZ (l:List Int):Int:=((AM (AL l):Nat):Int)
theorem Ip {l:List Int} (h:l.all Bp=true):Ei l=some (AM (AL l)):=by unfold Ei;rw[if_pos h]
theorem Ir (l:List Int):Bp (xZ l)=true:=by
 have:=IZ (AL l)
 simp [Bp,xZ]
 omega
def xQ (l:List xP):List Int:=(List.range 8).map fun b=>xZ (yO l b)
theorem x9 (l:List xP):(xQ l).length=8:=by simp [xQ]
theorem Ca (l:List xP):(xQ l).all Bp=true:=by
 unfold xQ
 rw[List.all_map,aba]
 exact fun b _=>Ir _
def Bq:Option Int→List Int→Bool
 |_,[]=>true
 |p,b::l=>(decide (0≤b)&&(decide (b<8)&&(match p with|none=>true|some q=>decide (q<b))))&&Bq (some b) l
def BW (l:List Int):Bool:=Bq none l
abbrev L3:=ByteArray×List Int
def yA (l:List xP) (bs:List Int):List L3:=(l.filter fun e=>bs.contains ((CI e:Nat):Int)).map fun e=>(e.name,e.vec)
structure Bu (h:H) (A:Nat) (C:Nat→AV) (ls:Nat→List Int):Prop where
 get:h.get A=some (oV 8 C)
 fl:h.floor≤A
 nx:h.floor≤h.next
 own:∀n,n<8→x8 1 h (C n) (ls n).length (ints (ls n))
 JX:∀n m,n<8→m<8→n≠m→∀i,(C n).id?=some i→(C m).id?≠some i
 gt:∀n,n<8→∀i,(C n).id?=some i→A<i
theorem Bu.mono {h g:H} {A:Nat} {C:Nat→AV} {ls:Nat→List Int} (b:Bu h A C ls) (hf:g.floor=h.floor) (hn:h.next≤g.next) (hg:∀i,i<h.next→g.get i=h.get i):Bu g A C ls:=
 ⟨by rw[hg A (h.lt _ _ b.get)];exact b.get,by rw[hf];exact b.fl,by rw[hf];exact xq b.nx hn,fun n hn'=>(b.own n hn').mono hf fun i q=>hg i ((b.own n hn').lt q).2,b.JX,b.gt⟩
theorem Bu.push {h : H} {A : Nat} {C : Nat → AV} {ls : Nat → List Int} (b : Bu h A C ls) {n : Nat} (hn : n < 8) (hl : (ls n).length < 1000000) (x : Int) :
 ∃ v' h', mo (h.alloc [.int .i64 x]) 1 8 (C n) (.aH h.next 0 1 1) = some (v', h') ∧ v'.sc = true ∧ h'.get A = some (oV 8 C) ∧ h'.floor = h.floor ∧ h.next ≤ h'.next ∧
   Bu (h'.set A (oV 8 (vT C n v'))) A (vT C n v') (fun m=>if m=n then ls n++[x]else ls m)∧∀i,i<A→h'.get i=h.get i:=by
 have o:=b.own n hn
 obtain⟨v',h',p1,p2,p3,p4,p5,p6⟩:=o.push b.nx (z:=8) (m:=1) (by omega) (by omega) [.int .i64 x] rfl rfl (by simp [roomy];omega)
 have hA:=h.lt _ _ b.get
 have nA:(C n).id?≠some A:=fun q=>by have:=b.gt n hn A q;omega
 have gA:h'.get A=some (oV 8 C):=by rw[p5 A nA hA];exact b.get
 refine⟨v',h',p1,p2.sc,gA,p3,by omega,⟨by rw[xH rfl,gA];rfl,by simp [p3,b.fl],by simp [p3];have:=b.nx;omega,fun m hm=> ?_,fun m k hm hk hmk i q=> ?_,fun m hm i q=> ?_⟩,fun i hi=>p5 i (fun q=>by have:=b.gt n hn i q;omega) (by omega)⟩
 · by_cases c:m=n
   · subst c
     have e:ints (ls m)++[.int .i64 x]=ints (ls m++[x]):=by simp [ints,I]
     rw[e]at p2
     simp only[vT,if_true,xu,List.length_singleton]
     exact p2.mono (by simp) fun i q=>by rw[xC];rw[p6]at q;have:=wH q;omega
   · simp only[vT,if_neg c]
     refine(b.own m hm).mono (by simp [p3]) fun i q=> ?_
     have h1:=((b.own m hm).lt q).2
     have h2:=b.gt m hm i q
     rw[xC (by omega),p5 i (fun q2=>b.JX m n hm hn c i q q2) h1]
 · unfold vT at q ⊢
   by_cases c1:m=n
   · rw[if_pos c1,p6]at q
     have e:=wH q
     rw[if_neg (by omega)]
     intro q2
     have:=((b.own k hk).lt q2).2
     omega
   · rw[if_neg c1]at q
     by_cases c2:k=n
     · rw[if_pos c2,p6]
       intro q2
       have e:=wH q2
       have:=((b.own m hm).lt q).2
       omega
     · rw[if_neg c2]
       exact b.JX m k hm hk hmk i q
 · unfold vT at q
   by_cases c:m=n
   · rw[if_pos c,p6]at q
     have e:=wH q
     omega
   · rw[if_neg c]at q
     exact b.gt m hm i q
theorem Bu.new {h:H} (hf:h.floor≤h.next):Bu (h.alloc (oV 8 fun _=>.aS)) h.next (fun _=>.aS) (fun _=>[]):=
 ⟨xE rfl,by simpa using hf,by simp;omega,fun n _=>x8.nil,fun n m _ _ _ i q=>(by cases q),fun n _ i q=>(by cases q)⟩
theorem yM.Fq {n:Nat} {h g:H} {v:AV} {k:Nat} {cs:List AV} (r:yM n h v k cs) (hg:∀i,v.id?=some i→g.get i=h.get i):yM n g v k cs:=by
 obtain⟨r,hl,hs⟩:=r
 refine⟨?_,hl,hs⟩
 unfold aV at r ⊢
 split at r
 · exact r
 · exact r
 · rename_i id off len s
   split at r
   · rename_i q
     rw[if_pos q,hg id rfl];exact r
   · cases r
 · exact r
 · cases r
theorem Rd.Fq {h g:H} {v:AV} {cs:List AV} (r:Rd h v cs) (hg:∀i,v.id?=some i→g.get i=h.get i):Rd g v cs:=by
 have:=r.HB.Fq hg
 exact⟨this.1,this.2.2⟩
theorem yF.Fq {h g:H} {x:xN} (o:yF h x) (hg:∀i,x.2.id?=some i→g.get i=h.get i):yF g x:=⟨o.vec.Fq hg,o.vl,o.nl,o.pl⟩
theorem EY (l:List xN) (x:xN):xG (l++[x])=xG l++xA x.1 x.2:=by simp [xG,Jk]
theorem HZ:∀{l:List xN},(∀x∈l,x.2.sc=true)→AV.aE (xG l)=true
 |[],_=>rfl
 | x :: l, h => by
   have i:=HZ (l:=l) fun y hy=>h y (by simp [hy])
   have hx:=h x (by simp)
   show AV.aE (xA x.1 x.2++xG l)=true
   simp [xA,hx,i]
theorem yM.HY {h:H} {v:AV} {l:List xN} (rd:yM 9 h v l.length (xG l)):∃ad:Int→Nat→AV,(∀i:Int,0≤i∧i<l.length→gZ 9 v (.int .i64 i)=some (ad i 0))∧
 (∀g,Ext h g→∀(i:Nat) (x:xN),l[i]?=some x→PE g (ad i 0) (xA x.1 x.2)∧cf true 9 (ad i 0) g=some (.agg (xA x.1 x.2))):=by
 obtain⟨ad,a1,a2,a4,a3⟩:=rd.at_
 refine⟨ad,a1,fun g hg i x hx=> ?_⟩
 have hi:i<l.length:=(wO.1 hx).1
 have hI:(0:Int)≤(i:Int)∧(i:Int)<l.length:=⟨by omega,by omega⟩
 refine⟨⟨fun g'=>a4 _ 0 g' hI,fun k=>ad i (0+k),fun k=>a2 _ 0 k hI,fun g' hg' k c hc=> ?_⟩, ?_⟩
 · have hk:k<9:=(wO.1 hc).1
   refine(a3 g' (fun id c q=>hg' id c (hg id c q))).1 _ _ _ hI ?_
   rw[yZ,wY,show xG l=l.flatMap Jk from rfl,Bm AB hx hk];exact hc
 · rw[(a3 g hg).2 _ hI,yZ,show xG l=l.flatMap Jk from rfl,Hc AB hx];rfl
theorem KZ {v:AV} {l:List xN} (h:H) (b:Nat) (hb:h.get b=some [v]) (rd:yM 9 h v l.length (xG l)) (hm:yK (l.map (·.1))=true):∀(q p:List xN),l=p++q→
 ∃e',Lp AP.A [0,3,10,11] AP.f192L0 [(0,.aG b 0),(3,.int .i64 (22+DF (p.map (·.1)):Nat)),(10,.int .i64 l.length),(11,.int .i64 p.length)] h=some (.exit 0,e',h)∧look e' 3=.int .i64 (zM (l.map (·.1)):Nat)
 | [], p, hp => by
   rw[aa2]at hp;subst hp
   refine⟨[(0,.aG b 0),(3,.int .i64 (22+DF (l.map (·.1)):Nat)),(10,.int .i64 l.length),(11,.int .i64 l.length),(12,.bool false)],u6 ?_,rfl⟩
   simp (disch:=omega)only[go_sem,xF,AP.f192L0]
 | x :: q, p, hp => by
   obtain⟨m1,m2,m3⟩:=yu hm
   have hx:l[p.length]?=some x:=by rw[hp];simp
   have hlen:l.length=p.length+(q.length+1):=by rw[hp];simp
   rw[aa0]at m1
   obtain⟨_,_,c3⟩:=m2 x.1 (by rw[hp];simp)
   have c1:=zq (m2 x.1 (by rw[hp];simp)).1
   have c2:=A0 c3
   obtain⟨ad,a1,a2⟩:=rd.HY
   have b1:=a1 p.length ⟨by omega,by omega⟩
   obtain⟨pe,_⟩:=a2 h (Ext.refl h) p.length x hx
   have nl:=pe.nil
   obtain⟨qq,f1,f2⟩:=pe.vm
   have l0:=f2 h (Ext.refl h) 0 _ rfl
   have l6:=f2 h (Ext.refl h) 6 _ rfl
   obtain⟨e',r1,r2⟩:=KZ h b hb rd hm q (p++[x]) (by rw[hp];simp)
   have sz:zM (l.map (·.1))=22+(DF (p.map (·.1))+(N3 x.1+DF (q.map (·.1)))):=by unfold zM;rw[hp,abg,EG,aa5,DF]
   have e1:22+DF ((p++[x]).map (·.1))=22+DF (p.map (·.1))+N3 x.1:=by rw[abg,EG];simp [DF];omega
   have n1:((p++[x]).length:Int)=(p.length:Int)+1:=by simp
   rw[e1,n1]at r1
   have se:N3 x.1=128+2* x.1.name.size+x.1.packed.size:=rfl
   obtain⟨N,hN⟩:∃N,N=22+DF (p.map (·.1)):=⟨_,rfl⟩
   rw[←hN]at r1 ⊢
   have hN2:N≤4096:=by omega
   have w:(N:Int)+(76+2* ((x.1.name.size:Int)+26)+(x.1.packed.size:Int))=((N+N3 x.1:Nat):Int):=by omega
   refine⟨e',u9 ?_ r1,r2⟩
   clear r1 r2 e1 sz hN rd a1 a2 f2 pe m2 m3 hm hp n1
   simp (disch:=omega)only[go_sem,xF,AP.f192L0,hb,b1,nl,f1,l0,l6,w]
theorem Pr {v:AV} {l:List xN} (h:H) (b:Nat) (hb:h.get b=some [v]) (rd:yM 9 h v l.length (xG l)) (hm:yK (l.map (·.1))=true):aU AP.A 192 [.aG b 0] h=some (.int .i64 (zM (l.map (·.1)):Nat),h):=by
 obtain⟨e',r1,r2⟩:=KZ h b hb rd hm l [] rfl
 have ln:=rd.len
 have r1':Lp AP.A [0,3,10,11] AP.f192L0 [(0,.aG b 0),(3,.int .i64 22),(10,.int .i64 l.length),(11,.int .i64 0)] h=some (.exit 0,e',h):=r1
 clear rd r1 hm
 generalize zM (l.map (·.1))=N at *
 refine vv (fn:=AP.f192) (h2:=h) (e:=[(2,.int .i64 N)]) (vs:=[.int .i64 N]) rfl rfl rfl ?_ rfl
 simp (disch:=omega)only[go_sem,xF,AP.f192,hb,ln,uo,r1',r2]
theorem yx (v:AV):iO true 1 [v] 0=some (.agg [v]):=rfl
theorem Pq (h:H) (v:AV) (l:List xN) (hvs:v.sc=true) (hn:l.length<1125899906842624) (rd:yM 9 h v l.length (xG l)) (hv:∀x∈l,yF h x):aU AP.A 190 [.agg [v]] h=some (.int .i64 (if yK (l.map (·.1))=true then(zM (l.map (·.1)):Nat)else(0:Nat):Nat),h):=by
 obtain⟨h1,eh1⟩:∃g,g=h.eO.alloc [v]:=⟨_,rfl⟩
 have hx0:Ext h h1:=by rw[eh1];exact fun i c q=>((Ext.refl h.eO).alloc _) i c q
 have hn0:h.eO.next=h.next:=rfl
 have g1:h1.get h.next=some [v]:=by rw[eh1];exact xE rfl
 have zK:=rd.mono fun i c q=>hx0 i c q
 have k1:=N2 h1 v l hvs hn zK (fun x hx=>(hv x hx).mono hx0)
 cases hm:yK (l.map (·.1))with
 | false =>
   rw[hm]at k1
   refine vP (fn:=AP.f190) (h2:=h1) (e:=[(2,.int .i64 0)]) (vs:=[.int .i64 0]) rfl rfl rfl ?_ rfl rfl
   clear rd zK hv hx0
   simp (disch:=omega)only[go_sem,xF,AP.f190,hvs,hn0,←eh1,g1,yx,k1]
 | true =>
   rw[hm]at k1
   have k2:=Pr h1 h.next g1 zK hm
   refine vP (fn:=AP.f190) (h2:=h1) (e:=[(2,.int .i64 (zM (l.map (·.1)):Nat))]) (vs:=[.int .i64 (zM (l.map (·.1)):Nat)]) rfl rfl rfl ?_ rfl rfl
   clear rd zK hv hx0
   simp (disch:=omega)only[go_sem,xF,AP.f190,hvs,hn0,←eh1,g1,yx,k1,k2]
theorem UT (h:H) (v:AV) (l:List xN) (hvs:v.sc=true) (hn:l.length<1125899906842624) (rd:yM 9 h v l.length (xG l)) (hv:∀x∈l,yF h x):aU AP.A 186 [.agg [v]] h=some (.bool (yK (l.map (·.1))),h):=by
 obtain⟨h1,eh1⟩:∃g,g=h.eO.alloc [v]:=⟨_,rfl⟩
 have hx0:Ext h h1:=by rw[eh1];exact fun i c q=>((Ext.refl h.eO).alloc _) i c q
 have hn0:h.eO.next=h.next:=rfl
 have g1:h1.get h.next=some [v]:=by rw[eh1];exact xE rfl
 have zK:=rd.mono fun i c q=>hx0 i c q
 have k1:=Pq h1 v l hvs hn zK (fun x hx=>(hv x hx).mono hx0)
 cases hm:yK (l.map (·.1))with
 | false =>
   rw[hm]at k1
   have k1':aU AP.A 190 [.agg [v]] h1=some (.int .i64 0,h1):=k1
   refine vP (fn:=AP.f186) (h2:=h1) (e:=[(2,.bool false)]) (vs:=[.bool false]) rfl rfl rfl ?_ rfl rfl
   clear rd zK hv hx0
   simp (disch:=omega)only[go_sem,xF,AP.f186,hvs,hn0,←eh1,g1,yx,k1']
 | true =>
   rw[hm]at k1
   have k1':aU AP.A 190 [.agg [v]] h1=some (.int .i64 (zM (l.map (·.1)):Nat),h1):=k1
   have m3:=(yu hm).2.2
   have m4:22≤zM (l.map (·.1)):=by unfold zM;omega
   generalize zM (l.map (·.1))=N at *
   refine vP (fn:=AP.f186) (h2:=h1) (e:=[(2,.bool true)]) (vs:=[.bool true]) rfl rfl rfl ?_ rfl rfl
   clear rd zK hv hx0 k1 hm
   simp (disch:=omega)only[go_sem,xF,AP.f186,hvs,hn0,←eh1,g1,yx,k1']
theorem SD (h:H) (hf:h.floor≤h.next) (e:xP) (v:AV) (hv:v.sc=true) (ok:yF h (e,v)):aU AP.A 188 [.agg (xA e v)] h=some (.bool (!yi e),h):=by
 obtain⟨h1,eh1⟩:∃g,g=h.eO.alloc (xA e v):=⟨_,rfl⟩
 have hx1:Ext h h1:=fun i c q=>by rw[eh1];exact((Ext.refl h.eO).alloc _) i c q
 have hn0:h.eO.next=h.next:=rfl
 have g0:h1.get h.next=some (xA e v):=by rw[eh1,xE (by simp)]
 have k1:=Jj h1 (by rw[eh1];simp) e v hv (ok.mono hx1)
 have rdA:iO true 9 (xA e v) 0=some (.agg (xA e v)):=rfl
 refine vP (fn:=AP.f188) (h2:=h1) (e:=[(2,.bool (!yi e))]) rfl rfl rfl ?_ rfl rfl
 clear hx1
 simp only[xA]at *
 simp (disch:=omega)only[go_sem,xF,AP.f188,hv,hn0,←eh1,g0,rdA,k1]
theorem J6 {v : AV} {l : List xN} (hl : l.length < 1000) (h : H) (hf : h.floor ≤ h.next) (rd : yM 9 h v l.length (xG l)) (hv : ∀ x ∈ l, yF h x ∧ x.2.sc = true) : ∀ (q p : List xN), l = p ++ q →
 (∃e',Lp AP.A [0,1,7,8] AP.f191L0 [(0,v),(1,.fn 188 [] []),(7,.int .i64 l.length),(8,.int .i64 p.length)] h=some (.exit 0,e',h)∧(q.map (·.1)).all yi=true)∨
 (∃e',Lp AP.A [0,1,7,8] AP.f191L0 [(0,v),(1,.fn 188 [] []),(7,.int .i64 l.length),(8,.int .i64 p.length)] h=some (.ret,e',h)∧(∃k:Nat,look e' 4=.int .i64 k)∧(q.map (·.1)).all yi=false)
 | [], p, hp => by
   rw[aa2]at hp;subst hp
   refine .inl ⟨[(0,v),(1,.fn 188 [] []),(7,.int .i64 l.length),(8,.int .i64 l.length),(9,.bool false)],u6 ?_,rfl⟩
   simp (disch:=omega)only[go_sem,xF,AP.f191L0]
 | x :: q, p, hp => by
   have hx:l[p.length]?=some x:=by rw[hp];simp
   have hlen:l.length=p.length+(q.length+1):=by rw[hp];simp
   obtain⟨ad,a1,a2⟩:=rd.HY
   have b1:=a1 p.length ⟨by omega,by omega⟩
   obtain⟨_,b2⟩:=a2 h (Ext.refl h) p.length x hx
   obtain⟨ok,sc⟩:=hv x (by rw[hp];simp)
   have k1:=SD h hf x.1 x.2 sc ok
   have n1:((p++[x]).length:Int)=(p.length:Int)+1:=by simp
   have ih:=J6 hl h hf rd hv q (p++[x]) (by rw[hp];simp)
   rw[n1]at ih
   rw[aa5,abE]
   cases hm:yi x.1 with
   | false =>
     rw[hm]at k1
     refine .inr ⟨[(4,.int .i64 p.length)],vF ?_,⟨p.length,rfl⟩,rfl⟩
     clear ih rd a1 a2 hv hp
     generalize xA x.1 x.2=E at *
     simp (disch:=omega)only[go_sem,xF,AP.f191L0,b1,b2,k1]
   | true =>
     rw[hm]at k1
     rw[aa3]
     have step:aO (aU AP.A) bH AP.f191L0 (ay [(0,v),(1,.fn 188 [] []),(7,.int .i64 l.length),(8,.int .i64 p.length)] [0,1,7,8]) h=some (.normal,[(0,v),(1,.fn 188 [] []),(7,.int .i64 l.length),(8,.int .i64 ((p.length:Int)+1))],h):=by
      clear ih rd a1 a2 hv hp
      generalize xA x.1 x.2=E at *
      simp (disch:=omega)only[go_sem,xF,AP.f191L0,b1,b2,k1]
     rcases ih with ⟨e',r1,r2⟩|⟨e',r1,r2,r3⟩
     · exact .inl ⟨e',u9 step r1,r2⟩
     · exact .inr ⟨e',u9 step r1,r2,r3⟩
theorem Qt (h:H) (hf:h.floor≤h.next) (v:AV) (l:List xN) (hl:l.length<1000) (rd:yM 9 h v l.length (xG l)) (hv:∀x∈l,yF h x∧x.2.sc=true):aU AP.A 187 [v,.fn 188 [] []] h=some (.bool (!(l.map (·.1)).all yi),h):=by
 have xf:Ext h h.eO:=fun i c q=>q
 have k1:∃k:Int,aU AP.A 191 [v,.fn 188 [] []] h.eO=some (.int .i64 k,h.eO)∧(k<0↔(l.map (·.1)).all yi=true):=by
  have ln:=rd.len
  rcases J6 hl h.eO.eO (by simp) (rd.mono fun i c q=>xf i c q) (fun x hx=>⟨(hv x hx).1.mono xf,(hv x hx).2⟩) l [] rfl with ⟨e',r1,r2⟩|⟨e',r1,⟨k,r2⟩,r3⟩
  · have r1':Lp AP.A [0,1,7,8] AP.f191L0 [(0,v),(1,.fn 188 [] []),(7,.int .i64 l.length),(8,.int .i64 0)] h.eO.eO=some (.exit 0,e',h.eO.eO):=r1
    refine⟨-1,vP (fn:=AP.f191) (h2:=h.eO.eO) (e:=[(4,.int .i64 (-1))]) rfl rfl rfl ?_ rfl rfl,by rw[r2];simp⟩
    clear rd hv r1 r2
    simp (disch:=omega)only[go_sem,xF,AP.f191,ln,uo,r1']
  · have r1':Lp AP.A [0,1,7,8] AP.f191L0 [(0,v),(1,.fn 188 [] []),(7,.int .i64 l.length),(8,.int .i64 0)] h.eO.eO=some (.ret,e',h.eO.eO):=r1
    refine⟨k,vP (fn:=AP.f191) (h2:=h.eO.eO) (e:=e') (vs:=[.int .i64 k]) rfl rfl rfl ?_ (by simp only[AP.f191,c9,oL,r2];rfl) rfl,by rw[r3];simp⟩
    clear rd hv r1 r2 r3
    simp (disch:=omega)only[go_sem,xF,AP.f191,ln,uo,r1']
 obtain⟨k,k1,k2⟩:=k1
 refine vP (fn:=AP.f187) (h2:=h.eO) (e:=[(4,.bool (!(l.map (·.1)).all yi))]) rfl rfl rfl ?_ rfl rfl
 cases ha:(l.map (·.1)).all yi with
 | true =>
   have:¬0≤k:=by have:=k2.2 ha;omega
   clear rd hv k2
   simp (disch:=omega)only[go_sem,xF,AP.f187,k1]
 | false =>
   have:0≤k:=by
    rw[ha]at k2
    have:¬k<0:=fun q=>by cases k2.1 q
    omega
   clear rd hv k2
   simp (disch:=omega)only[go_sem,xF,AP.f187,k1]
theorem ML (h:H) (v:AV) (l:List xN) (hvs:v.sc=true) (hn:l.length<1125899906842624) (rd:yM 9 h v l.length (xG l)) (hv:∀x∈l,yF h x∧x.2.sc=true):aU AP.A 183 [.agg [v]] h=some (.bool (yh (l.map (·.1))),h):=by
 obtain⟨h1,eh1⟩:∃g,g=h.eO.alloc [v]:=⟨_,rfl⟩
 have hx0:Ext h h1:=by rw[eh1];exact fun i c q=>((Ext.refl h.eO).alloc _) i c q
 have hn0:h.eO.next=h.next:=rfl
 have g1:h1.get h.next=some [v]:=by rw[eh1];exact xE rfl
 have zK:=rd.mono fun i c q=>hx0 i c q
 have k1:=UT h1 v l hvs hn zK (fun x hx=>(hv x hx).1.mono hx0)
 refine vP (fn:=AP.f183) (h2:=h1) (e:=[(2,.bool (yh (l.map (·.1))))]) rfl rfl rfl ?_ rfl rfl
 unfold yh
 cases hm:yK (l.map (·.1))with
 | false =>
   rw[hm]at k1
   clear rd zK hv hx0
   simp (disch:=omega)only[go_sem,xF,AP.f183,hvs,hn0,←eh1,g1,yx,k1]
 | true =>
   rw[hm]at k1
   have m1:=(yu hm).1
   rw[aa0]at m1
   have k2:=Qt h1 (by rw[eh1];simp) v l (by omega) zK (fun x hx=>⟨(hv x hx).1.mono hx0,(hv x hx).2⟩)
   clear rd zK hv hx0
   generalize (l.map (·.1)).all yi=B at *
   cases B<;>simp (disch:=omega)only[go_sem,xF,AP.f183,hvs,hn0,←eh1,g1,yx,k1,k2]
def PB:Ty:=.sl Sw 9 104
def Jq:Ty:=.st [PB]
theorem Pd {ess:List (List AV)} (h:∀es,es∈ess→Sh reachBytes Sw es):∃l:List xN,l.length=ess.length∧ess.flatten=xG l∧∀x∈l,x.2.sc=true∧(∀g,yF g x)∧x.1.vec.length<20000000000000:=by
 induction ess with
 |nil=>exact⟨[],rfl,rfl,fun x hx=>by cases hx⟩
 | cons y ess ih =>
   obtain⟨e,v,rfl,hv,ok,hl⟩:=Vu (h y (by simp))
   obtain⟨l,h1,h2,h3⟩:=ih fun es q=>h es (by simp [q])
   refine⟨(e,v)::l,by simp [h1],by rw[List.flatten_cons,h2];rfl,fun x hx=> ?_⟩
   rcases xn.1 hx with rfl|hx
   · exact⟨hv,ok,hl⟩
   · exact h3 x hx
theorem Pe {avs:List AV} (h:Sh reachBytes PB avs):∃(v:AV) (l:List xN),avs=[v]∧v.sc=true∧(∀g,yM 9 g v l.length (xG l))∧(∀x∈l,x.2.sc=true∧(∀g,yF g x)∧x.1.vec.length<20000000000000)∧l.length<1353300000000:=by
 cases h with
 |aS=>exact⟨.aS,[],rfl,rfl,fun g=>⟨rfl,rfl,fun s q=>(by cases q)⟩,fun x hx=>(by cases hx),by simp⟩
 | aY ess h hz hb =>
   obtain⟨l,h1,h2,h3⟩:=Pd h
   have hl:ess.flatten.length=ess.length* 9:=by rw[h2,yQ,h1]
   refine⟨_,l,rfl,rfl,fun g=> ?_,h3, ?_⟩
   · rw[h2,←h1]
     refine⟨?_,by rw[yQ],fun s q=>by cases q⟩
     simp only[aV,if_true,wY]
     rw[if_pos (by rw[yQ];exact wU _),aa8,xj (by rw[yQ];exact wU _)]
   · rw[h1];unfold reachBytes at hb;omega
theorem Nx {avs:List AV} (h:Sh reachBytes Jq avs):∃(v:AV) (l:List xN),avs=[v]∧v.sc=true∧(∀g,yM 9 g v l.length (xG l))∧(∀x∈l,x.2.sc=true∧(∀g,yF g x)∧x.1.vec.length<20000000000000)∧l.length<1353300000000:=by
 obtain⟨a1,r1,rfl,s1,h1⟩:=zL (PZ h)
 obtain rfl:=KF h1
 obtain⟨v,l,rfl,q⟩:=Pe s1
 exact⟨v,l,rfl,q⟩
structure YG (n:Nat) (h:H) (w:AV) (h':H) (k:Nat) (cs:List AV):Prop where
 own:x8 n h' w k cs
 ext:Ext h h'
 fl:h'.floor=h.floor
 nx:h.next≤h'.next
 ge:∀i,w.id?=some i→h.next≤i
theorem HQ (h:H) (s:ByteArray) (hs:s.size<1125899906842624):aU AP.A 179 [.str s] h=some (.int .i64 ((zT s%8:Nat):Int),h):=by
 have k1:=Iv h.eO s hs
 have rm:bC .rem (.int .i64 (zT s:Int)) (.int .i64 8)=some (.int .i64 ((zT s%8:Nat):Int)):=by
  show(if(8:Int)=0 then none else some (AV.int .i64 ((zT s:Int).tmod 8)))=_
  rw[if_neg (by decide),Int.tmod_eq_emod_of_nonneg (by omega)];rfl
 generalize ((zT s%8:Nat):Int)=M at *
 refine vP (fn:=AP.f179) (h2:=h.eO) (e:=[(2,.int .i64 M)]) rfl rfl rfl ?_ rfl rfl
 simp (disch:=omega)only[go_sem,xF,AP.f179,k1,rm]
theorem ye {v:AV} (h:v.sc=true):v.cells=[v]:=by cases v<;>first|rfl|cases h
theorem JG {v:AV} {l:List xN} (h0:H) (rd:yM 9 h0 v l.length (xG l)) (hv:∀x∈l,yF h0 x∧x.2.sc=true) (hm:yh (l.map (·.1))=true) (A:Nat) (hA:h0.next≤A):∀(q p:List xN),l=p++q→∀(h:H) (C:Nat→AV),Ext h0 h→h0.next≤h.next→Bu h A C (yO (p.map (·.1)))→
 ∃e' h' C',Lp AP.A [4,19,20,21] AP.f177L1 [(4,.aG A 0),(19,v),(20,.int .i64 l.length),(21,.int .i64 p.length)] h=some (.exit 0,e',h')∧look e' 4=.aG A 0∧Bu h' A C' (yO (l.map (·.1)))∧Ext h0 h'∧h'.floor=h.floor∧h.next≤h'.next
 | [], p, hp, h, C, hx, hn, bu => by
   rw[aa2]at hp;subst hp
   refine⟨[(4,.aG A 0),(19,v),(20,.int .i64 l.length),(21,.int .i64 l.length),(22,.bool false)],h,C,u6 ?_,rfl,bu,hx,rfl,wU _⟩
   simp (disch:=omega)only[go_sem,xF,AP.f177L1]
 | x :: q, p, hp, h, C, hx, hn, bu => by
   unfold yh at hm
   have hm':=hm
   rw[wT]at hm
   obtain⟨m1,m2,m3⟩:=yu hm.1
   rw[aa0]at m1
   have hl:l[p.length]?=some x:=by rw[hp];simp
   have hlen:l.length=p.length+(q.length+1):=by rw[hp];simp
   have may:yi x.1=true:=aba.1 hm.2 x.1 (by rw[hp];simp)
   have nsz:=zq (m2 x.1 (by rw[hp];simp)).1
   obtain⟨ad,a1,a2⟩:=rd.HY
   have b1:=a1 p.length ⟨by omega,by omega⟩
   obtain⟨_,b2⟩:=a2 h hx p.length x hl
   obtain⟨ok,sc⟩:=hv x (by rw[hp];simp)
   obtain⟨E,hE⟩:∃E,E=xA x.1 x.2:=⟨_,rfl⟩
   have lE:E.length=9:=by rw[hE];rfl
   have cE:AV.aE E=true:=by rw[hE];exact yH sc
   have rE:iO true 9 E 0=some (.agg E):=by rw[hE];rfl
   have E0:E[0]?=some (.str x.1.name):=by rw[hE];rfl
   obtain⟨g0,eg0⟩:∃g,g=h.alloc Z9:=⟨_,rfl⟩
   obtain⟨g1,eg1⟩:∃g,g=g0.set h.next E:=⟨_,rfl⟩
   have z0:g0.get h.next=some Z9:=by rw[eg0,xE rfl]
   have st:vR g0 h.next 0 9 E (some Z9)=some g1:=by rw[eg1];exact yl (by rw[eg0];simp;exact bu.nx) lE rfl cE
   have z1:g1.get h.next=some E:=by rw[eg1,xH rfl,z0];rfl
   have low:∀i,i<h.next→g1.get i=h.get i:=fun i hi=>by rw[eg1,xC (by omega),eg0,xI (by omega)]
   have f1:g1.floor=h.floor:=by rw[eg1,eg0];simp
   have n1:g1.next=h.next+1:=by rw[eg1,eg0];simp
   have x1:Ext h0 g1:=fun i c q=>by rw[low i (by have:=h0.lt _ _ q;omega)];exact hx i c q
   have bu1:=bu.mono f1 (by omega) low
   have k1:=Mx g1 (by have:=bu.nx;omega) x.1 x.2 sc (ok.mono x1)
   unfold La at k1
   rw[if_pos may,←hE]at k1
   have k1':aU AP.A 91 [.agg E] g1=some (.bW [.int .i64 (Mw x.1),.int .i64 0],g1):=k1
   have k2:=HQ g1 x.1.name (by omega)
   obtain⟨b,hb⟩:∃b,b=zT x.1.name%8:=⟨_,rfl⟩
   have hb8:b<8:=by omega
   rw[←hb]at k2
   obtain⟨v',h',p1,p2,p3,p4,p5,p6,p7⟩:=bu1.push hb8 (by have:=C8 (p.map (·.1)) b;rw[aa0]at this;omega) (Mw x.1)
   have gC:(oV 8 C)[b]?=some (C b):=gX hb8
   have hc:=ye p2
   have gA1:=bu1.get
   have st2:vR h' A b 1 [v'] (some (oV 8 C))=some (h'.set A (oV 8 (vT C b v'))):=by
    rw[wx (by rw[p4];exact bu1.fl) (by simp [hb8]) p2,vB hb8]
   have eb:(fun m=>if m=b then yO (p.map (·.1)) b++[Mw x.1]else yO (p.map (·.1)) m)=yO ((p++[x]).map (·.1)):=by
    funext m
    rw[abg,abx,Ga]
    have:CI x.1=b:=hb.symm
    rw[this]
    by_cases c:m=b
    · subst c;simp
    · rw[if_neg c,if_neg (by omega)]
   rw[eb]at p6
   obtain⟨e',h2,C2,r1,r2,r3,r4,r5,r6⟩:=JG h0 rd hv hm' A hA q (p++[x]) (by rw[hp];simp) (h'.set A (oV 8 (vT C b v'))) _ (fun i c q=>by have:=h0.lt _ _ q;rw[xC (by omega),p7 i (by omega)];exact x1 i c q) (by simp;omega) p6
   have w1:((p++[x]).length:Int)=(p.length:Int)+1:=by simp
   rw[w1]at r1
   refine⟨e',h2,C2,u9 ?_ r1,r2,r3,r4,by rw[r5];simp [p4,f1],by simp at r6;omega⟩
   rw[←hE]at b2
   have a0:h.alloc [.str ⟨#[]⟩,.bool false,.aS,.int .i64 0,.int .i64 0,.int .i64 0,.str ⟨#[]⟩,.int .i64 0,.int .i64 0]=g0:=eg0.symm
   have pI:(0:Int)≤(b:Int)∧(b:Int)<8:=⟨by omega,by omega⟩
   clear r1 r2 r3 r4 r5 r6 p6 eb hE hv rd a1 a2 x1 low bu bu1 k1 hx hm hm' m2 hb may hp eg0 eg1
   generalize Mw x.1=D at *
   generalize oV 8 (vT C b v')=T2 at *
   generalize oV 8 C=T1 at *
   simp (disch:=omega)only[go_sem,xF,AP.f177L1,b1,b2,a0,z0,lE,cE,st,z1,rE,E0,k1',k2,gA1,gC,p1,hc,p3,st2]
theorem FB {f:Nat→Int} (i:Nat):(List.range (i+1)).map f=(List.range i).map f++[f i]:=by rw[List.range_succ,abg];rfl
theorem HN (h0 : H) (C : Nat → AV) (ls : Nat → List Int) (hb : ∀ m, m < 8 → (ls m).all Bp = true ∧ (ls m).length < 1000000) : ∀ (n i : Nat), i + n = 8 → ∀ (h : H) (ov : AV), (∀ m, m < 8 → Rd h (C m) (ints (ls m))) → x8 1 h ov i (ints ((List.range i).map fun b => xZ (ls b))) → h.floor ≤ h.next →
 (∀m,m<8→∀j,(C m).id?=some j→ov.id?≠some j∧j<h.next)→Ext h0 h→h0.next≤h.next→(∀j,ov.id?=some j→h0.next≤j)→
 ∃e' h' ov',Lp AP.A [10,42,43] AP.f177L0 [(10,ov),(42,.agg (oV 8 C)),(43,.int .i64 i)] h=some (.exit 2,e',h')∧look e' 10=ov'∧x8 1 h' ov' 8 (ints ((List.range 8).map fun b=>xZ (ls b)))∧Ext h0 h'∧h'.floor=h.floor∧h.next≤h'.next∧∀j,ov'.id?=some j→h0.next≤j
 | 0, i, hi, h, ov, iO, o, hf, sep, hx, hn, hge => by
   obtain rfl:i=8:=by omega
   refine⟨[(10,ov),(42,.agg (oV 8 C)),(43,.int .i64 8),(44,.bool false)],h,ov,u6 ?_,rfl,o,hx,rfl,wU _,hge⟩
   generalize oV 8 C=T at *
   simp (disch:=omega)only[go_sem,xF,AP.f177L0]
 | n + 1, i, hi, h, ov, iO, o, hf, sep, hx, hn, hge => by
   obtain⟨ha,hl⟩:=hb i (by omega)
   have k1:=MX h (C i) (ls i) (iO i (by omega)) (by omega)
   rw[Ip ha]at k1
   have k1':aU AP.A 93 [C i] h=some (.bW [.int .i64 (xZ (ls i)),.int .i64 0],h):=k1
   obtain⟨v',h',p1,p2,p3,p4,p5,p6⟩:=o.push hf (z:=8) (m:=1) (by omega) (by omega) [.int .i64 (xZ (ls i))] rfl rfl (by simp [roomy];omega)
   have e:ints ((List.range i).map fun b=>xZ (ls b))++[.int .i64 (xZ (ls i))]=ints ((List.range (i+1)).map fun b=>xZ (ls b)):=by rw[FB];simp [ints,I]
   rw[e]at p2
   have yR:∀j,j<h.next→ov.id?≠some j→h'.get j=h.get j:=fun j a b=>p5 j b a
   have gC:nG false 8 1 (.agg (oV 8 C)) (.int .i64 i)=some (C i):=by
    show(dC (.int .i64 (i:Int)) 8).bind _=_
    rw[Qn ⟨by omega,by omega⟩,wP,yZ,abu]
    exact gX (by omega)
   obtain⟨e',h2,ov',r1,r2⟩:=HN h0 C ls hb n (i+1) (by omega) h' v' (fun m hm=>(iO m hm).Fq fun j q=>yR j (sep m hm j q).2 (sep m hm j q).1) p2 (by rw[p3];omega) (fun m hm j q=>by
    have:=(sep m hm j q).2
    rw[p6]
    exact⟨fun q2=>by have:=wH q2;omega,by omega⟩) (fun j c q=>by
     have:=h0.lt _ _ q
     rw[yR j (by omega) (fun q2=>by have:=hge j q2;omega)];exact hx j c q) (by omega) (fun j q=>by rw[p6]at q;have:=wH q;omega)
   have w1:((i+1:Nat):Int)=(i:Int)+1:=by omega
   rw[w1]at r1
   refine⟨e',h2,ov',u9 ?_ r1,r2.1,r2.2.1,r2.2.2.1,by rw[r2.2.2.2.1,p3],by have:=r2.2.2.2.2.1;omega,r2.2.2.2.2.2⟩
   have scC:(C i).sc=true:=by
    have:=iO i (by omega)
    cases hc:C i with
    |bot=>rw[hc]at this;cases this.1
    |agg _=>rw[hc]at this;cases this.1
    |bW _=>rw[hc]at this;cases this.1
    |_=>rfl
   clear r1 r2 yR iO o sep hx p2 e hb
   generalize xZ (ls i)=D at *
   generalize oV 8 C=T at *
   generalize C i=Ci at *
   simp (disch:=omega)only[go_sem,xF,AP.f177L0,gC,k1',p1,wR,xp]
theorem My (l:List xP):xQ l=(List.range 8).map fun b=>xZ (yO l b):=rfl
theorem Jh (h : H) (hf : h.floor ≤ h.next) (v : AV) (l : List xN) (hvs : v.sc = true) (hn : l.length < 1125899906842624) (rd : yM 9 h v l.length (xG l)) (hv : ∀ x ∈ l, yF h x ∧ x.2.sc = true) :
 ∃w h',aU AP.A 177 [.agg [v]] h=some (.bW [w,.int .i64 (if yh (l.map (·.1))then 0 else 1600)],h')∧YG 1 h w h' (if yh (l.map (·.1))then xQ (l.map (·.1))else []).length (ints (if yh (l.map (·.1))then xQ (l.map (·.1))else [])):=by
 obtain⟨g1,eg1⟩:∃g,g=h.alloc [v]:=⟨_,rfl⟩
 have hx1:Ext h g1:=by rw[eg1];exact(Ext.refl h).alloc _
 have z1:g1.get h.next=some [v]:=by rw[eg1];exact xE rfl
 have f1:g1.floor=h.floor:=by rw[eg1];simp
 have n1:g1.next=h.next+1:=by rw[eg1];simp
 have zK:=rd.mono fun i c q=>hx1 i c q
 have hv1:∀x∈l,yF g1 x∧x.2.sc=true:=fun x hx=>⟨(hv x hx).1.mono hx1,(hv x hx).2⟩
 have k1:=ML g1 v l hvs hn zK hv1
 have ln:=zK.len
 cases hm:yh (l.map (·.1))with
 | false =>
   rw[hm]at k1
   refine⟨.aS,g1, ?_,⟨x8.nil,hx1,f1,by omega,fun i q=>by cases q⟩⟩
   refine vv (fn:=AP.f177) (h2:=g1) (e:=[(2,.aS),(3,.int .i64 1600)]) (vs:=[.aS,.int .i64 1600]) rfl rfl rfl ?_ rfl
   clear rd zK hv hv1 hx1
   simp (disch:=omega)only[go_sem,xF,AP.f177,hvs,←eg1,z1,yx,k1]
 | true =>
   rw[hm]at k1
   have m1:=hm
   unfold yh at m1
   rw[wT]at m1
   have m2:=(yu m1.1).1
   rw[aa0]at m2
   obtain⟨g2,eg2⟩:∃g,g=g1.alloc (oV 8 fun _=>.aS):=⟨_,rfl⟩
   have hx2:Ext g1 g2:=by rw[eg2];exact(Ext.refl g1).alloc _
   have z2:g2.get h.next=some [v]:=hx2 _ _ z1
   have bu:=Bu.new (h:=g1) (by omega)
   rw[←eg2]at bu
   obtain⟨e',g3,C,r1,r2,r3,r4,r5,r6⟩:=JG g1 zK hv1 hm g1.next (wU _) l [] rfl g2 (fun _=>.aS) hx2 (by rw[eg2];simp) bu
   have r1':Lp AP.A [4,19,20,21] AP.f177L1 [(4,.aG (h.next+1) 0),(19,v),(20,.int .i64 l.length),(21,.int .i64 0)] g2=some (.exit 0,e',g3):=by rw[←n1];exact r1
   rw[n1]at r2 r3
   have a2:g1.alloc [.aS,.aS,.aS,.aS,.aS,.aS,.aS,.aS]=g2:=eg2.symm
   have z3:=r3.get
   have rT:iO true 8 (oV 8 C) 0=some (.agg (oV 8 C)):=rfl
   have n2:g2.next=h.next+2:=by rw[eg2];simp [n1]
   have f2:g2.floor=h.floor:=by rw[eg2];simp [f1]
   obtain⟨e2,g4,ov,s1,s2,s3,s4,s5,s6,s7⟩:=HN h C (yO (l.map (·.1))) (fun m _=>⟨JI _ _,by have:=C8 (l.map (·.1)) m;rw[aa0]at this;omega⟩) 8 0 rfl g3 .aS (fun m hm=>by
    have o:=(r3.own m hm).rd
    exact⟨by have:=o.1;rw[rk];exact this,o.2.2⟩) x8.nil r3.nx (fun m hm j q=>⟨(fun q2=>by cases q2),((r3.own m hm).lt q).2⟩) (fun i c q=>r4 i c (hx1 i c q)) (by omega) (fun j q=>by cases q)
   have s1':Lp AP.A [10,42,43] AP.f177L0 [(10,.aS),(42,.agg (oV 8 C)),(43,.int .i64 0)] g3=some (.exit 2,e2,g4):=s1
   refine⟨ov,g4, ?_,⟨by rw[if_pos rfl,x9,My];exact s3,s4,by rw[s5,r5,f2],by omega,s7⟩⟩
   rw[if_pos rfl]
   refine vv (fn:=AP.f177) (h2:=g4) (e:=[(2,ov),(3,.int .i64 0)]) (vs:=[ov,.int .i64 0]) rfl rfl rfl ?_ rfl
   clear rd zK hv hv1 hx1 hx2 r1 s1 s3 s4 r3 bu eg2
   generalize oV 8 C=T at *
   simp (disch:=omega)only[go_sem,xF,AP.f177,hvs,←eg1,z1,n1,yx,k1,a2,z2,ln,uo,r1',r2,z3,rT,s1',s2]
def FJ (l:List Int):AV:=if l.all Bp&&decide (l.length=8)then .bW [.int .i64 (xZ l),.int .i64 0]else .bW [.int .i64 0,.int .i64 1600]
theorem Nu (h:H) (v:AV) (l:List Int) (rd:Rd h v (ints l)) (hl:l.length<1125899906842624):aU AP.A 181 [v] h=some (FJ l,h):=by
 have xf:Ext h h.eO:=fun i c q=>q
 have k1:=MX h.eO v l (rd.mono fun i c q=>xf i c q) hl
 have r2:=(rd.mono fun i c q=>xf i c q:Rd h.eO v (ints l)).HB
 rw[rk]at r2
 have ln:=r2.len
 unfold FJ
 unfold Ei at k1
 cases ha:l.all Bp with
 | false =>
   rw[ha]at k1
   have k1':aU AP.A 93 [v] h.eO=some (.bW [.int .i64 0,.int .i64 1500],h.eO):=k1
   refine vP (fn:=AP.f181) (h2:=h.eO) (e:=[(2,.int .i64 0),(3,.int .i64 1600)]) rfl rfl rfl ?_ rfl rfl
   clear rd r2 k1
   simp (disch:=omega)only[go_sem,xF,AP.f181,k1',ln]
 | true =>
   rw[ha]at k1
   have k1':aU AP.A 93 [v] h.eO=some (.bW [.int .i64 (xZ l),.int .i64 0],h.eO):=k1
   by_cases c:l.length=8
   · have c':(l.length:Int)=8:=by omega
     rw[dt c]
     refine vP (fn:=AP.f181) (h2:=h.eO) (e:=[(2,.int .i64 (xZ l)),(3,.int .i64 0)]) rfl rfl rfl ?_ rfl rfl
     clear rd r2 k1
     generalize xZ l=M at *
     simp (disch:=omega)only[go_sem,xF,AP.f181,k1',ln]
   · have c':¬(l.length:Int)=8:=by omega
     rw[df c]
     refine vP (fn:=AP.f181) (h2:=h.eO) (e:=[(2,.int .i64 0),(3,.int .i64 1600)]) rfl rfl rfl ?_ rfl rfl
     clear rd r2 k1
     generalize xZ l=M at *
     simp (disch:=omega)only[go_sem,xF,AP.f181,k1',ln]
def VS (p:Option Int) (b:Int):Bool:=decide (0≤b)&&(decide (b<8)&&(match p with|none=>true|some q=>decide (q<b)))
theorem Od (p:Option Int) (b:Int) (l:List Int):Bq p (b::l)=(VS p b&&Bq (some b) l):=by cases p<;>(rw[Bq];rfl)
theorem JH {v : AV} {l : List Int} (hl : l.length < 1125899906842624) (h : H) (rd : Rd h v (ints l)) : ∀ (q p : List Int), l = p ++ q →
 (∃e',Lp AP.A [0,5,6,7] AP.f184L0 [(0,v),(5,v),(6,.int .i64 l.length),(7,.int .i64 p.length)] h=some (.exit 0,e',h)∧Bq p.getLast? q=true)∨
 (∃e',Lp AP.A [0,5,6,7] AP.f184L0 [(0,v),(5,v),(6,.int .i64 l.length),(7,.int .i64 p.length)] h=some (.ret,e',h)∧look e' 2=.bool false∧Bq p.getLast? q=false)
 | [], p, hp => by
   rw[aa2]at hp;subst hp
   refine .inl ⟨[(0,v),(5,v),(6,.int .i64 l.length),(7,.int .i64 l.length),(8,.bool false)],u6 ?_,rfl⟩
   simp (disch:=omega)only[go_sem,xF,AP.f184L0]
 | x :: q, p, hp => by
   have hlen:l.length=p.length+(q.length+1):=by rw[hp];simp
   have hx:l[p.length]?=some x:=by rw[hp];simp
   obtain⟨ad,a1,a2⟩:=rd.yL
   have b1:=a1 p.length ⟨by omega,by omega⟩
   have b2:=a2 h (Ext.refl h) p.length x hx
   have ih:=JH hl h rd q (p++[x]) (by rw[hp];simp)
   have w1:((p++[x]).length:Int)=(p.length:Int)+1:=by simp
   rw[w1,List.getLast?_concat]at ih
   rw[Od]
   have step : aO (aU AP.A) bH AP.f184L0 (ay [(0, v), (5, v), (6, .int .i64 l.length), (7, .int .i64 p.length)] [0, 5, 6, 7]) h = if VS p.getLast? x then some (.normal, [(0, v), (5, v), (6, .int .i64 l.length), (7, .int .i64 ((p.length : Int) + 1))], h) else some (.ret, [(2, .bool false)], h) := by
    unfold VS
    cases hq:p.getLast? with
    | none =>
      have hp0:p=[]:=List.getLast?_eq_none_iff.1 hq
      have hp1:p.length=0:=by rw[hp0];rfl
      clear ih rd a1 a2 hp w1
      by_cases c1:0≤x
      · by_cases c2:x<8
        · simp only[dt c1,dt c2,abm,if_true]
          simp (disch:=omega)only[go_sem,xF,AP.f184L0,b1,b2]
        · simp only[dt c1,df c2,aa4,aa9,wR,xp]
          simp (disch:=omega)only[go_sem,xF,AP.f184L0,b1,b2]
      · simp only[df c1,aa4,wR,xp]
        simp (disch:=omega)only[go_sem,xF,AP.f184L0,b1,b2]
    | some y =>
      obtain⟨p',rfl⟩:∃p',p=p'++[y]:=List.getLast?_eq_some_iff.1 hq
      have hpl:(p'++[y]).length=p'.length+1:=by simp
      have hy:l[p'.length]?=some y:=by rw[hp];simp
      have bj:=a1 p'.length ⟨by omega,by omega⟩
      have lj:=a2 h (Ext.refl h) p'.length y hy
      have n2:(((p'++[y]).length:Nat):Int)-1=(p'.length:Int):=by rw[hpl];omega
      have n3:0<(((p'++[y]).length:Nat):Int):=by rw[hpl];omega
      clear ih rd a1 a2 hp w1 hx hy hq
      generalize (p'++[y]).length=pl at *
      by_cases c1:0≤x
      · by_cases c2:x<8
        · by_cases c3:y<x
          · rw[dt c1,dt c2]
            simp only[dt c3,abm,if_true]
            simp (disch:=omega)only[go_sem,xF,AP.f184L0,b1,b2,bj,lj,n2]
          · rw[dt c1,dt c2]
            simp only[df c3,aa9,wR,xp]
            simp (disch:=omega)only[go_sem,xF,AP.f184L0,b1,b2,bj,lj,n2]
        · simp only[dt c1,df c2,aa4,aa9,wR,xp]
          simp (disch:=omega)only[go_sem,xF,AP.f184L0,b1,b2]
      · simp only[df c1,aa4,wR,xp]
        simp (disch:=omega)only[go_sem,xF,AP.f184L0,b1,b2]
   by_cases hok:VS p.getLast? x=true
   · rw[if_pos hok]at step
     rw[hok,aa3]
     rcases ih with ⟨e',r1,r2⟩|⟨e',r1,r2,r3⟩
     · exact .inl ⟨e',u9 step r1,r2⟩
     · exact .inr ⟨e',u9 step r1,r2,r3⟩
   · have hok':VS p.getLast? x=false:=by simpa using hok
     rw[if_neg hok]at step
     rw[hok',aa4]
     exact .inr ⟨_,vF step,rfl,rfl⟩
theorem Mk (h:H) (v:AV) (l:List Int) (rd:Rd h v (ints l)) (hl:l.length<1125899906842624):aU AP.A 184 [v] h=some (.bool (BW l),h):=by
 have xf:Ext h h.eO:=fun i c q=>q
 have rdf:Rd h.eO v (ints l):=rd.mono fun i c q=>xf i c q
 have r2:=rdf.HB
 rw[rk]at r2
 have ln:=r2.len
 unfold BW
 rcases JH hl h.eO rdf l [] rfl with ⟨e',r1,r3⟩|⟨e',r1,r3,r4⟩
 · have r1':Lp AP.A [0,5,6,7] AP.f184L0 [(0,v),(5,v),(6,.int .i64 l.length),(7,.int .i64 0)] h.eO=some (.exit 0,e',h.eO):=r1
   have r3':Bq none l=true:=r3
   rw[r3']
   refine vP (fn:=AP.f184) (h2:=h.eO) (e:=[(2,.bool true)]) rfl rfl rfl ?_ rfl rfl
   clear rd rdf r2 r1 r3
   simp (disch:=omega)only[go_sem,xF,AP.f184,ln,uo,r1']
 · have r1':Lp AP.A [0,5,6,7] AP.f184L0 [(0,v),(5,v),(6,.int .i64 l.length),(7,.int .i64 0)] h.eO=some (.ret,e',h.eO):=r1
   have r4':Bq none l=false:=r4
   rw[r4']
   refine vP (fn:=AP.f184) (h2:=h.eO) (e:=e') (vs:=[.bool false]) rfl rfl rfl ?_ (by simp only[AP.f184,c9,oL,r3];rfl) rfl
   clear rd rdf r2 r1 r4
   simp (disch:=omega)only[go_sem,xF,AP.f184,ln,uo,r1']
theorem J8 {v : AV} {l : List Int} (hl : l.length < 1125899906842624) (h : H) (rd : Rd h v (ints l)) (y : Int) : ∀ (q p : List Int), l = p ++ q →
 (∃e',Lp AP.A [0,1,7,8] AP.f189L0 [(0,v),(1,.int .i64 y),(7,.int .i64 l.length),(8,.int .i64 p.length)] h=some (.exit 0,e',h)∧q.contains y=false)∨
 (∃e',Lp AP.A [0,1,7,8] AP.f189L0 [(0,v),(1,.int .i64 y),(7,.int .i64 l.length),(8,.int .i64 p.length)] h=some (.ret,e',h)∧(∃k:Nat,look e' 4=.int .i64 k)∧q.contains y=true)
 | [], p, hp => by
   rw[aa2]at hp;subst hp
   refine .inl ⟨[(0,v),(1,.int .i64 y),(7,.int .i64 l.length),(8,.int .i64 l.length),(9,.bool false)],u6 ?_,rfl⟩
   simp (disch:=omega)only[go_sem,xF,AP.f189L0]
 | x :: q, p, hp => by
   have hlen:l.length=p.length+(q.length+1):=by rw[hp];simp
   have hx:l[p.length]?=some x:=by rw[hp];simp
   obtain⟨ad,a1,a2⟩:=rd.yL
   have b1:=a1 p.length ⟨by omega,by omega⟩
   have b2:=a2 h (Ext.refl h) p.length x hx
   have ih:=J8 hl h rd y q (p++[x]) (by rw[hp];simp)
   have w1:((p++[x]).length:Int)=(p.length:Int)+1:=by simp
   rw[w1]at ih
   by_cases c:y=x
   · refine .inr ⟨[(4,.int .i64 p.length)],vF ?_,⟨p.length,rfl⟩,by simp [c]⟩
     clear ih rd a1 a2 hp w1
     simp (disch:=omega)only[go_sem,xF,AP.f189L0,b1,b2,c]
   · have step:aO (aU AP.A) bH AP.f189L0 (ay [(0,v),(1,.int .i64 y),(7,.int .i64 l.length),(8,.int .i64 p.length)] [0,1,7,8]) h=some (.normal,[(0,v),(1,.int .i64 y),(7,.int .i64 l.length),(8,.int .i64 ((p.length:Int)+1))],h):=by
      clear ih rd a1 a2 hp w1
      simp (disch:=omega)only[go_sem,xF,AP.f189L0,b1,b2]
     have ec:(x::q).contains y=q.contains y:=by simp [c]
     rw[ec]
     rcases ih with ⟨e',r1,r2⟩|⟨e',r1,r2,r3⟩
     · exact .inl ⟨e',u9 step r1,r2⟩
     · exact .inr ⟨e',u9 step r1,r2,r3⟩
theorem Lm (h:H) (v:AV) (l:List Int) (y:Int) (rd:Rd h v (ints l)) (hl:l.length<1125899906842624):aU AP.A 185 [v,.int .i64 y] h=some (.bool (l.contains y),h):=by
 have xf:Ext h h.eO:=fun i c q=>q
 have rdf:Rd h.eO.eO v (ints l):=rd.mono fun i c q=>xf i c q
 have r2:=rdf.HB
 rw[rk]at r2
 have ln:=r2.len
 have k1:∃k:Int,aU AP.A 189 [v,.int .i64 y] h.eO=some (.int .i64 k,h.eO)∧(0≤k↔l.contains y=true):=by
  rcases J8 hl h.eO.eO rdf y l [] rfl with ⟨e',r1,r3⟩|⟨e',r1,⟨k,r3⟩,r4⟩
  · have r1':Lp AP.A [0,1,7,8] AP.f189L0 [(0,v),(1,.int .i64 y),(7,.int .i64 l.length),(8,.int .i64 0)] h.eO.eO=some (.exit 0,e',h.eO.eO):=r1
    refine⟨-1,vP (fn:=AP.f189) (h2:=h.eO.eO) (e:=[(4,.int .i64 (-1))]) rfl rfl rfl ?_ rfl rfl,by rw[r3];simp⟩
    clear rd rdf r2 r1 r3
    simp (disch:=omega)only[go_sem,xF,AP.f189,ln,uo,r1']
  · have r1':Lp AP.A [0,1,7,8] AP.f189L0 [(0,v),(1,.int .i64 y),(7,.int .i64 l.length),(8,.int .i64 0)] h.eO.eO=some (.ret,e',h.eO.eO):=r1
    refine⟨k,vP (fn:=AP.f189) (h2:=h.eO.eO) (e:=e') (vs:=[.int .i64 k]) rfl rfl rfl ?_ (by simp only[AP.f189,c9,oL,r3];rfl) rfl,by rw[r4];simp⟩
    clear rd rdf r2 r1 r4 r3
    simp (disch:=omega)only[go_sem,xF,AP.f189,ln,uo,r1']
 obtain⟨k,k1,k2⟩:=k1
 refine vP (fn:=AP.f185) (h2:=h.eO) (e:=[(4,.bool (l.contains y))]) rfl rfl rfl ?_ rfl rfl
 clear rd rdf r2
 cases hc:l.contains y with
 | true =>
   have:=k2.2 hc
   clear k2
   simp (disch:=omega)only[go_sem,xF,AP.f185,k1]
 | false =>
   have:¬0≤k:=fun q=>by rw[hc]at k2;cases k2.1 q
   clear k2
   simp (disch:=omega)only[go_sem,xF,AP.f185,k1]
abbrev Be:=L3×AV
def Oe (x:Be):List AV:=[.str x.1.1,x.2]
def zH (l:List Be):List AV:=l.flatMap Oe
theorem Cs (x:Be):(Oe x).length=2:=rfl
theorem Jf (l:List Be) (x:Be):zH (l++[x])=zH l++Oe x:=by simp [zH]
structure Qk (h0 h:H) (ov:AV) (x:Be):Prop where
 ex:∃j,x.2=.aH j 0 4 1∧h.get j=some (ints x.1.2)∧h0.next≤j∧ov.id?≠some j∧h.floor≤j
 l4:x.1.2.length=4
theorem Qk.mono {h0 h g:H} {ov ov':AV} {x:Be} (b:Qk h0 h ov x) (hf:g.floor=h.floor) (hg:∀j,j<h.next→ov.id?≠some j→g.get j=h.get j) (ho:∀j,j<h.next→ov.id?≠some j→ov'.id?≠some j):Qk h0 g ov' x:=by
 obtain⟨j,e1,e2,e3,e4,e5⟩:=b.ex
 have:=h.lt _ _ e2
 exact⟨⟨j,e1,by rw[hg j this e4];exact e2,e3,ho j this e4,by rw[hf];exact e5⟩,b.l4⟩
theorem HP (l:List xP) (e:xP) (bs:List Int):yA (l++[e]) bs=if bs.contains ((CI e:Nat):Int)then yA l bs++[(e.name,e.vec)]else yA l bs:=by
 unfold yA
 rw[List.filter_append,abg]
 by_cases c:bs.contains ((CI e:Nat):Int)=true
 · rw[if_pos c,aby,if_pos c];rfl
 · rw[if_neg c,aby,if_neg c];simp
theorem CJ (l:List xP) (bs:List Int):(yA l bs).length≤l.length:=by unfold yA;rw[aa0];exact abv _ _
theorem G3 {v w:AV} {l:List xN} {bs:List Int} (h0:H) (rd:yM 9 h0 v l.length (xG l)) (hv:∀x∈l,yF h0 x∧x.2.sc=true) (hm:yh (l.map (·.1))=true) (rdb:Rd h0 w (ints bs)) (hbs:bs.length<1125899906842624):∀(q p:List xN),l=p++q→∀(h:H) (ov:AV) (acc:List Be),Ext h0 h→h0.next≤h.next→h.floor≤h.next→
 x8 2 h ov acc.length (zH acc)→acc.map (·.1)=yA (p.map (·.1)) bs→(∀x∈acc,Qk h0 h ov x)→(∀j,ov.id?=some j→h0.next≤j)→
 ∃e' h' ov' acc',Lp AP.A [1,6,18,19,20] AP.f178L0 [(1,w),(6,ov),(18,v),(19,.int .i64 l.length),(20,.int .i64 p.length)] h=some (.exit 0,e',h')∧look e' 6=ov'∧x8 2 h' ov' acc'.length (zH acc')∧acc'.map (·.1)=yA (l.map (·.1)) bs∧(∀x∈acc',Qk h0 h' ov' x)∧Ext h0 h'∧h'.floor=h.floor∧h.next≤h'.next∧∀j,ov'.id?=some j→h0.next≤j
 | [], p, hp, h, ov, acc, hx, hn, hf, o, ha, hb, hge => by
   rw[aa2]at hp;subst hp
   refine⟨[(1,w),(6,ov),(18,v),(19,.int .i64 l.length),(20,.int .i64 l.length),(21,.bool false)],h,ov,acc,u6 ?_,rfl,o,ha,hb,hx,rfl,wU _,hge⟩
   simp (disch:=omega)only[go_sem,xF,AP.f178L0]
 | x :: q, p, hp, h, ov, acc, hx, hn, hf, o, ha, hb, hge => by
   unfold yh at hm
   have hm':=hm
   rw[wT]at hm
   obtain⟨m1,m2,m3⟩:=yu hm.1
   rw[aa0]at m1
   have hl:l[p.length]?=some x:=by rw[hp];simp
   have hlen:l.length=p.length+(q.length+1):=by rw[hp];simp
   have may:yi x.1=true:=aba.1 hm.2 x.1 (by rw[hp];simp)
   have nsz:=zq (m2 x.1 (by rw[hp];simp)).1
   have v4:x.1.vec.length=4:=(z9 (m2 x.1 (by rw[hp];simp)).2.1).1
   obtain⟨ad,a1,a2⟩:=rd.HY
   have b1:=a1 p.length ⟨by omega,by omega⟩
   obtain⟨_,b2⟩:=a2 h hx p.length x hl
   obtain⟨ok,sc⟩:=hv x (by rw[hp];simp)
   obtain⟨E,hE⟩:∃E,E=xA x.1 x.2:=⟨_,rfl⟩
   have lE:E.length=9:=by rw[hE];rfl
   have cE:AV.aE E=true:=by rw[hE];exact yH sc
   have E0:E[0]?=some (.str x.1.name):=by rw[hE];rfl
   have E2:E[2]?=some x.2:=by rw[hE];rfl
   obtain⟨g0,eg0⟩:∃g,g=h.alloc Z9:=⟨_,rfl⟩
   obtain⟨g1,eg1⟩:∃g,g=g0.set h.next E:=⟨_,rfl⟩
   have z0:g0.get h.next=some Z9:=by rw[eg0,xE rfl]
   have st:vR g0 h.next 0 9 E (some Z9)=some g1:=by rw[eg1];exact yl (by rw[eg0];simp;exact hf) lE rfl cE
   have z1:g1.get h.next=some E:=by rw[eg1,xH rfl,z0];rfl
   have low:∀i,i<h.next→g1.get i=h.get i:=fun i hi=>by rw[eg1,xC (by omega),eg0,xI (by omega)]
   have f1:g1.floor=h.floor:=by rw[eg1,eg0];simp
   have n1:g1.next=h.next+1:=by rw[eg1,eg0];simp
   have x1:Ext h0 g1:=fun i c q=>by rw[low i (by have:=h0.lt _ _ q;omega)];exact hx i c q
   have k2:=HQ g1 x.1.name (by omega)
   have k3:=Lm g1 w bs ((CI x.1:Nat):Int) (rdb.mono fun i c q=>x1 i c q) hbs
   have a0:h.alloc [.str ⟨#[]⟩,.bool false,.aS,.int .i64 0,.int .i64 0,.int .i64 0,.str ⟨#[]⟩,.int .i64 0,.int .i64 0]=g0:=eg0.symm
   have w1:((p++[x]).length:Int)=(p.length:Int)+1:=by simp
   have k2':aU AP.A 179 [.str x.1.name] g1=some (.int .i64 ((CI x.1:Nat):Int),g1):=k2
   have al:=abt List.length ha
   rw[aa0]at al
   have bl:=CJ (p.map (·.1)) bs
   rw[aa0]at bl
   have bs':=HP (p.map (·.1)) x.1 bs
   cases hc:bs.contains ((CI x.1:Nat):Int)with
   | false =>
     rw[hc]at k3
     rw[hc,if_neg (by decide)]at bs'
     obtain⟨e',h2,ov',acc',r1,r2⟩:=G3 h0 rd hv hm' rdb hbs q (p++[x]) (by rw[hp];simp) g1 ov acc x1 (by omega) (by omega) (o.mono f1 fun i q=>low i (o.lt q).2) (by rw[abg,abx,bs'];exact ha) (fun y hy=>(hb y hy).mono f1 (fun j q1 _=>low j q1) (fun _ _ q=>q)) hge
     rw[w1]at r1
     refine⟨e',h2,ov',acc',u9 ?_ r1,r2.1,r2.2.1,r2.2.2.1,r2.2.2.2.1,r2.2.2.2.2.1,by rw[r2.2.2.2.2.2.1,f1],by have:=r2.2.2.2.2.2.2.1;omega,r2.2.2.2.2.2.2.2⟩
     rw[←hE]at b2
     clear r1 r2 hE hv rd a1 a2 x1 low hx hm hm' m2 may hp eg0 eg1 o hb ha rdb bs' k2 al bl
     generalize ((CI x.1:Nat):Int)=B at *
     simp (disch:=omega)only[go_sem,xF,AP.f178L0,b1,b2,a0,z0,lE,cE,st,z1,E0,E2,k2',k3]
   | true =>
     rw[hc]at k3
     rw[hc,if_pos rfl]at bs'
     have k4:=G6 g1 x.2 x.1.vec (ok.mono x1).vec (by omega) (by omega) (by omega)
     rw[v4]at k4
     obtain⟨g2,eg2⟩:∃g,g=((g1.alloc []).del g1.next).alloc (ints x.1.vec):=⟨_,rfl⟩
     rw[←eg2]at k4
     have low2:∀i,i<g1.next→g2.get i=g1.get i:=fun i hi=>by rw[eg2,xI (by simp;omega),B9 (by omega),xI (by omega)]
     have f2:g2.floor=h.floor:=by rw[eg2];simp [f1]
     have n2:g2.next=h.next+3:=by rw[eg2];simp [n1]
     have z2:g2.get h.next=some E:=by rw[low2 _ (by omega)];exact z1
     have zv:g2.get (g1.next+1)=some (ints x.1.vec):=by rw[eg2,xE (by simp)]
     have lo2:∀i,i<h.next→g2.get i=h.get i:=fun i hi=>by rw[low2 i (by omega),low i hi]
     have x2:Ext h0 g2:=fun i c q=>by rw[lo2 i (by have:=h0.lt _ _ q;omega)];exact hx i c q
     have o2:x8 2 g2 ov acc.length (zH acc):=o.mono f2 fun i q=>lo2 i (o.lt q).2
     obtain⟨v',h',p1,p2,p3,p4,p5,p6⟩:=o2.push (by omega) (z:=40) (m:=1) (by omega) (by omega) [.str x.1.name,.aH (g1.next+1) 0 4 1] rfl rfl (by simp [roomy];omega)
     have ea:zH acc++[.str x.1.name,.aH (g1.next+1) 0 4 1]=zH (acc++[((x.1.name,x.1.vec),.aH (g1.next+1) 0 4 1)]):=by rw[Jf];rfl
     rw[ea]at p2
     have ovl:∀j,ov.id?=some j→j<h.next:=fun j q=>(o.lt q).2
     obtain⟨e',h2,ov',acc',r1,r2⟩:=G3 h0 rd hv hm' rdb hbs q (p++[x]) (by rw[hp];simp) h' v' (acc++[((x.1.name,x.1.vec),.aH (g1.next+1) 0 4 1)]) (fun i c q=>by
      have:=h0.lt _ _ q
      rw[p5 i (fun q2=>by have:=hge i q2;omega) (by omega)];exact x2 i c q) (by omega) (by omega) (by rw[xu,List.length_singleton];exact p2) (by rw[abg,abg,abx,abx,bs',ha]) (fun y hy=>by
      rcases abA.1 hy with hy|hy
      · refine(hb y hy).mono (by rw[p3,f2]) (fun j q1 q2=>by rw[p5 j q2 (by omega),lo2 j q1]) (fun j q1 _=>by rw[p6];intro q2;have:=wH q2;omega)
      · obtain rfl:y=_:=List.mem_singleton.1 hy
        refine⟨⟨g1.next+1,rfl, ?_,by omega,by rw[p6];intro q2;have:=wH q2;omega,by rw[p3,f2];omega⟩,v4⟩
        rw[p5 _ (fun q2=>by have:=ovl _ q2;omega) (by omega)]
        exact zv) (fun j q=>by rw[p6]at q;have:=wH q;omega)
     rw[w1]at r1
     refine⟨e',h2,ov',acc',u9 ?_ r1,r2.1,r2.2.1,r2.2.2.1,r2.2.2.2.1,r2.2.2.2.2.1,by rw[r2.2.2.2.2.2.1,p3,f2],by have:=r2.2.2.2.2.2.2.1;omega,r2.2.2.2.2.2.2.2⟩
     rw[←hE]at b2
     clear r1 r2 hE hv rd a1 a2 x1 low hx hm hm' m2 may hp eg0 eg1 o o2 hb ha rdb bs' k2 al bl lo2 low2 x2 p2 ea zv eg2 ovl
     generalize ((CI x.1:Nat):Int)=B at *
     simp (disch:=omega)only[go_sem,xF,AP.f178L0,b1,b2,a0,z0,lE,cE,st,z1,z2,E0,E2,k2',k3,k4,p1]
theorem Mo (h : H) (hf : h.floor ≤ h.next) (v w : AV) (l : List xN) (bs : List Int) (hvs : v.sc = true) (hn : l.length < 1125899906842624) (rd : yM 9 h v l.length (xG l)) (hv : ∀ x ∈ l, yF h x ∧ x.2.sc = true) (rdb : Rd h w (ints bs)) (hbs : bs.length < 1125899906842624) :
 ∃ov h' acc,aU AP.A 178 [.agg [v],w] h=some (.bW [ov,.int .i64 (if yh (l.map (·.1))&&BW bs then 0 else 1600)],h')∧YG 2 h ov h' acc.length (zH acc)∧acc.map (·.1)=(if yh (l.map (·.1))&&BW bs then yA (l.map (·.1)) bs else [])∧∀x∈acc,Qk h h' ov x:=by
 obtain⟨g1,eg1⟩:∃g,g=h.alloc [v]:=⟨_,rfl⟩
 have hx1:Ext h g1:=by rw[eg1];exact(Ext.refl h).alloc _
 have z1:g1.get h.next=some [v]:=by rw[eg1];exact xE rfl
 have f1:g1.floor=h.floor:=by rw[eg1];simp
 have n1:g1.next=h.next+1:=by rw[eg1];simp
 have zK:=rd.mono fun i c q=>hx1 i c q
 have hv1:∀x∈l,yF g1 x∧x.2.sc=true:=fun x hx=>⟨(hv x hx).1.mono hx1,(hv x hx).2⟩
 have rdb1:Rd g1 w (ints bs):=rdb.mono fun i c q=>hx1 i c q
 have k1:=ML g1 v l hvs hn zK hv1
 have k2:=Mk g1 w bs rdb1 hbs
 have ln:=zK.len
 cases hm:yh (l.map (·.1))with
 | false =>
   rw[hm]at k1
   refine⟨.aS,g1,[], ?_,⟨x8.nil,hx1,f1,by omega,fun i q=>by cases q⟩,rfl,fun x hx=>by cases hx⟩
   refine vv (fn:=AP.f178) (h2:=g1) (e:=[(4,.aS),(5,.int .i64 1600)]) (vs:=[.aS,.int .i64 1600]) rfl rfl rfl ?_ rfl
   clear rd zK hv hv1 hx1 rdb rdb1
   simp (disch:=omega)only[go_sem,xF,AP.f178,hvs,←eg1,z1,yx,k1,k2]
 | true =>
   rw[hm]at k1
   cases hb:BW bs with
   | false =>
     rw[hb]at k2
     refine⟨.aS,g1,[], ?_,⟨x8.nil,hx1,f1,by omega,fun i q=>by cases q⟩,rfl,fun x hx=>by cases hx⟩
     refine vv (fn:=AP.f178) (h2:=g1) (e:=[(4,.aS),(5,.int .i64 1600)]) (vs:=[.aS,.int .i64 1600]) rfl rfl rfl ?_ rfl
     clear rd zK hv hv1 hx1 rdb rdb1
     simp (disch:=omega)only[go_sem,xF,AP.f178,hvs,←eg1,z1,yx,k1,k2]
   | true =>
     rw[hb]at k2
     obtain⟨e',g2,ov,acc,r1,r2,r3,r4,r5,r6,r7,r8,r9⟩:=G3 g1 zK hv1 hm rdb1 hbs l [] rfl g1 .aS [] (Ext.refl _) (wU _) (by omega) x8.nil rfl (fun x hx=>by cases hx) (fun j q=>by cases q)
     have r1':Lp AP.A [1,6,18,19,20] AP.f178L0 [(1,w),(6,.aS),(18,v),(19,.int .i64 l.length),(20,.int .i64 0)] g1=some (.exit 0,e',g2):=r1
     refine⟨ov,g2,acc, ?_,⟨r3,fun i c q=>r6 i c (hx1 i c q),by rw[r7,f1],by omega,fun j q=>by have:=r9 j q;omega⟩,r4,fun x hx=> ?_⟩
     · refine vv (fn:=AP.f178) (h2:=g2) (e:=[(4,ov),(5,.int .i64 0)]) (vs:=[ov,.int .i64 0]) rfl rfl rfl ?_ rfl
       clear rd zK hv hv1 hx1 rdb rdb1 r1 r3 r4 r5 r6
       simp (disch:=omega)only[go_sem,xF,AP.f178,hvs,←eg1,z1,yx,k1,k2,ln,uo,r1',r2]
     · have b:=r5 x hx
       obtain⟨j,q1,q2,q3,q4,q5⟩:=b.ex
       exact⟨⟨j,q1,q2,by omega,q4,q5⟩,b.l4⟩
theorem Sv (h:H) (hf:h.floor≤h.next) (v:AV) (l:List xN) (hvs:v.sc=true) (hn:l.length<1125899906842624) (rd:yM 9 h v l.length (xG l)) (hv:∀x∈l,yF h x∧x.2.sc=true) (hm:yh (l.map (·.1))=true):
 ∃i h',aU AP.A 177 [.agg [v]] h=some (.bW [.aH i 0 8 1,.int .i64 0],h')∧h'.get i=some (ints (xQ (l.map (·.1))))∧Ext h h'∧h'.floor=h.floor∧h.next≤h'.next∧h.next≤i:=by
 obtain⟨w,h',k,g⟩:=Jh h hf v l hvs hn rd hv
 simp only[hm,if_true]at k g
 rw[x9]at g
 obtain⟨_,⟨_,q⟩|⟨i,q1,q2,_⟩⟩:=g.own
 · cases q
 · subst q1;exact⟨i,h',k,q2,g.ext,g.fl,g.nx,g.ge i rfl⟩
theorem Su (h:H) (hf:h.floor≤h.next) (v:AV) (l:List xN) (hvs:v.sc=true) (hn:l.length<1125899906842624) (rd:yM 9 h v l.length (xG l)) (hv:∀x∈l,yF h x∧x.2.sc=true) (hm:yh (l.map (·.1))=false):
 ∃h',aU AP.A 177 [.agg [v]] h=some (.bW [.aS,.int .i64 1600],h')∧Ext h h'∧h'.floor=h.floor∧h.next≤h'.next:=by
 obtain⟨w,h',k,g⟩:=Jh h hf v l hvs hn rd hv
 simp only[hm,wR,xp]at k g
 obtain⟨_,⟨q,_⟩|⟨i,_,_,_,q⟩⟩:=g.own
 · subst q;exact⟨h',k,g.ext,g.fl,g.nx⟩
 · simp at q
theorem Mp (h:H) (hf:h.floor≤h.next) (v w:AV) (l:List xN) (bs:List Int) (hvs:v.sc=true) (hn:l.length<1125899906842624) (rd:yM 9 h v l.length (xG l)) (hv:∀x∈l,yF h x∧x.2.sc=true) (rdb:Rd h w (ints bs)) (hbs:bs.length<1125899906842624) (hm:(yh (l.map (·.1))&&BW bs)=true):
 ∃ov h' acc,aU AP.A 178 [.agg [v],w] h=some (.bW [ov,.int .i64 0],h')∧YG 2 h ov h' acc.length (zH acc)∧acc.map (·.1)=yA (l.map (·.1)) bs∧∀x∈acc,Qk h h' ov x:=by
 have:=Mo h hf v w l bs hvs hn rd hv rdb hbs
 simpa only[hm,if_true]using this
structure BE where
 kind:Int
 src:Int
 dst:Int
 root:Int
 y5:List Int
 zA:List Int
 xV:List L3
 names:List ByteArray
 yJ:List xP
def yW:Option ByteArray→List ByteArray→Bool
 |_,[]=>true
 |p,s::r=>(yI s&&(match p with|none=>true|some q=>Op.bytesLess q.toList s.toList))&&yW (some s) r
def A9 (m:BE):Bool:=
 (decide (m.kind=0)||decide (m.root=0))&&((decide (m.kind=1)||decide (m.y5.length=0))&&((decide (m.kind=2)||decide (m.zA.length+m.xV.length=0))&&((decide (m.kind=3)||decide (m.names.length=0))&&(decide (m.kind=4)||decide (m.yJ.length=0)))))
def At (m:BE):Bool:=
 if m.kind=0 then Bp m.root
 else if m.kind=1 then decide (m.y5.length=8)&&m.y5.all Bp
 else if m.kind=2 then decide (1≤m.zA.length)&&(BW m.zA&&(yW none (m.xV.map (·.1))&&(decide (m.xV.length≤6)&&m.xV.all fun b=>yS b.2)))
 else if m.kind=3 then yW none m.names&&(decide (1≤m.names.length)&&decide (m.names.length≤6))
 else if m.kind=4 then decide (1≤m.yJ.length)&&yh m.yJ
 else false
def BP (m:BE):Bool:=(yY m.src&&(yY m.dst&& !decide (m.src=m.dst)))&&(At m&&A9 m)
structure Z4 (e:xP):Prop where
 nm:e.name.size≤8
 pk:e.packed.size≤300
 v4:e.vec.length=4
 vc:∀n∈e.vec,0≤n∧n≤1048576
 st:1≤e.xL∧e.xL≤1048576
 nd:0≤e.node∧e.node<4
 mt:e.method=0∨e.method=8
 sz:0≤e.size∧e.size≤300
 cr:0≤e.Bd∧e.Bd≤4294967295
theorem GJ:∀{l:List ByteArray} {p:Option ByteArray},yW p l=true→∀s∈l,s.size≤8
 |[],_,_,s,h=>by cases h
 | x :: l, p, hr, s, h => by
   unfold yW at hr
   rw[wT,wT]at hr
   rcases xn.1 h with rfl|h
   · have:=zq hr.1.1;omega
   · exact GJ hr.2 s h
structure YL (h0 h:H) (ov:AV) (x:xN):Prop where
 ok:yF h x
 sc:x.2.sc=true
 id:∀i,x.2.id?=some i→h0.next≤i∧i<h.next∧ov.id?≠some i∧h.floor≤i
 wr:∃i cs,x.2=.aH i 0 x.1.vec.length 1∧h.get i=some cs∧(0<x.1.vec.length→cs=ints x.1.vec)
theorem YL.mono {h0 h g:H} {ov ov':AV} {x:xN} (b:YL h0 h ov x) (hf:g.floor=h.floor) (hn:h.next≤g.next) (hg:∀j c,ov.id?≠some j→h.get j=some c→g.get j=some c) (ho:∀j,j<h.next→ov.id?≠some j→ov'.id?≠some j):YL h0 g ov' x:=by
 obtain⟨i,cs,e1,e2,e3⟩:=b.wr
 have q:=b.id i (by rw[e1];rfl)
 have e4:=hg i cs q.2.2.1 e2
 exact⟨b.ok.Fq fun k q'=>(by rw[e1]at q';obtain rfl:=wH q';rw[e4,e2]),b.sc,fun i q=>⟨(b.id i q).1,by have:=(b.id i q).2.1;omega,ho i (b.id i q).2.1 (b.id i q).2.2.1,by rw[hf];exact(b.id i q).2.2.2⟩,⟨i,cs,e1,e4,e3⟩⟩
structure N4 (h:H) (v:AV) (l:List Be):Prop where
 rd:yM 2 h v l.length (zH l)
 vec:∀x∈l,Rd h x.2 (ints x.1.2)∧x.1.2.length<1125899906842624
theorem N4.mono {h g:H} {v:AV} {l:List Be} (r:N4 h v l) (e:Ext h g):N4 g v l:=⟨r.rd.mono fun i c q=>e i c q,fun x hx=>⟨(r.vec x hx).1.mono fun i c q=>e i c q,(r.vec x hx).2⟩⟩
theorem N4.at_ {h:H} {v:AV} {l:List Be} (r:N4 h v l):∃ad:Int→Nat→AV,(∀i:Int,0≤i∧i<l.length→gZ 2 v (.int .i64 i)=some (ad i 0)∧fZ 0 (ad i 0)=some (ad i 0)∧fZ 1 (ad i 0)=some (ad i 1))∧
 (∀(i:Nat) (x:Be),l[i]?=some x→cf false 1 (ad i 0) h=some (.str x.1.1)∧cf false 1 (ad i 1) h=some x.2):=by
 obtain⟨ad,a1,a2,a4,a3⟩:=r.rd.at_
 refine⟨ad,fun i hi=>⟨a1 i hi,a2 i 0 0 hi,a2 i 0 1 hi⟩,fun i x hx=> ?_⟩
 have hi:i<l.length:=(wO.1 hx).1
 have g:=fun k (hk:k<2)=>Bm (f:=k) Cs hx hk
 refine⟨(a3 h fun _ _ q=>q).1 i 0 _ ⟨by omega,by omega⟩ ?_,(a3 h fun _ _ q=>q).1 i 1 _ ⟨by omega,by omega⟩ ?_⟩
 · rw[yZ];exact g 0 (by omega)
 · rw[yZ];exact g 1 (by omega)
theorem Vl {g:H} {n:Nat} {E:List AV} (hg:g.get n=some E) (hE:E.length=9):yM 9 g (.aH n 0 1 9) 1 E:=by
 refine⟨?_,by omega,fun _=>by simp⟩
 simp only[aV,if_true,hg,wP,wY,Nat.one_mul]
 rw[if_pos (by omega),aa8,xj (by omega)]
def YA:ByteArray:=⟨#[116,101,120,116]⟩
def eF:xP:=Ch nA 1 3 YA
theorem BM:∀{a b c:List UInt8},Op.bytesLess a b=true→Op.bytesLess b c=true→Op.bytesLess a c=true
 |_,[],_,h,_=>by simp [Op.bytesLess]at h
 |_,_::_,[],_,h=>by simp [Op.bytesLess]at h
 |[],y::b,z::c,_,_=>rfl
 | x :: a, y :: b, z :: c, h1, h2 => by
   simp only[Op.bytesLess,xh,aa1,wT,beq_iff_eq]at h1 h2 ⊢
   rcases h1 with h1|⟨rfl,h1⟩
   · rcases h2 with h2|⟨rfl,h2⟩
     · exact .inl (UInt8.lt_trans h1 h2)
     · exact .inl h1
   · rcases h2 with h2|⟨rfl,h2⟩
     · exact .inl h2
     · exact .inr ⟨rfl,BM h1 h2⟩
theorem Ly {p:Option xP} {x y:xP} {b:List xP} (h1:zt p x=true) (h2:yC (some x) (y::b)=true):yC p (y::b)=true:=by
 simp only[yC,wT]at h2 ⊢
 refine⟨?_,h2.2⟩
 unfold zt at h1 h2 ⊢
 simp only[wT]at h1 h2 ⊢
 refine⟨h2.1.1, ?_,h2.1.2.2⟩
 cases p with
 |none=>rfl
 |some q=>exact BM h1.2.1 h2.1.2.1
theorem Fo:∀{a b:List xP} {x:xP} {p:Option xP},yC p (a++x::b)=true→yC p (a++b)=true
 |[],[],x,p,h=>rfl
 | [], y :: b, x, p, h => by
   simp only[abB]at h ⊢
   rw[yC,wT]at h
   exact Ly h.1 h.2
 | z :: a, b, x, p, h => by
   simp only[List.cons_append,yC,wT]at h ⊢
   exact⟨h.1,Fo h.2⟩
theorem zX : ∀ (a b : List UInt8), Op.bytesLess b a = !(Op.bytesLess a b || a == b)
 |[],[]=>rfl
 |[],_::_=>rfl
 |_::_,[]=>rfl
 | x :: a, y :: b => by
   have ih:=zX a b
   simp only[Op.bytesLess]
   rw[ih]
   by_cases h1:x<y
   · have h2:¬y<x:=fun q=>absurd (UInt8.lt_trans h1 q) (UInt8.lt_irrefl _)
     have h3:¬y=x:=fun q=>by subst q;exact absurd h1 (UInt8.lt_irrefl _)
     simp [h1,h2,h3]
   · by_cases h2:y<x
     · have h3:¬x=y:=fun q=>by subst q;exact absurd h2 (UInt8.lt_irrefl _)
       simp [h1,h2,h3]
     · have h3:x=y:=UInt8.le_antisymm (UInt8.not_lt.1 h2) (UInt8.not_lt.1 h1)
       subst h3
       simp [h1]
def CT (p:Option xP) (e:xP):Bool:=match p with|none=>true|some q=>Op.bytesLess q.name.toList e.name.toList
theorem Dg (p:Option xP) (e:xP):zt p e=(yK [e]&&CT p e):=by
 rw[Ej]
 unfold zt CT
 cases yI e.name<;>cases yy e<;>cases zm e<;>cases p<;>simp
theorem KU {v : AV} {l : List xN} (hl : l.length ≤ 6) (h : H) (b : Nat) (hb : h.get b = some [v]) (rd : yM 9 h v l.length (xG l)) (hv : ∀ x ∈ l, yF h x ∧ x.2.sc = true) : ∀ (q p : List xN), l = p ++ q →
 (∃e',Lp AP.A [1,3] AP.f212L0 [(1,.aG b 0),(3,.int .i64 p.length)] h=some (.exit 0,e',h)∧yC (p.getLast?.map (·.1)) (q.map (·.1))=true)∨
 (∃e',Lp AP.A [1,3] AP.f212L0 [(1,.aG b 0),(3,.int .i64 p.length)] h=some (.ret,e',h)∧look e' 2=.bool false∧yC (p.getLast?.map (·.1)) (q.map (·.1))=false)
 | [], p, hp => by
   rw[aa2]at hp;subst hp
   have ln:=rd.len
   refine .inl ⟨[(1,.aG b 0),(3,.int .i64 l.length),(12,.bool false)],u6 ?_,rfl⟩
   simp (disch:=omega)only[go_sem,xF,AP.f212L0,hb,ln]
 | x :: q, p, hp => by
   have hlen:l.length=p.length+(q.length+1):=by rw[hp];simp
   have hx:l[p.length]?=some x:=by rw[hp];simp
   have ln:=rd.len
   obtain⟨ad,a1,a2⟩:=rd.HY
   have b1:=a1 p.length ⟨by omega,by omega⟩
   obtain⟨pe,b2⟩:=a2 h (Ext.refl h) p.length x hx
   obtain⟨qq,f1,f2⟩:=pe.vm
   have l0:=f2 h (Ext.refl h) 0 _ rfl
   obtain⟨ok,sc⟩:=hv x (by rw[hp];simp)
   have k1:=MS h x.1 x.2 sc ok
   have ih:=KU hl h b hb rd hv q (p++[x]) (by rw[hp];simp)
   have w1:((p++[x]).length:Int)=(p.length:Int)+1:=by simp
   rw[w1,List.getLast?_concat]at ih
   have step:aO (aU AP.A) bH AP.f212L0 (ay [(1,.aG b 0),(3,.int .i64 p.length)] [1,3]) h=if zt (p.getLast?.map (·.1)) x.1 then some (.normal,[(1,.aG b 0),(3,.int .i64 ((p.length:Int)+1))],h)else some (.ret,[(2,.bool false)],h):=by
    rw[Dg]
    generalize yK [x.1]=B at *
    cases hq:p.getLast? with
    | none =>
      have hp0:p=[]:=List.getLast?_eq_none_iff.1 hq
      have hp1:p.length=0:=by rw[hp0];rfl
      clear ih rd a1 a2 hp w1 pe f2 hv ok
      rw[abc,show CT none x.1=true from rfl,abD]
      generalize xA x.1 x.2=E at *
      cases B with
      | false =>
        rw[if_neg (by decide)]
        simp (disch:=omega)only[go_sem,xF,AP.f212L0,hb,ln,b1,b2,f1,l0,k1]
      | true =>
        rw[if_pos rfl]
        simp (disch:=omega)only[go_sem,xF,AP.f212L0,hb,ln,b1,b2,f1,l0,k1]
    | some y =>
      obtain⟨p',rfl⟩:∃p',p=p'++[y]:=List.getLast?_eq_some_iff.1 hq
      have hpl:(p'++[y]).length=p'.length+1:=by simp
      have hy:l[p'.length]?=some y:=by rw[hp];simp
      have bj:=a1 p'.length ⟨by omega,by omega⟩
      obtain⟨pj,_⟩:=a2 h (Ext.refl h) p'.length y hy
      obtain⟨qj,fj1,fj2⟩:=pj.vm
      have lj:=fj2 h (Ext.refl h) 0 _ rfl
      have n2:(((p'++[y]).length:Nat):Int)-1=(p'.length:Int):=by rw[hpl];omega
      have n3:0<(((p'++[y]).length:Nat):Int):=by rw[hpl];omega
      have cmp:bC .leq (.str x.1.name) (.str y.1.name)=some (.bool (!(CT (some y.1) x.1))):=by
       show _=some (AV.bool (!(Op.bytesLess y.1.name.toList x.1.name.toList)))
       rw[zX x.1.name.toList y.1.name.toList,Bool.not_not];rfl
      clear ih rd a1 a2 hp w1 hx hy hq pe f2 pj fj2 hv ok
      rw[aaY]
      generalize xA x.1 x.2=E at *
      generalize CT (some y.1) x.1=B2 at *
      generalize (p'++[y]).length=pl at *
      cases B with
      | false =>
        rw[aa4,if_neg (by decide)]
        simp (disch:=omega)only[go_sem,xF,AP.f212L0,hb,ln,b1,b2,f1,l0,k1]
      | true =>
        cases B2 with
        | false =>
          rw[aa9,if_neg (by decide)]
          simp (disch:=omega)only[go_sem,xF,AP.f212L0,hb,ln,b1,b2,f1,l0,k1,bj,fj1,lj,n2,cmp]
        | true =>
          rw[abm,if_pos rfl]
          simp (disch:=omega)only[go_sem,xF,AP.f212L0,hb,ln,b1,b2,f1,l0,k1,bj,fj1,lj,n2,cmp]
   have hmay:yC (p.getLast?.map (·.1)) ((x::q).map (·.1))=(zt (p.getLast?.map (·.1)) x.1&&yC (some x.1) (q.map (·.1))):=rfl
   rw[hmay]
   by_cases hok:zt (p.getLast?.map (·.1)) x.1=true
   · rw[if_pos hok]at step
     rw[hok,aa3]
     rcases ih with ⟨e',r1,r2⟩|⟨e',r1,r2,r3⟩
     · exact .inl ⟨e',u9 step r1,r2⟩
     · exact .inr ⟨e',u9 step r1,r2,r3⟩
   · have hok':zt (p.getLast?.map (·.1)) x.1=false:=by simpa using hok
     rw[if_neg hok]at step
     rw[hok',aa4]
     exact .inr ⟨_,vF step,rfl,rfl⟩
theorem NY (h:H) (v:AV) (l:List xN) (hvs:v.sc=true) (hn:l.length<1125899906842624) (rd:yM 9 h v l.length (xG l)) (hv:∀x∈l,yF h x∧x.2.sc=true):aU AP.A 212 [.agg [v]] h=some (.bool (yK (l.map (·.1))),h):=by
 obtain⟨h1,eh1⟩:∃g,g=h.eO.alloc [v]:=⟨_,rfl⟩
 have hx0:Ext h h1:=by rw[eh1];exact fun i c q=>((Ext.refl h.eO).alloc _) i c q
 have hn0:h.eO.next=h.next:=rfl
 have g1:h1.get h.next=some [v]:=by rw[eh1];exact xE rfl
 have zK:=rd.mono fun i c q=>hx0 i c q
 have ln:=zK.len
 unfold yK
 rw[aa0]
 by_cases c:l.length≤6
 · have c':¬(6:Int)<l.length:=by omega
   rw[dt c,abD]
   rcases KU c h1 h.next g1 zK (fun x hx=>⟨(hv x hx).1.mono hx0,(hv x hx).2⟩) l [] rfl with ⟨e',r1,r2⟩|⟨e',r1,r2,r3⟩
   · have r1':Lp AP.A [1,3] AP.f212L0 [(1,.aG h.next 0),(3,.int .i64 0)] h1=some (.exit 0,e',h1):=r1
     have r2':yC none (l.map (·.1))=true:=r2
     rw[r2']
     refine vP (fn:=AP.f212) (h2:=h1) (e:=[(2,.bool true)]) rfl rfl rfl ?_ rfl rfl
     clear rd zK hv hx0 r1 r2 r2'
     simp (disch:=omega)only[go_sem,xF,AP.f212,hvs,hn0,←eh1,g1,ln,uo,r1']
   · have r1':Lp AP.A [1,3] AP.f212L0 [(1,.aG h.next 0),(3,.int .i64 0)] h1=some (.ret,e',h1):=r1
     have r3':yC none (l.map (·.1))=false:=r3
     rw[r3']
     refine vP (fn:=AP.f212) (h2:=h1) (e:=e') (vs:=[.bool false]) rfl rfl rfl ?_ (by simp only[AP.f212,c9,oL,r2];rfl) rfl
     clear rd zK hv hx0 r1 r3 r3'
     simp (disch:=omega)only[go_sem,xF,AP.f212,hvs,hn0,←eh1,g1,ln,uo,r1']
 · have c':(6:Int)<l.length:=by omega
   rw[df c,aa9]
   refine vP (fn:=AP.f212) (h2:=h1) (e:=[(2,.bool false)]) rfl rfl rfl ?_ rfl rfl
   clear rd zK hv hx0
   simp (disch:=omega)only[go_sem,xF,AP.f212,hvs,hn0,←eh1,g1,ln]
theorem JY {v:AV} {l:List xN} (h:H) (b:Nat) (hb:h.get b=some [v]) (rd:yM 9 h v l.length (xG l)) (hm:yK (l.map (·.1))=true):∀(q p:List xN),l=p++q→
 ∃e',Lp AP.A [1,3,4] AP.f213L0 [(1,.aG b 0),(3,.int .i64 (22+DF (p.map (·.1)):Nat)),(4,.int .i64 p.length)] h=some (.exit 0,e',h)∧look e' 3=.int .i64 (zM (l.map (·.1)):Nat)
 | [], p, hp => by
   rw[aa2]at hp;subst hp
   have ln:=rd.len
   refine⟨[(1,.aG b 0),(3,.int .i64 (22+DF (l.map (·.1)):Nat)),(4,.int .i64 l.length),(12,.bool false)],u6 ?_,rfl⟩
   simp (disch:=omega)only[go_sem,xF,AP.f213L0,hb,ln]
 | x :: q, p, hp => by
   obtain⟨m1,m2,m3⟩:=yu hm
   have hx:l[p.length]?=some x:=by rw[hp];simp
   have hlen:l.length=p.length+(q.length+1):=by rw[hp];simp
   rw[aa0]at m1
   obtain⟨_,_,c3⟩:=m2 x.1 (by rw[hp];simp)
   have c1:=zq (m2 x.1 (by rw[hp];simp)).1
   have c2:=A0 c3
   have ln:=rd.len
   obtain⟨ad,a1,a2⟩:=rd.HY
   have b1:=a1 p.length ⟨by omega,by omega⟩
   obtain⟨pe,_⟩:=a2 h (Ext.refl h) p.length x hx
   obtain⟨qq,f1,f2⟩:=pe.vm
   have l0:=f2 h (Ext.refl h) 0 _ rfl
   have l6:=f2 h (Ext.refl h) 6 _ rfl
   obtain⟨e',r1,r2⟩:=JY h b hb rd hm q (p++[x]) (by rw[hp];simp)
   have sz:zM (l.map (·.1))=22+(DF (p.map (·.1))+(N3 x.1+DF (q.map (·.1)))):=by unfold zM;rw[hp,abg,EG,aa5,DF]
   have e1:22+DF ((p++[x]).map (·.1))=22+DF (p.map (·.1))+N3 x.1:=by rw[abg,EG];simp [DF];omega
   have n1:((p++[x]).length:Int)=(p.length:Int)+1:=by simp
   rw[e1,n1]at r1
   have se:N3 x.1=128+2* x.1.name.size+x.1.packed.size:=rfl
   obtain⟨N,hN⟩:∃N,N=22+DF (p.map (·.1)):=⟨_,rfl⟩
   rw[←hN]at r1 ⊢
   have hN2:N≤4096:=by omega
   have w:(N:Int)+76+2* (x.1.name.size:Int)+52+(x.1.packed.size:Int)=((N+N3 x.1:Nat):Int):=by omega
   refine⟨e',u9 ?_ r1,r2⟩
   clear r1 r2 e1 sz hN rd a1 a2 f2 pe m2 m3 hm hp n1
   simp (disch:=omega)only[go_sem,xF,AP.f213L0,hb,ln,b1,f1,l0,l6,w]
theorem JZ (h:H) (v:AV) (l:List xN) (hvs:v.sc=true) (hn:l.length<1125899906842624) (rd:yM 9 h v l.length (xG l)) (hv:∀x∈l,yF h x∧x.2.sc=true) (hm:yK (l.map (·.1))=true):aU AP.A 213 [.agg [v]] h=some (.int .i64 (zM (l.map (·.1)):Nat),h):=by
 obtain⟨h1,eh1⟩:∃g,g=h.eO.alloc [v]:=⟨_,rfl⟩
 have hx0:Ext h h1:=by rw[eh1];exact fun i c q=>((Ext.refl h.eO).alloc _) i c q
 have hn0:h.eO.next=h.next:=rfl
 have g1:h1.get h.next=some [v]:=by rw[eh1];exact xE rfl
 have zK:=rd.mono fun i c q=>hx0 i c q
 have k1:=NY h1 v l hvs hn zK (fun x hx=>⟨(hv x hx).1.mono hx0,(hv x hx).2⟩)
 rw[hm]at k1
 obtain⟨e',r1,r2⟩:=JY h1 h.next g1 zK hm l [] rfl
 have r1':Lp AP.A [1,3,4] AP.f213L0 [(1,.aG h.next 0),(3,.int .i64 22),(4,.int .i64 0)] h1=some (.exit 0,e',h1):=r1
 clear r1 hm
 generalize zM (l.map (·.1))=N at *
 refine vP (fn:=AP.f213) (h2:=h1) (e:=[(2,.int .i64 N)]) (vs:=[.int .i64 N]) rfl rfl rfl ?_ rfl rfl
 clear rd zK hv hx0
 simp (disch:=omega)only[go_sem,xF,AP.f213,hvs,hn0,←eh1,g1,yx,k1,uo,r1',r2]
theorem J3 {v : AV} {l : List xN} (hl : l.length ≤ 6) (h : H) (b : Nat) (hb : h.get b = some [v]) (rd : yM 9 h v l.length (xG l)) (hv : ∀ x ∈ l, yF h x ∧ x.2.sc = true) : ∀ (q p : List xN), l = p ++ q →
 (∃e',Lp AP.A [1,3] AP.f205L0 [(1,.aG b 0),(3,.int .i64 p.length)] h=some (.exit 0,e',h)∧(q.map (·.1)).all yi=true)∨
 (∃e',Lp AP.A [1,3] AP.f205L0 [(1,.aG b 0),(3,.int .i64 p.length)] h=some (.ret,e',h)∧look e' 2=.bool false∧(q.map (·.1)).all yi=false)
 | [], p, hp => by
   rw[aa2]at hp;subst hp
   have ln:=rd.len
   refine .inl ⟨[(1,.aG b 0),(3,.int .i64 l.length),(16,.bool false)],u6 ?_,rfl⟩
   simp (disch:=omega)only[go_sem,xF,AP.f205L0,hb,ln]
 | x :: q, p, hp => by
   have hlen:l.length=p.length+(q.length+1):=by rw[hp];simp
   have hx:l[p.length]?=some x:=by rw[hp];simp
   have ln:=rd.len
   obtain⟨ad,a1,a2⟩:=rd.HY
   have b1:=a1 p.length ⟨by omega,by omega⟩
   obtain⟨_,b2⟩:=a2 h (Ext.refl h) p.length x hx
   obtain⟨ok,sc⟩:=hv x (by rw[hp];simp)
   have k1:=BK h x.1 x.2 sc ok
   have ih:=J3 hl h b hb rd hv q (p++[x]) (by rw[hp];simp)
   have w1:((p++[x]).length:Int)=(p.length:Int)+1:=by simp
   rw[w1]at ih
   rw[aa5,abE]
   cases hm:yi x.1 with
   | false =>
     rw[hm]at k1
     refine .inr ⟨[(2,.bool false)],vF ?_,rfl,rfl⟩
     clear ih rd a1 a2 hv hp ok
     generalize xA x.1 x.2=E at *
     simp (disch:=omega)only[go_sem,xF,AP.f205L0,hb,ln,b1,b2,k1]
   | true =>
     rw[hm]at k1
     rw[aa3]
     have step:aO (aU AP.A) bH AP.f205L0 (ay [(1,.aG b 0),(3,.int .i64 p.length)] [1,3]) h=some (.normal,[(1,.aG b 0),(3,.int .i64 ((p.length:Int)+1))],h):=by
      clear ih rd a1 a2 hv hp ok
      generalize xA x.1 x.2=E at *
      simp (disch:=omega)only[go_sem,xF,AP.f205L0,hb,ln,b1,b2,k1]
     rcases ih with ⟨e',r1,r2⟩|⟨e',r1,r2,r3⟩
     · exact .inl ⟨e',u9 step r1,r2⟩
     · exact .inr ⟨e',u9 step r1,r2,r3⟩
theorem Ew (h:H) (v:AV) (l:List xN) (hvs:v.sc=true) (hn:l.length<1125899906842624) (rd:yM 9 h v l.length (xG l)) (hv:∀x∈l,yF h x∧x.2.sc=true):aU AP.A 205 [.agg [v]] h=some (.bool (yh (l.map (·.1))),h):=by
 obtain⟨h1,eh1⟩:∃g,g=h.eO.alloc [v]:=⟨_,rfl⟩
 have hx0:Ext h h1:=by rw[eh1];exact fun i c q=>((Ext.refl h.eO).alloc _) i c q
 have hn0:h.eO.next=h.next:=rfl
 have g1:h1.get h.next=some [v]:=by rw[eh1];exact xE rfl
 have zK:=rd.mono fun i c q=>hx0 i c q
 have hv1:∀x∈l,yF h1 x∧x.2.sc=true:=fun x hx=>⟨(hv x hx).1.mono hx0,(hv x hx).2⟩
 have k1:=NY h1 v l hvs hn zK hv1
 unfold yh
 cases hm:yK (l.map (·.1))with
 | false =>
   rw[hm]at k1
   rw[aa4]
   refine vP (fn:=AP.f205) (h2:=h1) (e:=[(2,.bool false)]) rfl rfl rfl ?_ rfl rfl
   clear rd zK hv hv1 hx0
   simp (disch:=omega)only[go_sem,xF,AP.f205,hvs,hn0,←eh1,g1,yx,k1]
 | true =>
   rw[hm]at k1
   rw[aa3]
   have k2:=JZ h1 v l hvs hn zK hv1 hm
   obtain⟨m1,_,m3⟩:=yu hm
   rw[aa0]at m1
   generalize zM (l.map (·.1))=N at *
   rcases J3 m1 h1 h.next g1 zK hv1 l [] rfl with ⟨e',r1,r2⟩|⟨e',r1,r2,r3⟩
   · have r1':Lp AP.A [1,3] AP.f205L0 [(1,.aG h.next 0),(3,.int .i64 0)] h1=some (.exit 0,e',h1):=r1
     rw[r2]
     refine vP (fn:=AP.f205) (h2:=h1) (e:=[(2,.bool true)]) rfl rfl rfl ?_ rfl rfl
     clear rd zK hv hv1 hx0 r1 r2
     simp (disch:=omega)only[go_sem,xF,AP.f205,hvs,hn0,←eh1,g1,yx,k1,k2,uo,r1']
   · have r1':Lp AP.A [1,3] AP.f205L0 [(1,.aG h.next 0),(3,.int .i64 0)] h1=some (.ret,e',h1):=r1
     rw[r3]
     refine vP (fn:=AP.f205) (h2:=h1) (e:=e') (vs:=[.bool false]) rfl rfl rfl ?_ (by simp only[AP.f205,c9,oL,r2];rfl) rfl
     clear rd zK hv hv1 hx0 r1 r3
     simp (disch:=omega)only[go_sem,xF,AP.f205,hvs,hn0,←eh1,g1,yx,k1,k2,uo,r1']
theorem Gb (h:H) (s:ByteArray) (hs:s.size<1125899906842624):aU AP.A 200 [.str s] h=some (.int .i64 ((zT s%8:Nat):Int),h):=by
 have k1:=EU h.eO s hs
 have rm:bC .rem (.int .i64 (zT s:Int)) (.int .i64 8)=some (.int .i64 ((zT s%8:Nat):Int)):=by
  show(if(8:Int)=0 then none else some (AV.int .i64 ((zT s:Int).tmod 8)))=_
  rw[if_neg (by decide),Int.tmod_eq_emod_of_nonneg (by omega)];rfl
 generalize ((zT s%8:Nat):Int)=M at *
 refine vP (fn:=AP.f200) (h2:=h.eO) (e:=[(2,.int .i64 M)]) rfl rfl rfl ?_ rfl rfl
 simp (disch:=omega)only[go_sem,xF,AP.f200,k1,rm]
theorem EW {v : AV} {l : List xN} (m : Nat) (hm : yh (l.map (·.1)) = true) (h0 : H) (b : Nat) (hb : h0.get b = some [v]) (rd : yM 9 h0 v l.length (xG l)) (hv : ∀ x ∈ l, yF h0 x ∧ x.2.sc = true) (outv : AV) : ∀ (q p : List xN), l = p ++ q → ∀ (h : H) (ov : AV), Ext h0 h → h.floor ≤ h.next → h0.next ≤ h.next →
 x8 1 h ov (yO (p.map (·.1)) m).length (ints (yO (p.map (·.1)) m))→(∀j,ov.id?=some j→h0.next≤j)→
 ∃ e' h' ov', Lp AP.A [1, 4, 5, 6, 7] AP.f197L0 [(1, .aG b 0), (4, outv), (5, .int .i64 m), (6, ov), (7, .int .i64 p.length)] h = some (.exit 2, e', h') ∧ look e' 1 = .aG b 0 ∧ look e' 4 = outv ∧ look e' 5 = .int .i64 m ∧ look e' 6 = ov' ∧
   x8 1 h' ov' (yO (l.map (·.1)) m).length (ints (yO (l.map (·.1)) m))∧Ext h0 h'∧h'.floor=h.floor∧h.next≤h'.next∧∀j,ov'.id?=some j→h0.next≤j
 | [], p, hp, h, ov, hx, hf, hn, o, hge => by
   rw[aa2]at hp;subst hp
   have gb:=hx _ _ hb
   have ln:=(rd.mono fun i c q=>hx i c q).len
   refine⟨[(1,.aG b 0),(4,outv),(5,.int .i64 m),(6,ov),(7,.int .i64 l.length),(23,.bool false)],h,ov,u6 ?_,rfl,rfl,rfl,rfl,o,hx,rfl,wU _,hge⟩
   simp (disch:=omega)only[go_sem,xF,AP.f197L0,gb,ln]
 | x :: q, p, hp, h, ov, hx, hf, hn, o, hge => by
   have hm':=hm
   unfold yh at hm'
   rw[wT]at hm'
   obtain⟨m1,m2,m3⟩:=yu hm'.1
   rw[aa0]at m1
   have gb:=hx _ _ hb
   have hlx:l[p.length]?=some x:=by rw[hp];simp
   have hlen:l.length=p.length+(q.length+1):=by rw[hp];simp
   have may:yi x.1=true:=aba.1 hm'.2 x.1 (by rw[hp];simp)
   have ln:=(rd.mono fun i c q=>hx i c q).len
   obtain⟨ad,a1,a2⟩:=rd.HY
   have b1:=a1 p.length ⟨by omega,by omega⟩
   obtain⟨pe,b2⟩:=a2 h hx p.length x hlx
   obtain⟨qq,f1,f2⟩:=pe.vm
   have l0:=f2 h (Ext.refl h) 0 _ rfl
   obtain⟨ok,sc⟩:=hv x (by rw[hp];simp)
   have k1:=Gb h x.1.name ok.nl
   have k1':aU AP.A 200 [.str x.1.name] h=some (.int .i64 ((CI x.1:Nat):Int),h):=k1
   have k2:=Lb h x.1 x.2 sc (ok.mono hx)
   unfold La at k2
   rw[if_pos may]at k2
   have k2':aU AP.A 151 [.agg (xA x.1 x.2)] h=some (.bW [.int .i64 (Mw x.1),.int .i64 0],h):=k2
   have w1:((p++[x]).length:Int)=(p.length:Int)+1:=by simp
   have bs:=Ga (p.map (·.1)) x.1 m
   have bl:=C8 (p.map (·.1)) m
   rw[aa0]at bl
   by_cases c:CI x.1=m
   · rw[if_pos c]at bs
     rw[c]at k1'
     obtain⟨v',h',p1,p2,p3,p4,p5,p6⟩:=o.push hf (z:=8) (m:=1) (by omega) (by omega) [.int .i64 (Mw x.1)] rfl rfl (by simp [roomy];omega)
     have ea:ints (yO (p.map (·.1)) m)++[.int .i64 (Mw x.1)]=ints (yO ((p++[x]).map (·.1)) m):=by rw[abg,abx,bs];simp [ints,I]
     have el:(yO (p.map (·.1)) m).length+1=(yO ((p++[x]).map (·.1)) m).length:=by rw[abg,abx,bs];simp
     rw[ea,el]at p2
     obtain⟨e',h2,ov',r1,r2⟩:=EW m hm h0 b hb rd hv outv q (p++[x]) (by rw[hp];simp) h' v' (fun i c q=>by
      have:=h0.lt _ _ q
      rw[p5 i (fun q2=>by have:=hge i q2;omega) (by omega)];exact hx i c q) (by omega) (by omega) p2 (fun j q=>by rw[p6]at q;have:=wH q;omega)
     rw[w1]at r1
     refine⟨e',h2,ov',u9 ?_ r1,r2.1,r2.2.1,r2.2.2.1,r2.2.2.2.1,r2.2.2.2.2.1,r2.2.2.2.2.2.1,by rw[r2.2.2.2.2.2.2.1,p3],by have:=r2.2.2.2.2.2.2.2.1;omega,r2.2.2.2.2.2.2.2.2⟩
     clear r1 r2 rd hv a1 a2 o bs ea el p2 pe f2 hm hm' m2 k2
     generalize xA x.1 x.2=F at *
     generalize Mw x.1=D at *
     simp (disch:=omega)only[go_sem,xF,AP.f197L0,gb,ln,b1,b2,f1,l0,k1',k2',p1]
   · rw[if_neg c]at bs
     have c':¬((CI x.1:Nat):Int)=(m:Int):=by omega
     obtain⟨e',h2,ov',r1,r2⟩:=EW m hm h0 b hb rd hv outv q (p++[x]) (by rw[hp];simp) h ov hx hf hn (by rw[abg,abx,bs];exact o) hge
     rw[w1]at r1
     refine⟨e',h2,ov',u9 ?_ r1,r2⟩
     clear r1 r2 rd hv a1 a2 o bs pe f2 hm hm' m2 k2 k1
     generalize xA x.1 x.2=F at *
     generalize ((CI x.1:Nat):Int)=B at *
     simp (disch:=omega)only[go_sem,xF,AP.f197L0,gb,ln,b1,b2,f1,l0,k1']
theorem HW {v:AV} {l:List xN} (hm:yh (l.map (·.1))=true) (h0:H) (b:Nat) (hb:h0.get b=some [v]) (rd:yM 9 h0 v l.length (xG l)) (hv:∀x∈l,yF h0 x∧x.2.sc=true):∀(n i:Nat),i+n=8→∀(h:H) (ov:AV),Ext h0 h→h.floor≤h.next→h0.next≤h.next→
 x8 1 h ov i (ints ((List.range i).map fun b=>xZ (yO (l.map (·.1)) b)))→(∀j,ov.id?=some j→h0.next≤j)→
 ∃e' h' ov',Lp AP.A [1,4,5] AP.f197L1 [(1,.aG b 0),(4,ov),(5,.int .i64 i)] h=some (.exit 0,e',h')∧look e' 4=ov'∧x8 1 h' ov' 8 (ints (xQ (l.map (·.1))))∧h'.floor=h.floor
 | 0, i, hi, h, ov, hx, hf, hn, o, hge => by
   obtain rfl:i=8:=by omega
   refine⟨[(1,.aG b 0),(4,ov),(5,.int .i64 8),(16,.bool false)],h,ov,u6 ?_,rfl,o,rfl⟩
   simp (disch:=omega)only[go_sem,xF,AP.f197L1]
 | n + 1, i, hi, h, ov, hx, hf, hn, o, hge => by
   obtain⟨e1,h1,dv,r1,r2,r3,r4,r5,r6,r7,r8,r9,r10⟩:=EW i hm h b (hx _ _ hb) (rd.mono fun i c q=>hx i c q) (fun x hx'=>⟨(hv x hx').1.mono hx,(hv x hx').2⟩) ov l [] rfl h .aS (Ext.refl h) hf (wU _) x8.nil (fun j q=>by cases q)
   have r1':Lp AP.A [1,4,5,6,7] AP.f197L0 [(1,.aG b 0),(4,ov),(5,.int .i64 i),(6,.aS),(7,.int .i64 0)] h=some (.exit 2,e1,h1):=r1
   have bl:=C8 (l.map (·.1)) i
   have hm':=hm
   unfold yh at hm'
   rw[wT]at hm'
   have m1:=(yu hm'.1).1
   have k1:=Kf h1 dv (yO (l.map (·.1)) i) (by have:=r6.rd;exact⟨by rw[rk];exact this.1,this.2.2⟩) (by omega)
   rw[Ip (JI _ _)]at k1
   have k1':aU AP.A 152 [dv] h1=some (.bW [.int .i64 (xZ (yO (l.map (·.1)) i)),.int .i64 0],h1):=k1
   have o1:x8 1 h1 ov i (ints ((List.range i).map fun b=>xZ (yO (l.map (·.1)) b))):=o.mono r8 fun j q=>by
    obtain⟨_,⟨q1,_⟩|⟨j',q1,q2,_⟩⟩:=o
    · rw[q1]at q;cases q
    · rw[q1]at q;obtain rfl:=wH q;rw[q2];exact r7 _ _ q2
   obtain⟨v',h',p1,p2,p3,p4,p5,p6⟩:=o1.push (by omega) (z:=8) (m:=1) (by omega) (by omega) [.int .i64 (xZ (yO (l.map (·.1)) i))] rfl rfl (by simp [roomy];omega)
   have e:ints ((List.range i).map fun b=>xZ (yO (l.map (·.1)) b))++[.int .i64 (xZ (yO (l.map (·.1)) i))]=ints ((List.range (i+1)).map fun b=>xZ (yO (l.map (·.1)) b)):=by rw[FB];simp [ints,I]
   rw[e]at p2
   obtain⟨e',h2,ov',s1,s2,s3,s4⟩:=HW hm h0 b hb rd hv n (i+1) (by omega) h' v' (fun j c q=>by
    have:=h0.lt _ _ q
    rw[p5 j (fun q2=>by have:=hge j q2;omega) (by omega)];exact r7 _ _ (hx j c q)) (by omega) (by omega) p2 (fun j q=>by rw[p6]at q;have:=wH q;omega)
   have w1:((i+1:Nat):Int)=(i:Int)+1:=by omega
   rw[w1]at s1
   refine⟨e',h2,ov',u9 ?_ s1,s2,s3,by rw[s4,p3,r8]⟩
   clear r1 r6 r7 s1 s3 o o1 e p2 rd hv hx hm hm' k1
   generalize xZ (yO (l.map (·.1)) i)=D at *
   simp (disch:=omega)only[go_sem,xF,AP.f197L1,uo,r1',r2,r3,r4,r5,k1',p1]
def Mz (l:List xP):AV:=if yh l then .bW [xU (xQ l),.int .i64 0]else .bW [.aS,.int .i64 1600]
theorem JW (h:H) (v:AV) (l:List xN) (hvs:v.sc=true) (hn:l.length<1125899906842624) (rd:yM 9 h v l.length (xG l)) (hv:∀x∈l,yF h x∧x.2.sc=true):aU AP.A 197 [.agg [v]] h=some (Mz (l.map (·.1)),h):=by
 obtain⟨h1,eh1⟩:∃g,g=h.eO.alloc [v]:=⟨_,rfl⟩
 have hx0:Ext h h1:=by rw[eh1];exact fun i c q=>((Ext.refl h.eO).alloc _) i c q
 have hn0:h.eO.next=h.next:=rfl
 have f1:h1.floor=h.next:=by rw[eh1];simp
 have n1:h1.next=h.next+1:=by rw[eh1];simp
 have g1:h1.get h.next=some [v]:=by rw[eh1];exact xE rfl
 have zK:=rd.mono fun i c q=>hx0 i c q
 have hv1:∀x∈l,yF h1 x∧x.2.sc=true:=fun x hx=>⟨(hv x hx).1.mono hx0,(hv x hx).2⟩
 have k1:=Ew h1 v l hvs hn zK hv1
 unfold Mz
 cases hm:yh (l.map (·.1))with
 | false =>
   rw[hm]at k1
   refine vP (fn:=AP.f197) (h2:=h1) (e:=[(2,.aS),(3,.int .i64 1600)]) (vs:=[.aS,.int .i64 1600]) rfl rfl rfl ?_ rfl rfl
   clear rd zK hv hv1 hx0
   simp (disch:=omega)only[go_sem,xF,AP.f197,hvs,hn0,←eh1,g1,yx,k1]
 | true =>
   rw[hm]at k1
   obtain⟨e',h2,ov,r1,r2,r3,r4⟩:=HW hm h1 h.next g1 zK hv1 8 0 rfl h1 .aS (Ext.refl _) (by omega) (wU _) x8.nil (fun j q=>by cases q)
   have r1':Lp AP.A [1,4,5] AP.f197L1 [(1,.aG h.next 0),(4,.aS),(5,.int .i64 0)] h1=some (.exit 0,e',h2):=r1
   refine vP (fn:=AP.f197) (h2:=h2) (e:=[(2,ov),(3,.int .i64 0)]) (vs:=[ov,.int .i64 0]) rfl rfl rfl ?_ rfl ?_
   · clear rd zK hv hv1 hx0 r1 r3
     simp (disch:=omega)only[go_sem,xF,AP.f197,hvs,hn0,←eh1,g1,yx,k1,uo,r1',r2]
   · have s:=r3.Aa (fl:=h.next) (m:=13) (t:=true) (by rw[r4,f1];exact wU _)
     have e:CG 1 8 (ints (xQ (l.map (·.1))))=xU (xQ (l.map (·.1))):=by unfold CG xU;rw[x9];rfl
     rw[e]at s
     show(gH (snap h2.get h.next 15 true) [ov,.int .i64 0]).bind _=_
     simp only[gH,s,wP]
     rfl
theorem Kz (h:H) (v:AV) (l:List Int) (rd:Rd h v (ints l)) (hl:l.length<140737488355328):aU AP.A 198 [v] h=some (FJ l,h):=by
 have xf:Ext h h.eO:=fun i c q=>q
 have k1:=Kf h.eO v l (rd.mono fun i c q=>xf i c q) hl
 have r2:=(rd.mono fun i c q=>xf i c q:Rd h.eO v (ints l)).HB
 rw[rk]at r2
 have ln:=r2.len
 unfold FJ
 unfold Ei at k1
 cases ha:l.all Bp with
 | false =>
   rw[ha]at k1
   have k1':aU AP.A 152 [v] h.eO=some (.bW [.int .i64 0,.int .i64 1500],h.eO):=k1
   refine vP (fn:=AP.f198) (h2:=h.eO) (e:=[(2,.int .i64 0),(3,.int .i64 1600)]) rfl rfl rfl ?_ rfl rfl
   clear rd r2 k1
   by_cases c:l.length=8
   · have c':(l.length:Int)=8:=by omega
     simp (disch:=omega)only[go_sem,xF,AP.f198,k1',ln]
   · have c':¬(l.length:Int)=8:=by omega
     simp (disch:=omega)only[go_sem,xF,AP.f198,k1',ln]
 | true =>
   rw[ha]at k1
   have k1':aU AP.A 152 [v] h.eO=some (.bW [.int .i64 (xZ l),.int .i64 0],h.eO):=k1
   by_cases c:l.length=8
   · have c':(l.length:Int)=8:=by omega
     rw[dt c]
     refine vP (fn:=AP.f198) (h2:=h.eO) (e:=[(2,.int .i64 (xZ l)),(3,.int .i64 0)]) rfl rfl rfl ?_ rfl rfl
     clear rd r2 k1
     generalize xZ l=M at *
     simp (disch:=omega)only[go_sem,xF,AP.f198,k1',ln]
   · have c':¬(l.length:Int)=8:=by omega
     rw[df c]
     refine vP (fn:=AP.f198) (h2:=h.eO) (e:=[(2,.int .i64 0),(3,.int .i64 1600)]) rfl rfl rfl ?_ rfl rfl
     clear rd r2 k1
     generalize xZ l=M at *
     simp (disch:=omega)only[go_sem,xF,AP.f198,k1',ln]
def MU (b:L3):Be:=(b,xU b.2)
def Mq (l:List L3):AV:=CG 2 l.length (zH (l.map MU))
theorem K7 (l:List Be):(zH l).length=l.length* 2:=Hb Cs l
theorem Mr (g:H) {l:List L3} (hl:∀b∈l,b.2.length<1125899906842624):N4 g (Mq l) (l.map MU):=by
 refine⟨?_,fun x hx=> ?_⟩
 · unfold Mq
   have:=FD (n:=2) (k:=l.length) (h:=g) (cs:=zH (l.map MU)) (by rw[K7,aa0])
   rw[aa0];exact this
 · obtain⟨b,hb,rfl⟩:=aa6.1 hx
   exact⟨y8 g b.2,hl b hb⟩
instance:DecidableEq xP:=fun a b=>decidable_of_iff _ (BU a b)
theorem KE {v w : AV} {a b : List xN} (hab : a.length = b.length) (hl : a.length < 1125899906842624) (h : H) (ra : yM 9 h v a.length (xG a)) (rb : yM 9 h w b.length (xG b)) (ha : ∀ x ∈ a, yF h x ∧ x.2.sc = true) (hb : ∀ x ∈ b, yF h x ∧ x.2.sc = true) : ∀ (q r p p' : List xN), a = p ++ q → b = p' ++ r → p.length = p'.length →
 (∃e',Lp AP.A [0,1,5] AP.f207L0 [(0,v),(1,w),(5,.int .i64 p.length)] h=some (.exit 0,e',h)∧q.map (·.1)=r.map (·.1))∨
 (∃e',Lp AP.A [0,1,5] AP.f207L0 [(0,v),(1,w),(5,.int .i64 p.length)] h=some (.ret,e',h)∧look e' 4=.bool false∧q.map (·.1)≠r.map (·.1))
 | [], r, p, p', hp, hr, hpp => by
   rw[aa2]at hp;subst hp
   have h1:b.length=p'.length+r.length:=by rw[hr];simp
   have hr0:r=[]:=aa7 (by omega)
   have ln:=ra.len
   refine .inl ⟨[(0,v),(1,w),(5,.int .i64 a.length),(14,.bool false)],u6 ?_,by rw[hr0]⟩
   simp (disch:=omega)only[go_sem,xF,AP.f207L0,ln]
 | x :: q, [], p, p', hp, hr, hpp => by
   exfalso
   have h1:a.length=p.length+(q.length+1):=by rw[hp];simp
   have h2:b.length=p'.length:=by rw[hr];simp
   omega
 | x :: q, y :: r, p, p', hp, hr, hpp => by
   have h1:a.length=p.length+(q.length+1):=by rw[hp];simp
   have hx:a[p.length]?=some x:=by rw[hp];simp
   have hy:b[p.length]?=some y:=by rw[hr,hpp];simp
   have ln:=ra.len
   obtain⟨ad,a1,a2⟩:=ra.HY
   obtain⟨bd,b1,b2⟩:=rb.HY
   have a3:=a1 p.length ⟨by omega,by omega⟩
   have b3:=b1 p.length ⟨by omega,by omega⟩
   obtain⟨_,a4⟩:=a2 h (Ext.refl h) p.length x hx
   obtain⟨_,b4⟩:=b2 h (Ext.refl h) p.length y hy
   obtain⟨ox,sx⟩:=ha x (by rw[hp];simp)
   obtain⟨oy,sy⟩:=hb y (by rw[hr];simp)
   have k1:=Hu h x.1 y.1 x.2 y.2 sx sy ox oy
   have ih:=KE hab hl h ra rb ha hb q r (p++[x]) (p'++[y]) (by rw[hp];simp) (by rw[hr];simp) (by simp [hpp])
   have w1:((p++[x]).length:Int)=(p.length:Int)+1:=by simp
   rw[w1]at ih
   rw[aa5,aa5]
   cases hk:Al x.1 y.1 with
   | true =>
     rw[hk]at k1
     have e:=(BU _ _).1 hk
     have step:aO (aU AP.A) bH AP.f207L0 (ay [(0,v),(1,w),(5,.int .i64 p.length)] [0,1,5]) h=some (.normal,[(0,v),(1,w),(5,.int .i64 ((p.length:Int)+1))],h):=by
      clear ih ra rb a1 a2 b1 b2 ha hb ox oy hp hr e
      generalize xA x.1 x.2=E at *
      generalize xA y.1 y.2=F at *
      simp (disch:=omega)only[go_sem,xF,AP.f207L0,ln,a3,a4,b3,b4,k1]
     rcases ih with ⟨e',r1,r2⟩|⟨e',r1,r2,r3⟩
     · exact .inl ⟨e',u9 step r1,by rw[e,r2]⟩
     · exact .inr ⟨e',u9 step r1,r2,fun q=>r3 (List.cons.inj q).2⟩
   | false =>
     rw[hk]at k1
     refine .inr ⟨[(4,.bool false)],vF ?_,rfl,fun q=>by
      have:=(BU x.1 y.1).2 (List.cons.inj q).1
      rw[hk]at this;cases this⟩
     clear ih ra rb a1 a2 b1 b2 ha hb ox oy hp hr
     generalize xA x.1 x.2=E at *
     generalize xA y.1 y.2=F at *
     simp (disch:=omega)only[go_sem,xF,AP.f207L0,ln,a3,a4,b3,b4,k1]
theorem FK (h:H) (v w:AV) (a b:List xN) (hl:a.length<1125899906842624) (ra:yM 9 h v a.length (xG a)) (rb:yM 9 h w b.length (xG b)) (ha:∀x∈a,yF h x∧x.2.sc=true) (hb:∀x∈b,yF h x∧x.2.sc=true):aU AP.A 207 [v,w] h=some (.bool (decide (a.map (·.1)=b.map (·.1))),h):=by
 have xf:Ext h h.eO:=fun i c q=>q
 have ra':=ra.mono fun i c q=>xf i c q
 have rb':=rb.mono fun i c q=>xf i c q
 have l1:=ra'.len
 have l2:=rb'.len
 by_cases c:a.length=b.length
 · have c':(a.length:Int)=b.length:=by omega
   rcases KE c hl h.eO ra' rb' (fun x hx=>⟨(ha x hx).1.mono xf,(ha x hx).2⟩) (fun x hx=>⟨(hb x hx).1.mono xf,(hb x hx).2⟩) a b [] [] rfl rfl rfl with ⟨e',r1,r2⟩|⟨e',r1,r2,r3⟩
   · have r1':Lp AP.A [0,1,5] AP.f207L0 [(0,v),(1,w),(5,.int .i64 0)] h.eO=some (.exit 0,e',h.eO):=r1
     rw[dt r2]
     refine vP (fn:=AP.f207) (h2:=h.eO) (e:=[(4,.bool true)]) rfl rfl rfl ?_ rfl rfl
     clear ra rb ra' rb' ha hb r1 r2
     simp (disch:=omega)only[go_sem,xF,AP.f207,l1,l2,uo,r1']
   · have r1':Lp AP.A [0,1,5] AP.f207L0 [(0,v),(1,w),(5,.int .i64 0)] h.eO=some (.ret,e',h.eO):=r1
     rw[df r3]
     refine vP (fn:=AP.f207) (h2:=h.eO) (e:=e') (vs:=[.bool false]) rfl rfl rfl ?_ (by simp only[AP.f207,c9,oL,r2];rfl) rfl
     clear ra rb ra' rb' ha hb r1 r3
     simp (disch:=omega)only[go_sem,xF,AP.f207,l1,l2,uo,r1']
 · have c':¬(a.length:Int)=b.length:=by omega
   have e:a.map (·.1)≠b.map (·.1):=fun q=>c (by have:=abt List.length q;simpa using this)
   rw[df e]
   refine vP (fn:=AP.f207) (h2:=h.eO) (e:=[(4,.bool false)]) rfl rfl rfl ?_ rfl rfl
   clear ra rb ra' rb' ha hb
   simp (disch:=omega)only[go_sem,xF,AP.f207,l1,l2]
theorem Pa (h:H) (v w:AV) (a b:List xN) (hvs:v.sc=true) (hws:w.sc=true) (hl:a.length<1125899906842624) (ra:yM 9 h v a.length (xG a)) (rb:yM 9 h w b.length (xG b)) (ha:∀x∈a,yF h x∧x.2.sc=true) (hb:∀x∈b,yF h x∧x.2.sc=true):aU AP.A 202 [.agg [v],.agg [w]] h=some (.bool (decide (a.map (·.1)=b.map (·.1))),h):=by
 obtain⟨h1,eh1⟩:∃g,g=h.eO.alloc [v]:=⟨_,rfl⟩
 obtain⟨h2,eh2⟩:∃g,g=h1.alloc [w]:=⟨_,rfl⟩
 have hx2:Ext h h2:=by rw[eh2,eh1];exact fun i c q=>(((Ext.refl h.eO).alloc _).alloc _) i c q
 have hn0:h.eO.next=h.next:=rfl
 have n1:h1.next=h.next+1:=by rw[eh1];simp
 have g1:h2.get h.next=some [v]:=by rw[eh2,xI (by omega),eh1];exact xE rfl
 have g2:h2.get (h.next+1)=some [w]:=by rw[eh2,xE (by omega)]
 have k1:=FK h2 v w a b hl (ra.mono fun i c q=>hx2 i c q) (rb.mono fun i c q=>hx2 i c q) (fun x hx=>⟨(ha x hx).1.mono hx2,(ha x hx).2⟩) (fun x hx=>⟨(hb x hx).1.mono hx2,(hb x hx).2⟩)
 generalize decide (a.map (·.1)=b.map (·.1))=B at *
 refine vP (fn:=AP.f202) (h2:=h2) (e:=[(4,.bool B)]) rfl rfl rfl ?_ rfl rfl
 clear ra rb ha hb hx2
 simp (disch:=omega)only[go_sem,xF,AP.f202,hvs,hws,hn0,←eh1,n1,←eh2,g1,g2,k1]
def DC (n:Nat):aI:=(.seq (.qz [⟨(some 11),.bin .lss (.t 10) (.t 9),none⟩] [0,1,2,9,10,11]) (.seq (.cond (.t 11) (.skip) (.exit 0) [0,1,2,9,10]) (.seq (.block 1 (.seq (.qz [⟨(some 12),.mv (.t 10),none⟩,⟨(some 7),.mv (.t 12),none⟩] [0,1,2,7,9,10]) (.seq (.jG [0,1,2,3,4,5,6,7,8,9,10,11,12,13,14,15,16,17,18,19,20,21,22,23,24] [⟨(some 13),.mv (.t 2),none⟩,⟨(some 14),.mv (.t 0),none⟩,⟨(some 15),.mv (.t 7),none⟩,⟨(some 16),.pG n (.t 14) (.t 15),none⟩,⟨(some 17),.call (.t 13) [(.t 16)],none⟩,⟨(some 18),.call (.c (.fn 121 [] [])) [(.t 17)],none⟩,⟨(some 19),.not (.t 18),none⟩,⟨(some 20),.mv (.t 19),none⟩,⟨(some 21),.mv (.t 7),(some (20,false))⟩,⟨(some 22),.bin .gtr (.t 21) (.c (.int .i64 0)),(some (20,false))⟩,⟨(some 23),.mv (.t 22),(some (20,false))⟩,⟨(some 24),.mv (.t 2),(some (23,true))⟩,⟨(some 25),.mv (.t 0),(some (23,true))⟩,⟨(some 26),.mv (.t 7),(some (23,true))⟩,⟨(some 27),.bin .sub (.t 26) (.c (.int .i64 1)),(some (23,true))⟩,⟨(some 28),.pG n (.t 25) (.t 27),(some (23,true))⟩,⟨(some 29),.call (.t 24) [(.t 28)],(some (23,true))⟩,⟨(some 30),.mv (.t 2),(some (23,true))⟩,⟨(some 31),.mv (.t 0),(some (23,true))⟩,⟨(some 32),.mv (.t 7),(some (23,true))⟩,⟨(some 33),.pG n (.t 31) (.t 32),(some (23,true))⟩,⟨(some 34),.call (.t 30) [(.t 33)],(some (23,true))⟩,⟨(some 35),.bin .geq (.t 29) (.t 34),(some (23,true))⟩,⟨(some 36),.pick (.t 23) (.t 35) (.c (.bool false)),(some (20,false))⟩,⟨(some 37),.pick (.t 20) (.c (.bool true)) (.t 36),none⟩] [] [0,1,2,9,10,37]) (.cond (.t 37) (.seq (.qz [⟨(some 6),.mv (.c (.bool false)),none⟩] [6]) (.ret)) (.skip) [0,1,2,9,10]))) [0,1,2,9,10]) (.qz [⟨(some 38),.bin .add (.t 10) (.c (.int .i64 1)),none⟩,⟨(some 10),.mv (.t 38),none⟩] [0,1,2,9,10]))))
def Hg (n:Nat):aI:=(.seq (.qz [⟨(some 9),.bin .lss (.t 8) (.t 7),none⟩] [0,1,7,8,9]) (.seq (.cond (.t 9) (.skip) (.exit 0) [0,1,7,8]) (.seq (.block 1 (.seq (.qz [⟨(some 10),.mv (.t 8),none⟩,⟨(some 5),.mv (.t 10),none⟩] [0,1,5,7,8]) (.seq (.qz [⟨(some 11),.mv (.t 1),none⟩,⟨(some 12),.mv (.t 0),none⟩,⟨(some 13),.mv (.t 5),none⟩,⟨(some 14),.pG n (.t 12) (.t 13),none⟩,⟨(some 15),.load true n (.t 14),none⟩,⟨(some 16),.call (.t 11) [(.t 15)],none⟩] [0,1,5,7,8,16]) (.cond (.t 16) (.seq (.qz [⟨(some 17),.mv (.t 5),none⟩,⟨(some 4),.mv (.t 17),none⟩] [4]) (.ret)) (.skip) [0,1,7,8]))) [0,1,7,8]) (.qz [⟨(some 18),.bin .add (.t 8) (.c (.int .i64 1)),none⟩,⟨(some 8),.mv (.t 18),none⟩] [0,1,7,8]))))
def Fh (p:Option ByteArray) (s:ByteArray):Bool:=match p with|none=>true|some q=>Op.bytesLess q.toList s.toList
theorem Kx (p:Option ByteArray) (s:ByteArray) (r:List ByteArray):yW p (s::r)=((yI s&&Fh p s)&&yW (some s) r):=by cases p<;>rfl
theorem GI {v : AV} {k sz : Nat} {least : AV} {ns : List ByteArray} (hn : ns.length < 1125899906842624) (hs : ∀ s ∈ ns, s.size < 1125899906842624) (h : H) (ad : Int → AV) (ha : ∀ i : Int, 0 ≤ i ∧ i < ns.length → gZ sz v (.int .i64 i) = some (ad i))
 (hk:∀(i:Nat) (s:ByteArray),ns[i]?=some s→aU AP.A k [ad i] h=some (.str s,h)):∀(q p:List ByteArray),ns=p++q→
 (∃e',Lp AP.A [0,1,2,9,10] (DC sz) [(0,v),(1,least),(2,.fn k [] []),(9,.int .i64 ns.length),(10,.int .i64 p.length)] h=some (.exit 0,e',h)∧look e' 0=v∧look e' 1=least∧yW p.getLast? q=true)∨
 (∃e',Lp AP.A [0,1,2,9,10] (DC sz) [(0,v),(1,least),(2,.fn k [] []),(9,.int .i64 ns.length),(10,.int .i64 p.length)] h=some (.ret,e',h)∧look e' 6=.bool false∧yW p.getLast? q=false)
 | [], p, hp => by
   rw[aa2]at hp;subst hp
   refine .inl ⟨[(0,v),(1,least),(2,.fn k [] []),(9,.int .i64 ns.length),(10,.int .i64 ns.length),(11,.bool false)],u6 ?_,rfl,rfl,rfl⟩
   simp (disch:=omega)only[go_sem,xF,DC]
 | s :: q, p, hp => by
   have hlen:ns.length=p.length+(q.length+1):=by rw[hp];simp
   have hx:ns[p.length]?=some s:=by rw[hp];simp
   have b1:=ha p.length ⟨by omega,by omega⟩
   have b2:=hk p.length s hx
   have k1:=M8 h s (hs s (by rw[hp];simp))
   have ih:=GI (least:=least) hn hs h ad ha hk q (p++[s]) (by rw[hp];simp)
   have w1:(((p++[s]).length:Nat):Int)=(p.length:Int)+1:=by simp
   rw[w1,List.getLast?_concat]at ih
   rw[Kx]
   have step:aO (aU AP.A) bH (DC sz) (ay [(0,v),(1,least),(2,.fn k [] []),(9,.int .i64 ns.length),(10,.int .i64 p.length)] [0,1,2,9,10]) h=if(yI s&&Fh p.getLast? s)=true then some (.normal,[(0,v),(1,least),(2,.fn k [] []),(9,.int .i64 ns.length),(10,.int .i64 ((p.length:Int)+1))],h)else some (.ret,[(6,.bool false)],h):=by
    cases hl:p.getLast? with
    | none =>
      have hp1:p.length=0:=by rw[List.getLast?_eq_none_iff.1 hl];rfl
      clear ih w1 hp hx
      rw[show Fh none s=true from rfl]
      generalize yI s=B1 at *
      cases B1<;>simp only[aa4,abm,aa3,if_true,wR,xp]<;>simp (disch:=omega)only[go_sem,xF,DC,b1,b2,k1,po]
    | some y =>
      obtain⟨p',rfl⟩:∃p',p=p'++[y]:=List.getLast?_eq_some_iff.1 hl
      have hpl:(p'++[y]).length=p'.length+1:=by simp
      have hy:ns[p'.length]?=some y:=by rw[hp];simp
      have bj:=ha p'.length ⟨by omega,by omega⟩
      have kj:=hk p'.length y hy
      have cmp:bC .geq (.str y) (.str s)=some (.bool (!(Op.bytesLess y.toList s.toList))):=rfl
      have n2:(((p'++[y]).length:Nat):Int)-1=(p'.length:Int):=by rw[hpl];omega
      clear ih w1 hp hx hy
      rw[show Fh (some y) s=Op.bytesLess y.toList s.toList from rfl]
      generalize Op.bytesLess y.toList s.toList=B2 at *
      generalize yI s=B1 at *
      generalize (p'++[y]).length=pl at *
      cases B1<;>cases B2<;>simp only[aa4,abm,aa9,aa3,if_true,wR,xp]<;>simp (disch:=omega)only[go_sem,xF,DC,b1,b2,k1,bj,kj,cmp,n2,po]
   generalize (yI s&&Fh p.getLast? s)=ok at *
   cases ok with
   | true =>
     rw[if_pos rfl]at step
     rw[aa3]
     rcases ih with ⟨e',r1,r2,r3,r4⟩|⟨e',r1,r2,r3⟩
     · exact .inl ⟨e',u9 step r1,r2,r3,r4⟩
     · exact .inr ⟨e',u9 step r1,r2,r3⟩
   | false =>
     rw[if_neg (by decide)]at step
     rw[aa4]
     exact .inr ⟨_,vF step,rfl,rfl⟩
def FI (n:Nat):fY:={np:=3,res:=[.tmp 6],pure:=true,body:=(.seq (.qz [⟨(some 6),.mv (.c (.bool false)),none⟩] [0,1,2]) (.seq (.seq (.qz [⟨(some 8),.mv (.t 0),none⟩,⟨(some 9),.len false (.t 8),none⟩,⟨(some 10),.mv (.c (.int .i64 0)),none⟩] [0,1,2,9,10]) (.block 0 (.loop [0,1,2,9,10] (DC n)) [0,1])) (.seq (.qz [⟨(some 39),.mv (.t 0),none⟩,⟨(some 40),.len false (.t 39),none⟩,⟨(some 41),.mv (.t 1),none⟩,⟨(some 42),.bin .geq (.t 40) (.t 41),none⟩,⟨(some 43),.mv (.t 42),none⟩,⟨(some 44),.mv (.t 0),(some (43,true))⟩,⟨(some 45),.len false (.t 44),(some (43,true))⟩,⟨(some 46),.bin .leq (.t 45) (.c (.int .i64 6)),(some (43,true))⟩,⟨(some 47),.pick (.t 43) (.t 46) (.c (.bool false)),none⟩,⟨(some 6),.mv (.t 47),none⟩] [6]) (.ret))))}
theorem Ht {f sz k:Nat} (hf:AP.A f=some (FI sz)) {v:AV} {least:Int} {ns:List ByteArray} (hn:ns.length<1125899906842624) (hs:∀s∈ns,s.size<1125899906842624) (h:H) (ln:jQ false v=some (.int .i64 ns.length)) (ad:Int→AV) (ha:∀i:Int,0≤i∧i<ns.length→gZ sz v (.int .i64 i)=some (ad i))
 (hk:∀(i:Nat) (s:ByteArray),ns[i]?=some s→aU AP.A k [ad i] h.eO=some (.str s,h.eO)):aU AP.A f [v,.int .i64 least,.fn k [] []] h=some (.bool (yW none ns&&(decide (least≤ns.length)&&decide (ns.length≤6))),h):=by
 rcases GI (least:=.int .i64 least) hn hs h.eO ad ha hk ns [] rfl with ⟨e',r1,r2,r3,r4⟩|⟨e',r1,r2,r3⟩
 · have r1':Lp AP.A [0,1,2,9,10] (DC sz) [(0,v),(1,.int .i64 least),(2,.fn k [] []),(9,.int .i64 ns.length),(10,.int .i64 0)] h.eO=some (.exit 0,e',h.eO):=r1
   have r4':yW none ns=true:=r4
   rw[r4',aa3]
   refine vP (fn:=FI sz) (h2:=h.eO) (e:=[(6,.bool (decide (least≤ns.length)&&decide (ns.length≤6)))]) hf rfl rfl ?_ rfl rfl
   clear ha hk r1 r4 r4'
   by_cases c1:least≤(ns.length:Int)
   · by_cases c2:ns.length≤6<;>simp (disch:=omega)only[go_sem,xF,FI,ln,uo,r1',r2,r3]
   · simp (disch:=omega)only[go_sem,xF,FI,ln,uo,r1',r2,r3]
 · have r1':Lp AP.A [0,1,2,9,10] (DC sz) [(0,v),(1,.int .i64 least),(2,.fn k [] []),(9,.int .i64 ns.length),(10,.int .i64 0)] h.eO=some (.ret,e',h.eO):=r1
   have r4':yW none ns=false:=r3
   rw[r4',aa4]
   refine vP (fn:=FI sz) (h2:=h.eO) (e:=e') (vs:=[.bool false]) hf rfl rfl ?_ (by simp only[FI,c9,oL,r2];rfl) rfl
   clear ha hk r1 r3 r4'
   simp (disch:=omega)only[go_sem,xF,FI,ln,uo,r1']
theorem Ia {v : AV} {k sz n : Nat} {B : Nat → Bool} (hn : n < 1125899906842624) (h : H) (ad : Int → AV) (el : Nat → AV) (ha : ∀ i : Int, 0 ≤ i ∧ i < n → gZ sz v (.int .i64 i) = some (ad i)) (hl : ∀ i : Nat, i < n → cf true sz (ad i) h = some (el i))
 (hk:∀i,i<n→aU AP.A k [el i] h=some (.bool (B i),h)):∀(m i:Nat),i+m=n→
 (∃e',Lp AP.A [0,1,7,8] (Hg sz) [(0,v),(1,.fn k [] []),(7,.int .i64 n),(8,.int .i64 i)] h=some (.exit 0,e',h)∧∀j,i≤j→j<n→B j=false)∨
 (∃e',Lp AP.A [0,1,7,8] (Hg sz) [(0,v),(1,.fn k [] []),(7,.int .i64 n),(8,.int .i64 i)] h=some (.ret,e',h)∧(∃j:Nat,look e' 4=.int .i64 j∧j<n∧B j=true))
 | 0, i, hi => by
   obtain rfl:i=n:=by omega
   refine .inl ⟨[(0,v),(1,.fn k [] []),(7,.int .i64 i),(8,.int .i64 i),(9,.bool false)],u6 ?_,fun j h1 h2=>by omega⟩
   clear ha hl hk
   simp (disch:=omega)only[go_sem,xF,Hg]
 | m + 1, i, hi => by
   have b1:=ha i ⟨by omega,by omega⟩
   have b2:=hl i (by omega)
   have k1:=hk i (by omega)
   have ih:=Ia hn h ad el ha hl hk m (i+1) (by omega)
   have w1:((i+1:Nat):Int)=(i:Int)+1:=by omega
   rw[w1]at ih
   cases c:B i with
   | true =>
     rw[c]at k1
     refine .inr ⟨[(4,.int .i64 i)],vF ?_,i,rfl,by omega,c⟩
     clear ha hl hk ih
     simp (disch:=omega)only[go_sem,xF,Hg,b1,b2,k1,po]
   | false =>
     rw[c]at k1
     have step:aO (aU AP.A) bH (Hg sz) (ay [(0,v),(1,.fn k [] []),(7,.int .i64 n),(8,.int .i64 i)] [0,1,7,8]) h=some (.normal,[(0,v),(1,.fn k [] []),(7,.int .i64 n),(8,.int .i64 ((i:Int)+1))],h):=by
      clear ha hl hk ih
      simp (disch:=omega)only[go_sem,xF,Hg,b1,b2,k1,po]
     rcases ih with ⟨e',r1,r2⟩|⟨e',r1,r2⟩
     · exact .inl ⟨e',u9 step r1,fun j h1 h2=>by
        by_cases q:j=i
        · rw[q];exact c
        · exact r2 j (by omega) h2⟩
     · exact .inr ⟨e',u9 step r1,r2⟩
def Lt (n:Nat):fY:={np:=2,res:=[.tmp 4],pure:=true,body:=(.seq (.qz [⟨(some 4),.mv (.c (.int .i64 0)),none⟩] [0,1]) (.seq (.seq (.qz [⟨(some 6),.mv (.t 0),none⟩,⟨(some 7),.len false (.t 6),none⟩,⟨(some 8),.mv (.c (.int .i64 0)),none⟩] [0,1,7,8]) (.block 0 (.loop [0,1,7,8] (Hg n)) [])) (.seq (.qz [⟨(some 4),.mv (.c (.int .i64 (-1))),none⟩] [4]) (.ret))))}
def YR (g:Nat):fY:={np:=2,res:=[.tmp 4],pure:=true,body:=(.seq (.qz [⟨(some 4),.mv (.c (.bool false)),none⟩] [0,1]) (.seq (.qz [⟨(some 5),.mv (.t 0),none⟩,⟨(some 6),.mv (.t 1),none⟩,⟨(some 7),.call (.c (.fn g [] [])) [(.t 5),(.t 6)],none⟩,⟨(some 8),.bin .geq (.t 7) (.c (.int .i64 0)),none⟩,⟨(some 4),.mv (.t 8),none⟩] [4]) (.ret)))}
theorem JQ {f g sz k n:Nat} (hf:AP.A f=some (YR g)) (hg:AP.A g=some (Lt sz)) {v:AV} {B:Nat→Bool} (hn:n<1125899906842624) (h:H) (ln:jQ false v=some (.int .i64 n)) (ad:Int→AV) (el:Nat→AV) (ha:∀i:Int,0≤i∧i<n→gZ sz v (.int .i64 i)=some (ad i)) (hl:∀i:Nat,i<n→cf true sz (ad i) h=some (el i))
 (hk:∀(g:H),Ext h g→g.next=h.next→g.floor=g.next→∀i,i<n→aU AP.A k [el i] g=some (.bool (B i),g)):∃b,aU AP.A f [v,.fn k [] []] h=some (.bool b,h)∧(b=false↔∀j,j<n→B j=false):=by
 have k1:∃j:Int,aU AP.A g [v,.fn k [] []] h.eO=some (.int .i64 j,h.eO)∧(j<0↔∀j,j<n→B j=false):=by
  have hl':∀i:Nat,i<n→cf true sz (ad i) h.eO.eO=some (el i):=fun i hi=>by
   have:=hl i hi
   unfold cf at this ⊢
   cases hq:ad i<;>rw[hq]at this<;>first|exact this|cases this
  rcases Ia hn h.eO.eO ad el ha hl' (hk h.eO.eO (fun i c q=>q) rfl rfl) n 0 (by omega)with ⟨e',r1,r2⟩|⟨e',r1,j,r2,r3,r4⟩
  · have r1':Lp AP.A [0,1,7,8] (Hg sz) [(0,v),(1,.fn k [] []),(7,.int .i64 n),(8,.int .i64 0)] h.eO.eO=some (.exit 0,e',h.eO.eO):=r1
    refine⟨-1,vP (fn:=Lt sz) (h2:=h.eO.eO) (e:=[(4,.int .i64 (-1))]) hg rfl rfl ?_ rfl rfl,by simp only[Int.reduceNeg,Int.reduceLT,true_iff];exact fun j hj=>r2 j (by omega) hj⟩
    clear ha hl hl' hk r1 r2
    simp (disch:=omega)only[go_sem,xF,Lt,ln,uo,r1']
  · have r1':Lp AP.A [0,1,7,8] (Hg sz) [(0,v),(1,.fn k [] []),(7,.int .i64 n),(8,.int .i64 0)] h.eO.eO=some (.ret,e',h.eO.eO):=r1
    refine⟨j,vP (fn:=Lt sz) (h2:=h.eO.eO) (e:=e') (vs:=[.int .i64 j]) hg rfl rfl ?_ (by simp only[Lt,c9,oL,r2];rfl) rfl,⟨fun q=>by omega,fun q=>by rw[q j r3]at r4;cases r4⟩⟩
    clear ha hl hl' hk r1 r2
    simp (disch:=omega)only[go_sem,xF,Lt,ln,uo,r1']
 obtain⟨j,k1,k2⟩:=k1
 refine⟨decide (0≤j),vP (fn:=YR g) (h2:=h.eO) (e:=[(4,.bool (decide (0≤j)))]) hf rfl rfl ?_ rfl rfl,by rw[←k2,decide_eq_false_iff_not];omega⟩
 clear ha hl hk k2 ln
 by_cases c:0≤j<;>simp (disch:=omega)only[go_sem,xF,YR,k1]
def pk:List Nat→Nat
 |[]=>0
 |b::l=>b^^^(pk l* 2^8)
theorem OP (e : xP) : yi e = (yI e.name && (yy e && zm e) && (e.gone || (match Ao e.method e.packed e.size with | some t => decide ((zT t : Int) = e.Bd) | none => false))) := by
 unfold yi AA
 have hm:yK [e]=(yI e.name&&(yy e&&zm e)):=by simp [yK,yC,Dh]
 rw[hm]
 cases (yI e.name&&(yy e&&zm e))with
 |false=>rfl
 | true =>
   rw[if_neg (by decide)]
   cases e.gone with
   |true=>rfl
   | false =>
     rw[if_neg (by decide)]
     cases Ao e.method e.packed e.size with
     |none=>rfl
     | some t =>
       dsimp only
       by_cases c:(zT t:Int)=e.Bd
       · rw[if_pos c];simp [c]
       · rw[if_neg c];simp [c]
theorem CU:∀(l cs:List AV) (off:Nat),off+l.length≤cs.length→setFrom cs off l=cs.take off++(l++cs.drop (off+l.length))
 |[],cs,off,h=>by simp [setFrom]
 | v :: l, cs, off, h => by
   rw[aaV]at h
   rw[setFrom,CU l (cs.set off v) (off+1) (by rw[abz];omega)]
   rw[List.take_set,List.drop_set_of_lt (by omega),aaV,show off+1+l.length=off+(l.length+1)by omega]
   rw[List.take_succ_eq_append_getElem (by omega),List.set_append_right _ _ (by simp;omega)]
   simp [show min off cs.length=off by omega]
def Ay (l:List ByteArray):List AV:=l.map .str
theorem zE (l:List ByteArray):(Ay l).length=l.length:=by simp [Ay]
theorem Rd.EF {h:H} {v:AV} {l:List ByteArray} (r:Rd h v (Ay l)):∃ad:Int→AV,(∀i:Int,0≤i∧i<l.length→gZ 1 v (.int .i64 i)=some (ad i))∧(∀(i:Int) (g:H),0≤i∧i<l.length→kh g (ad i)=some (ad i,g))∧
 ∀g:H,Ext h g→∀(i:Nat) (s:ByteArray),l[i]?=some s→cf false 1 (ad i) g=some (.str s):=by
 have r2:=r.HB
 rw[zE]at r2
 obtain⟨ad,a1,_,a4,a3⟩:=r2.at_
 refine⟨fun i=>ad i 0,a1,fun i g hi=>a4 i 0 g hi,fun g hg i n hn=> ?_⟩
 have hi:i<l.length:=(wO.1 hn).1
 refine(a3 g hg).1 i 0 _ ⟨by omega,by omega⟩ ?_
 rw[yZ,abu,abl]
 simp [Ay,hn]
structure yT where
 m:BE
 vd:AV
 vb:AV
 vf:AV
 vn:AV
 ve:AV
 fs:List Be
 es:List xN
def xz (x:yT):List AV:=[.int .i64 x.m.kind,.int .i64 x.m.src,.int .i64 x.m.dst,.int .i64 x.m.root,x.vd,x.vb,x.vf,x.vn,x.ve]
structure B0 (h:H) (x:yT):Prop where
 rd:Rd h x.vd (ints x.m.y5)
 rb:Rd h x.vb (ints x.m.zA)
 rf:N4 h x.vf x.fs
 hf:x.fs.map (·.1)=x.m.xV
 rn:Rd h x.vn (Ay x.m.names)
 re:yM 9 h x.ve x.es.length (xG x.es)
 he:x.es.map (·.1)=x.m.yJ
 ve:∀y∈x.es,yF h y∧y.2.sc=true
 vf:∀y∈x.fs,y.2.sc=true
 sc:x.vd.sc=true∧x.vb.sc=true∧x.vf.sc=true∧x.vn.sc=true∧x.ve.sc=true
 zd:x.m.y5.length<140737488355328
 zb:x.m.zA.length<140737488355328
 zf:x.m.xV.length<140737488355328
 zn:x.m.names.length<140737488355328
 ze:x.m.yJ.length<140737488355328
 zs:(∀s∈x.m.names,s.size<1125899906842624)∧∀b∈x.m.xV,b.1.size<1125899906842624
theorem B0.mono {h g:H} {x:yT} (o:B0 h x) (e:Ext h g):B0 g x:=
 ⟨o.rd.mono fun i c q=>e i c q,o.rb.mono fun i c q=>e i c q,o.rf.mono e,o.hf,o.rn.mono fun i c q=>e i c q,o.re.mono fun i c q=>e i c q,o.he,fun y hy=>⟨(o.ve y hy).1.mono e,(o.ve y hy).2⟩,o.vf,o.sc,o.zd,o.zb,o.zf,o.zn,o.ze,o.zs⟩
def yc:yT:=⟨⟨0,0,0,0,[],[],[],[],[]⟩,.aS,.aS,.aS,.aS,.aS,[],[]⟩
theorem Aj {h:H} {x:yT} (o:B0 h x):AV.aE (xz x)=true:=by
 obtain⟨a,b,c,d,e⟩:=o.sc
 simp [xz,a,b,c,d,e]
theorem U2 {m:BE} (h:m.kind=0):A9 m=decide (((((m.y5.length:Int)+m.zA.length)+m.xV.length)+m.names.length)+m.yJ.length=0):=by
 rw[A9,h];generalize m.y5.length=a;generalize m.zA.length=b;generalize m.xV.length=c;generalize m.names.length=d;generalize m.yJ.length=e;rw[Bool.eq_iff_iff];simp;omega
theorem U3 {m:BE} (h:m.kind=1):A9 m=(decide (m.root=0)&&decide ((((0+(m.zA.length:Int))+m.xV.length)+m.names.length)+m.yJ.length=0)):=by
 rw[A9,h];generalize m.y5.length=a;generalize m.zA.length=b;generalize m.xV.length=c;generalize m.names.length=d;generalize m.yJ.length=e;rw[Bool.eq_iff_iff];simp;omega
theorem U4 {m:BE} (h:m.kind=2):A9 m=(decide (m.root=0)&&decide (((((m.y5.length:Int)+0)+0)+m.names.length)+m.yJ.length=0)):=by
 rw[A9,h];generalize m.y5.length=a;generalize m.zA.length=b;generalize m.xV.length=c;generalize m.names.length=d;generalize m.yJ.length=e;rw[Bool.eq_iff_iff];simp;omega
theorem lean_3 {m:BE} (h:m.kind=3):A9 m=(decide (m.root=0)&&decide (((((m.y5.length:Int)+m.zA.length)+m.xV.length)+0)+m.yJ.length=0)):=by
 rw[A9,h];generalize m.y5.length=a;generalize m.zA.length=b;generalize m.xV.length=c;generalize m.names.length=d;generalize m.yJ.length=e;rw[Bool.eq_iff_iff];simp;omega
theorem U5 {m:BE} (h:m.kind=4):A9 m=(decide (m.root=0)&&decide (((((m.y5.length:Int)+m.zA.length)+m.xV.length)+m.names.length)+0=0)):=by
 rw[A9,h];generalize m.y5.length=a;generalize m.zA.length=b;generalize m.xV.length=c;generalize m.names.length=d;generalize m.yJ.length=e;rw[Bool.eq_iff_iff];simp;omega
theorem IL : ∀ (l : List xP) (p : Option xP), (yC p l && l.all yi) = (yW (p.map (·.name)) (l.map (·.name)) && l.all yi)
 |[],_=>rfl
 | e :: l, p => by
   have ih:=IL l (some e)
   rw[aa5,Kx,yC,abE]
   cases hm:yi e with
   |false=>simp
   | true =>
     have hk:yy e=true∧zm e=true:=by
      rw[OP]at hm
      simp only[Ej,wT]at hm
      exact hm.1.2
     have ek:zt p e=(yI e.name&&Fh (p.map (·.name)) e.name):=by
      unfold zt
      rw[hk.1,hk.2]
      cases p<;>simp [Fh]
     rw[ek,aa3,Bool.and_assoc,ih];simp only[Bool.and_assoc];rfl
theorem PR {h:H} {v:AV} {l:List Be} (r:N4 h v l):∃ad:Int→AV,(∀i:Int,0≤i∧i<l.length→gZ 2 v (.int .i64 i)=some (ad i))∧(∀(i:Nat) (x:Be),l[i]?=some x→cf true 2 (ad i) h=some (.agg (Oe x))∧aU AP.A 264 [ad i] h=some (.str x.1.1,h)):=by
 obtain⟨ad,a1,a2,a4,a3⟩:=r.rd.at_
 refine⟨fun i=>ad i 0,a1,fun i x hx=> ?_⟩
 have hi:i<l.length:=(wO.1 hx).1
 have hI:(0:Int)≤(i:Int)∧(i:Int)<l.length:=⟨by omega,by omega⟩
 have f:=a2 i 0 0 hI
 rw[abl]at f
 have n:=a4 i 0 h hI
 have l0:=(a3 h fun _ _ q=>q).1 i 0 (.str x.1.1) hI (by
  rw[yZ,show zH l=l.flatMap Oe from rfl,Bm Cs hx (by omega)];rfl)
 refine⟨?_,vv (fn:=AP.f264) (h2:=h) (e:=[(2,.str x.1.1)]) (vs:=[.str x.1.1]) rfl rfl rfl ?_ rfl⟩
 · rw[(a3 h fun _ _ q=>q).2 _ hI,yZ,show zH l=l.flatMap Oe from rfl,Hc Cs hx]
 · clear a1 a2 a3 a4
   simp (disch:=omega)only[go_sem,xF,AP.f264,n,f,l0]
theorem Yn {h:H} {v:AV} {l:List ByteArray} (r:Rd h v (Ay l)):∃ad:Int→AV,(∀i:Int,0≤i∧i<l.length→gZ 1 v (.int .i64 i)=some (ad i))∧∀(i:Nat) (s:ByteArray),l[i]?=some s→aU AP.A 267 [ad i] h=some (.str s,h):=by
 obtain⟨ad,a1,a4,a3⟩:=r.EF
 refine⟨ad,a1,fun i s hs=> ?_⟩
 have hi:i<l.length:=(wO.1 hs).1
 have n:=a4 i h ⟨by omega,by omega⟩
 have l0:=a3 h (Ext.refl h) i s hs
 refine vv (fn:=AP.f267) (h2:=h) (e:=[(2,.str s)]) (vs:=[.str s]) rfl rfl rfl ?_ rfl
 clear a1 a3 a4
 simp (disch:=omega)only[go_sem,xF,AP.f267,n,l0]
theorem PS {h:H} {v:AV} {l:List xN} (r:yM 9 h v l.length (xG l)):∃ad:Int→AV,(∀i:Int,0≤i∧i<l.length→gZ 9 v (.int .i64 i)=some (ad i))∧(∀(i:Nat) (x:xN),l[i]?=some x→cf true 9 (ad i) h=some (.agg (xA x.1 x.2))∧aU AP.A 270 [ad i] h=some (.str x.1.name,h)):=by
 obtain⟨ad,a1,a2⟩:=r.HY
 refine⟨fun i=>ad i 0,a1,fun i x hx=> ?_⟩
 obtain⟨pe,ld⟩:=a2 h (Ext.refl h) i x hx
 obtain⟨q,f1,f2⟩:=pe.vm
 have n:=pe.nil
 have l0:=f2 h (Ext.refl h) 0 _ rfl
 refine⟨ld,vv (fn:=AP.f270) (h2:=h) (e:=[(2,.str x.1.name)]) (vs:=[.str x.1.name]) rfl rfl rfl ?_ rfl⟩
 clear a1 a2 pe f2
 simp (disch:=omega)only[go_sem,xF,AP.f270,n,f1,l0]
theorem O6 (h:H) {x:yT} (o:B0 h x):aU AP.A 263 [x.vf,.int .i64 0,.fn 264 [] []] h=some (.bool (yW none (x.m.xV.map (·.1))&&decide (x.m.xV.length≤6)),h):=by
 obtain⟨ad,a1,a2⟩:=PR (o.mono (g:=h.eO) fun i c q=>q).rf
 have e:(x.m.xV.map (·.1)).length=x.fs.length:=by rw[←o.hf];simp
 have z:=o.zf
 have e2:x.m.xV.length=x.fs.length:=by rw[←o.hf];simp
 have:=Ht (f:=263) (sz:=2) (k:=264) rfl (v:=x.vf) (least:=0) (ns:=x.m.xV.map (·.1)) (by omega) (fun s hs=>by obtain⟨b,hb,rfl⟩:=aa6.1 hs;exact o.zs.2 b hb) h (by rw[e];exact o.rf.rd.len) ad (fun i hi=>a1 i (by rw[e]at hi;exact hi)) (fun i s hs=>by
  rw[←o.hf,abw,xa]at hs
  cases hx:x.fs[i]? with
  |none=>rw[hx]at hs;cases hs
  |some y=>rw[hx]at hs;obtain rfl:=wH hs;exact(a2 i y hx).2)
 rw[this,e,e2,dt (by omega),aa3]
theorem O9 (h:H) {x:yT} (o:B0 h x):aU AP.A 266 [x.vn,.int .i64 1,.fn 267 [] []] h=some (.bool (yW none x.m.names&&(decide (1≤x.m.names.length)&&decide (x.m.names.length≤6))),h):=by
 obtain⟨ad,a1,a2⟩:=Yn (o.mono (g:=h.eO) fun i c q=>q).rn
 have z:=o.zn
 have ln:=o.rn.HB.len
 rw[zE]at ln
 have:=Ht (f:=266) (sz:=1) (k:=267) rfl (v:=x.vn) (least:=1) (ns:=x.m.names) (by omega) o.zs.1 h ln ad a1 a2
 rw[this]
 congr 5
 rw[decide_eq_decide];omega
theorem O8 (h:H) {x:yT} (o:B0 h x):aU AP.A 269 [x.ve,.int .i64 1,.fn 270 [] []] h=some (.bool (yW none (x.m.yJ.map (·.name))&&(decide (1≤x.m.yJ.length)&&decide (x.m.yJ.length≤6))),h):=by
 obtain⟨ad,a1,a2⟩:=PS (o.mono (g:=h.eO) fun i c q=>q).re
 have e2:x.m.yJ.length=x.es.length:=by rw[←o.he];simp
 have e:(x.m.yJ.map (·.name)).length=x.es.length:=by simp [e2]
 have z:=o.ze
 have:=Ht (f:=269) (sz:=9) (k:=270) rfl (v:=x.ve) (least:=1) (ns:=x.m.yJ.map (·.name)) (by omega) (fun s hs=>by
  obtain⟨b,hb,rfl⟩:=aa6.1 hs
  rw[←o.he]at hb
  obtain⟨y,hy,rfl⟩:=aa6.1 hb
  exact(o.ve y hy).1.nl) h (by rw[e];exact o.re.len) ad (fun i hi=>a1 i (by rw[e]at hi;exact hi)) (fun i s hs=>by
  rw[←o.he,abw,xa]at hs
  cases hx:x.es[i]? with
  |none=>rw[hx]at hs;cases hs
  |some y=>rw[hx]at hs;obtain rfl:=wH hs;exact(a2 i y hx).2)
 rw[this,e,e2]
 congr 5
 rw[decide_eq_decide];omega
theorem Ml (h:H) (s:ByteArray) (v:AV) (l:List Int) (hv:v.sc=true) (rd:Rd h v (ints l)) (hl:l.length<1125899906842624):aU AP.A 262 [.agg [.str s,v]] h=some (.bool (!yS l),h):=by
 obtain⟨h1,eh1⟩:∃g,g=h.eO.alloc [.str s,v]:=⟨_,rfl⟩
 have x1:Ext h h1:=fun i c q=>by rw[eh1];exact((Ext.refl h.eO).alloc _) i c q
 have g1:h1.get h.next=some [.str s,v]:=by rw[eh1];exact xE rfl
 have n0:h.eO.next=h.next:=rfl
 have k1:=KS h1 v l (rd.mono fun i c q=>x1 i c q) hl
 refine vP (fn:=AP.f262) (h2:=h1) (e:=[(2,.bool (!yS l))]) rfl rfl rfl ?_ rfl rfl
 clear rd x1
 simp (disch:=omega)only[go_sem,xF,AP.f262,hv,n0,←eh1,g1,k1]
theorem Oi (h : H) {x : yT} (o : B0 h x) : aU AP.A 265 [x.vf, .fn 262 [] []] h = some (.bool (!x.m.xV.all fun b => yS b.2), h) := by
 obtain⟨ad,a1,a2⟩:=PR o.rf
 have z:=o.zf
 have e2:x.m.xV.length=x.fs.length:=by rw[←o.hf];simp
 obtain⟨b,k1,k2⟩:=JQ (f:=265) (g:=299) (sz:=2) (k:=262) (n:=x.fs.length) (B:=fun i=>match x.fs[i]? with|some y=> !yS y.1.2|none=>false) rfl rfl (v:=x.vf) (by omega) h o.rf.rd.len ad (fun i=>match x.fs[i]? with|some y=>.agg (Oe y)|none=>.bot) a1 (fun i hi=>by
  obtain⟨y,hy⟩:∃y,x.fs[i]?=some y:=⟨x.fs[i],by simp⟩
  rw[hy];exact(a2 i y hy).1) (fun g hg _ _ i hi=>by
  obtain⟨y,hy⟩:∃y,x.fs[i]?=some y:=⟨x.fs[i],by simp⟩
  have hm:=wX hy
  rw[hy]
  obtain⟨r1,r2⟩:=o.rf.vec y hm
  exact Ml g y.1.1 y.2 y.1.2 (o.vf y hm) (r1.mono fun i c q=>hg i c q) r2)
 rw[k1]
 congr 3
 cases hb:b with
 | false =>
   have:=k2.1 hb
   have q:(x.m.xV.all fun b=>yS b.2)=true:=by
    rw[aba]
    intro c hc
    rw[←o.hf]at hc
    obtain⟨y,hy,rfl⟩:=aa6.1 hc
    obtain⟨i,hi,e⟩:=List.mem_iff_getElem.1 hy
    have:=this i hi
    rw[abe hi,e]at this
    simpa using this
   rw[q];rfl
 | true =>
   cases q:(x.m.xV.all fun b=>yS b.2)with
   |false=>rfl
   | true =>
     have:b=false:=k2.2 fun j hj=>by
      rw[abe hj]
      rw[aba]at q
      have:=q (x.fs[j]).1 (by rw[←o.hf];exact aa6.2 ⟨_,List.getElem_mem hj,rfl⟩)
      simpa using this
     rw[this]at hb;cases hb
theorem Mn (h:H) (hf:h.floor≤h.next) (e:xP) (v:AV) (hv:v.sc=true) (ok:yF h (e,v)):aU AP.A 268 [.agg (xA e v)] h=some (.bool (!yi e),h):=by
 obtain⟨E,hE⟩:∃E,E=xA e v:=⟨_,rfl⟩
 have lE:E.length=9:=by rw[hE];rfl
 have cE:AV.aE E=true:=by rw[hE];exact yH hv
 have rE:iO true 9 E 0=some (.agg E):=by rw[hE];rfl
 obtain⟨h1,eh1⟩:∃g,g=h.eO.alloc E:=⟨_,rfl⟩
 have x1:Ext h h1:=fun i c q=>by rw[eh1];exact((Ext.refl h.eO).alloc _) i c q
 have g1:h1.get h.next=some E:=by rw[eh1];exact xE rfl
 have n0:h.eO.next=h.next:=rfl
 have k1:=Jj h1 (by rw[eh1];simp) e v hv (ok.mono x1)
 rw[←hE]at k1 ⊢
 refine vP (fn:=AP.f268) (h2:=h1) (e:=[(2,.bool (!yi e))]) rfl rfl rfl ?_ rfl rfl
 clear ok x1 hE
 simp (disch:=omega)only[go_sem,xF,AP.f268,lE,cE,n0,←eh1,g1,rE,k1]
theorem Oj (h : H) {x : yT} (o : B0 h x) : aU AP.A 187 [x.ve, .fn 268 [] []] h = some (.bool (!x.m.yJ.all yi), h) := by
 obtain⟨ad,a1,a2⟩:=PS o.re
 have z:=o.ze
 have e2:x.m.yJ.length=x.es.length:=by rw[←o.he];simp
 obtain⟨b,k1,k2⟩:=JQ (f:=187) (g:=191) (sz:=9) (k:=268) (n:=x.es.length) (B:=fun i=>match x.es[i]? with|some y=> !yi y.1|none=>false) rfl rfl (v:=x.ve) (by omega) h o.re.len ad (fun i=>match x.es[i]? with|some y=>.agg (xA y.1 y.2)|none=>.bot) a1 (fun i hi=>by
  obtain⟨y,hy⟩:∃y,x.es[i]?=some y:=⟨x.es[i],by simp⟩
  rw[hy];exact(a2 i y hy).1) (fun g hg _ hf i hi=>by
  obtain⟨y,hy⟩:∃y,x.es[i]?=some y:=⟨x.es[i],by simp⟩
  have hm:=wX hy
  rw[hy]
  exact Mn g (by omega) y.1 y.2 (o.ve y hm).2 ((o.ve y hm).1.mono hg))
 rw[k1]
 congr 3
 cases hb:b with
 | false =>
   have:=k2.1 hb
   have q:(x.m.yJ.all yi)=true:=by
    rw[aba]
    intro c hc
    rw[←o.he]at hc
    obtain⟨y,hy,rfl⟩:=aa6.1 hc
    obtain⟨i,hi,e⟩:=List.mem_iff_getElem.1 hy
    have:=this i hi
    rw[abe hi,e]at this
    simpa using this
   rw[q];rfl
 | true =>
   cases q:(x.m.yJ.all yi)with
   |false=>rfl
   | true =>
     have:b=false:=k2.2 fun j hj=>by
      rw[abe hj]
      rw[aba]at q
      have:=q (x.es[j]).1 (by rw[←o.he];exact aa6.2 ⟨_,List.getElem_mem hj,rfl⟩)
      simpa using this
     rw[this]at hb;cases hb
theorem Jg {A : bp} {f g : Nat} {fn gn : fY} (ef : A f = some fn) (eg : A g = some gn) (hp : fn.pure = true) (gp : gn.pure = false) (hb : fn.body = gn.body) (hn : fn.np = gn.np) (hr : fn.res = gn.res) {args : List AV} {h h' : H} {v v' : AV}
 (k:aU A g args h.eO=some (v,h')) (s:snap h'.get h.next 16 true v=some v'):aU A f args h=some (v',h):=by
 obtain⟨n,hn'⟩:=fI k
 cases n with
 |zero=>cases hn'
 | succ d =>
   refine nX (n:=d+1) ?_
   simp only[aW,ef,eg,wP,fW,hn,hb,hp,gp,if_true]at hn' ⊢
   split at hn'
   · rename_i c
     rw[if_pos c]
     have e0:(if(false:Bool)=true then h.eO.eO else h.eO)=h.eO:=rfl
     rw[e0]at hn'
     cases hx:aO (aW A d) (aM d) gn.body (params 0 args) h.eO with
     |none=>rw[hx]at hn';cases hn'
     | some r =>
       rw[hx]at hn'
       rw[wP]at hn' ⊢
       obtain⟨x,e,hh⟩:=r
       unfold fin at hn' ⊢
       cases x with
       |exit m=>cases hn'
       | normal =>
         simp only[hr,hp,gp,if_true]at hn' ⊢
         cases hq:c9 e hh gn.res with
         |none=>rw[hq]at hn';cases hn'
         | some vs =>
           rw[hq,wP]at hn'
           have:=wH hn'
           obtain⟨rfl,rfl⟩:=wJ this
           rw[wP]
           unfold iQ
           rw[s];rfl
       | ret =>
         simp only[hr,hp,gp,if_true]at hn' ⊢
         cases hq:c9 e hh gn.res with
         |none=>rw[hq]at hn';cases hn'
         | some vs =>
           rw[hq,wP]at hn'
           have:=wH hn'
           obtain⟨rfl,rfl⟩:=wJ this
           rw[wP]
           unfold iQ
           rw[s];rfl
   · cases hn'
theorem De (h:H) (e:xP) (v:AV) (hv:v.sc=true) (ok:yF h (e,v)) (h0:0<e.vec.length) (hb:e.vec.length<20000000000000):aU AP.A 165 [.agg (xA e v)] h=some (.agg (xA e (xU e.vec)),h):=by
 obtain⟨h',v',k,q1,q2,q3,q4,q5,q6⟩:=Ok h.eO (wU _) e v hv (ok.mono fun i c q=>q) hb
 rw[if_neg (by intro c;rw[c]at h0;simp at h0)]at q1
 subst q1
 refine Jg (fn:=AP.f165) (gn:=AP.f92) rfl rfl rfl rfl rfl rfl rfl k ?_
 have g:=q6 h0
 have s1:snap h'.get h.next 14 true (.aH (h.next+3) 0 e.vec.length 1)=some (xU e.vec):=by
  have o:x8 1 ⟨h'.next,h.next,h'.cP,h'.len⟩ (.aH (h.next+3) 0 e.vec.length 1) e.vec.length (ints e.vec):=⟨by rw[rk];omega,.inr ⟨h.next+3,rfl,g,by show h.next≤_;omega,h0⟩⟩
  have:=o.Aa (fl:=h.next) (m:=12) (t:=true) (wU _)
  have e:CG 1 e.vec.length (ints e.vec)=xU e.vec:=by unfold CG xU;rw[if_neg (by omega)]
  rw[e]at this;exact this
 have e1:h.eO.next=h.next:=rfl
 rw[e1]
 show(gH (snap h'.get h.next 15 true) (xA e (.aH (h.next+3) 0 e.vec.length 1))).bind _=_
 have s1':snap h'.get h.next 15 true (.aH (h.next+3) 0 e.vec.length 1)=some (xU e.vec):=by
  have o:x8 1 ⟨h'.next,h.next,h'.cP,h'.len⟩ (.aH (h.next+3) 0 e.vec.length 1) e.vec.length (ints e.vec):=⟨by rw[rk];omega,.inr ⟨h.next+3,rfl,g,by show h.next≤_;omega,h0⟩⟩
  have:=o.Aa (fl:=h.next) (m:=13) (t:=true) (wU _)
  have e:CG 1 e.vec.length (ints e.vec)=xU e.vec:=by unfold CG xU;rw[if_neg (by omega)]
  rw[e]at this;exact this
 have e2:gH (snap h'.get h.next 15 true) (xA e (.aH (h.next+3) 0 e.vec.length 1))=some (xA e (xU e.vec)):=by
  unfold xA
  simp only[gH,s1',wP]
  rfl
 rw[e2];rfl
def UU (x:xN):xN:=(x.1,xU x.1.vec)
theorem JL {v : AV} {l : List xN} (hl : l.length ≤ 1000) (h0 : H) (b : Nat) (hb : h0.get b = some [v]) (rd : yM 9 h0 v l.length (xG l)) (hv : ∀ x ∈ l, yF h0 x ∧ x.2.sc = true ∧ x.1.vec.length = 4) (P : Nat) (hP : h0.next ≤ P) (o2 : AV) : ∀ (q p : List xN), l = p ++ q → ∀ (h : H) (ov : AV), Ext h0 h → h.get P = some [ov] → h.floor ≤ h.next → h.floor ≤ P →
 x8 9 h ov p.length (xG (p.map UU))→(∀j,ov.id?=some j→P<j)→
 ∃ e' h' ov', Lp AP.A [1, 2, 3, 4] AP.f215L0 [(1, .aG b 0), (2, o2), (3, .aG P 0), (4, .int .i64 p.length)] h = some (.exit 0, e', h') ∧ look e' 2 = o2 ∧ look e' 3 = .aG P 0 ∧
   Ext h0 h'∧h'.get P=some [ov']∧h'.floor=h.floor∧h.next≤h'.next∧x8 9 h' ov' l.length (xG (l.map UU))∧∀j,ov'.id?=some j→P<j
 | [], p, hp, h, ov, hx, hg, hf, hfP, o, ho => by
   rw[aa2]at hp;subst hp
   have gb:=hx _ _ hb
   have ln:=(rd.mono fun i c q=>hx i c q).len
   refine⟨[(1,.aG b 0),(2,o2),(3,.aG P 0),(4,.int .i64 l.length),(9,.bool false)],h,ov,u6 ?_,rfl,rfl,hx,hg,rfl,wU _,o,ho⟩
   simp (disch:=omega)only[go_sem,xF,AP.f215L0,gb,ln]
 | x :: q, p, hp, h, ov, hx, hg, hf, hfP, o, ho => by
   have gb:=hx _ _ hb
   have hlx:l[p.length]?=some x:=by rw[hp];simp
   have hlen:l.length=p.length+(q.length+1):=by rw[hp];simp
   have ln:=(rd.mono fun i c q=>hx i c q).len
   obtain⟨ad,a1,a2⟩:=rd.HY
   have b1:=a1 p.length ⟨by omega,by omega⟩
   obtain⟨_,b2⟩:=a2 h hx p.length x hlx
   obtain⟨ok,sc,v4⟩:=hv x (by rw[hp];simp)
   have k1:=De h x.1 x.2 sc (ok.mono hx) (by omega) (by omega)
   have w1:((p++[x]).length:Int)=(p.length:Int)+1:=by simp
   obtain⟨E,hE⟩:∃E,E=xA x.1 (xU x.1.vec):=⟨_,rfl⟩
   have lE:E.length=9:=by rw[hE];rfl
   have cE:AV.aE E=true:=by rw[hE];exact yH rfl
   have fE:setFrom Z9 0 E=E:=by rw[hE];rfl
   obtain⟨v',h',p1,p2,p3,p4,p5,p6⟩:=o.push hf (z:=104) (m:=1) (by omega) (by omega) E (by rw[lE]) cE (by simp [roomy];omega)
   have gP:h'.get P=some [ov]:=by rw[p5 P (fun q=>by have:=ho P q;omega) (h.lt _ _ hg)];exact hg
   have hw:=p2.sc
   have cw:=ye hw
   have st:vR h' P 0 1 [v'] (some [ov])=some (h'.set P [v']):=by rw[wx (by rw[p3];exact hfP) (by simp) hw];rfl
   have ea:xG (p.map UU)++E=xG ((p++[x]).map UU):=by rw[abg,abx,show UU x=(x.1,xU x.1.vec)from rfl,EY,hE]
   have el:p.length+1=(p++[x]).length:=by simp
   rw[ea,el]at p2
   have hP':=h.lt _ _ hg
   obtain⟨e',h2,ov',r1,r2,r3,r6,r7,r8,r9,r10⟩:=JL hl h0 b hb rd hv P hP o2 q (p++[x]) (by rw[hp];simp) (h'.set P [v']) v' (fun i c q=>by
    have:=h0.lt _ _ q
    rw[xC (by omega),p5 i (fun q2=>by have:=ho i q2;omega) (by omega)];exact hx i c q) (by rw[xH rfl,gP];rfl) (by simp [p3];omega) (by simp [p3];exact hfP) (p2.mono (by simp) fun i q=>by rw[xC];rw[p6]at q;have:=wH q;omega) (fun j q=>by rw[p6]at q;have:=wH q;omega)
   rw[w1]at r1
   refine⟨e',h2,ov',u9 ?_ r1,r2,r3,r6,r7,by rw[r8];simp [p3],by simp at r9;omega,r10⟩
   rw[←hE]at k1
   clear r1 r2 r3 r6 r7 r8 r9 r10 rd hv a1 a2 o ea el p2 hE
   generalize xA x.1 x.2=F at *
   simp (disch:=omega)only[go_sem,xF,AP.f215L0,gb,ln,hg,b1,b2,k1,lE,cE,fE,p1,cw,gP,st]
theorem JM (h:H) (hf:h.floor≤h.next) (v:AV) (l:List xN) (hvs:v.sc=true) (hl:l.length≤1000) (rd:yM 9 h v l.length (xG l)) (hv:∀x∈l,yF h x∧x.2.sc=true∧x.1.vec.length=4):
 ∃w h',aU AP.A 215 [.agg [v]] h=some (.agg [w],h')∧YG 9 h w h' l.length (xG (l.map UU)):=by
 obtain⟨g1,eg1⟩:∃g,g=h.alloc [v]:=⟨_,rfl⟩
 obtain⟨g2,eg2⟩:∃g,g=g1.alloc [.aS]:=⟨_,rfl⟩
 obtain⟨g3,eg3⟩:∃g,g=g2.alloc [.aS]:=⟨_,rfl⟩
 have n1:g1.next=h.next+1:=by rw[eg1];simp
 have n2:g2.next=h.next+2:=by rw[eg2];simp [n1]
 have n3:g3.next=h.next+3:=by rw[eg3];simp [n2]
 have f3:g3.floor=h.floor:=by rw[eg3,eg2,eg1];simp
 have x2:Ext h g2:=by rw[eg2,eg1];exact((Ext.refl h).alloc _).alloc _
 have x23:Ext g2 g3:=by rw[eg3];exact(Ext.refl _).alloc _
 have z1:g2.get h.next=some [v]:=by rw[eg2,xI (by omega),eg1,xE rfl]
 have z2:g2.get (h.next+1)=some [.aS]:=by rw[eg2,xE (by omega)]
 have z3:g3.get (h.next+2)=some [.aS]:=by rw[eg3,xE (by omega)]
 obtain⟨e',h4,w,r1,r2,r3,r4,r5,r6,r7,r8,r9⟩:=JL hl g2 h.next z1 (rd.mono fun i c q=>x2 i c q) (fun x hx=>⟨(hv x hx).1.mono x2,(hv x hx).2⟩) (h.next+2) (by omega) (.aG (h.next+1) 0) l [] rfl g3 .aS x23 z3 (by omega) (by omega) x8.nil (fun j q=>by cases q)
 have r1':Lp AP.A [1,2,3,4] AP.f215L0 [(1,.aG h.next 0),(2,.aG (h.next+1) 0),(3,.aG (h.next+2) 0),(4,.int .i64 0)] g3=some (.exit 0,e',h4):=r1
 have hw:=r8.sc
 have cw:=ye hw
 have y2:=r4 _ _ z2
 obtain⟨g5,eg5⟩:∃g,g=h4.set (h.next+1) [w]:=⟨_,rfl⟩
 have st:vR h4 (h.next+1) 0 1 [w] (some [.aS])=some g5:=by rw[wx (by rw[r6,f3];omega) (by simp) hw,eg5];rfl
 have z5:g5.get (h.next+1)=some [w]:=by rw[eg5,xH rfl,y2];rfl
 refine⟨w,g5, ?_,⟨r8.mono (by rw[eg5];simp) (fun i q=>by have:=r9 i q;rw[eg5,xC (by omega)]),fun i c q=> ?_,by rw[eg5];simp [r6,f3],by rw[eg5];simp;omega,fun i q=>by have:=r9 i q;omega⟩⟩
 · refine vv (fn:=AP.f215) (h2:=g5) (e:=[(2,.aG (h.next+1) 0)]) (vs:=[.agg [w]]) rfl rfl rfl ?_ (by simp only[AP.f215,c9,oL,ou,sX,z5,uX];rfl)
   clear rd hv r1 r4 r8 r9 x2 x23
   simp (disch:=omega)only[go_sem,xF,AP.f215,hvs,←eg1,n1,←eg2,n2,←eg3,uo,r1',r2,r3,r5,yx,y2,hw,cw,st]
 · have:=h.lt _ _ q
   rw[eg5,xC (by omega)];exact r4 _ _ (x2 _ _ q)
def xO (s:ByteArray):List xP→Nat×Bool
 |[]=>(0,false)
 |e::r=>if Op.bytesLess e.name.toList s.toList then((xO s r).1+1,(xO s r).2)else(0,e.name.toList==s.toList)
theorem Kr {v : AV} {l : List xN} (s : ByteArray) (hl : l.length < 1125899906842624) (h : H) (b : Nat) (hb : h.get b = some [v]) (rd : yM 9 h v l.length (xG l)) : ∀ (q p : List xN), l = p ++ q →
 (∃e',Lp AP.A [1,2,6] AP.f208L0 [(1,.str s),(2,.aG b 0),(6,.int .i64 p.length)] h=some (.exit 0,e',h)∧look e' 2=.aG b 0∧xO s (q.map (·.1))=(q.length,false))∨
 (∃e',Lp AP.A [1,2,6] AP.f208L0 [(1,.str s),(2,.aG b 0),(6,.int .i64 p.length)] h=some (.ret,e',h)∧look e' 4=.int .i64 (p.length+(xO s (q.map (·.1))).1:Nat)∧look e' 5=.bool (xO s (q.map (·.1))).2)
 | [], p, hp => by
   rw[aa2]at hp;subst hp
   have ln:=rd.len
   refine .inl ⟨[(1,.str s),(2,.aG b 0),(6,.int .i64 l.length),(11,.bool false)],u6 ?_,rfl,rfl⟩
   simp (disch:=omega)only[go_sem,xF,AP.f208L0,hb,ln]
 | x :: q, p, hp => by
   have hlen:l.length=p.length+(q.length+1):=by rw[hp];simp
   have hx:l[p.length]?=some x:=by rw[hp];simp
   have ln:=rd.len
   obtain⟨ad,a1,a2⟩:=rd.HY
   have b1:=a1 p.length ⟨by omega,by omega⟩
   obtain⟨pe,b2⟩:=a2 h (Ext.refl h) p.length x hx
   obtain⟨qq,f1,f2⟩:=pe.vm
   have l0:=f2 h (Ext.refl h) 0 _ rfl
   have w1:((p++[x]).length:Int)=(p.length:Int)+1:=by simp
   have w2:(p++[x]).length=p.length+1:=by simp
   rw[aa5,xO]
   cases hc:Op.bytesLess x.1.name.toList s.toList with
   | true =>
     have cmp:bC .geq (.str x.1.name) (.str s)=some (.bool false):=by
      show some (AV.bool (!(Op.bytesLess x.1.name.toList s.toList)))=_
      rw[hc];rfl
     have step:aO (aU AP.A) bH AP.f208L0 (ay [(1,.str s),(2,.aG b 0),(6,.int .i64 p.length)] [1,2,6]) h=some (.normal,[(1,.str s),(2,.aG b 0),(6,.int .i64 ((p.length:Int)+1))],h):=by
      clear rd a1 a2 pe f2 hp b2
      simp (disch:=omega)only[go_sem,xF,AP.f208L0,hb,ln,b1,f1,l0,cmp]
     rw[if_pos rfl]
     rcases Kr s hl h b hb rd q (p++[x]) (by rw[hp];simp)with ⟨e',r1,r2,r3⟩|⟨e',r1,r2,r3⟩
     · rw[w1]at r1
       exact .inl ⟨e',u9 step r1,r2,by rw[r3];simp⟩
     · rw[w1]at r1
       refine .inr ⟨e',u9 step r1,by rw[r2,w2];congr 2;omega,r3⟩
   | false =>
     have cmp:bC .geq (.str x.1.name) (.str s)=some (.bool true):=by
      show some (AV.bool (!(Op.bytesLess x.1.name.toList s.toList)))=_
      rw[hc];rfl
     have cm2:bC .eql (.str x.1.name) (.str s)=some (.bool (x.1.name.toList==s.toList)):=rfl
     rw[if_neg (by decide)]
     refine .inr ⟨[(4,.int .i64 p.length),(5,.bool (x.1.name.toList==s.toList))],vF ?_,rfl,rfl⟩
     clear rd a1 a2 pe f2 hp b2
     simp (disch:=omega)only[go_sem,xF,AP.f208L0,hb,ln,b1,f1,l0,cmp,cm2]
theorem OY (h:H) (v:AV) (l:List xN) (s:ByteArray) (hvs:v.sc=true) (hn:l.length<1125899906842624) (rd:yM 9 h v l.length (xG l)):aU AP.A 208 [.agg [v],.str s] h=some (.bW [.int .i64 (xO s (l.map (·.1))).1,.bool (xO s (l.map (·.1))).2],h):=by
 obtain⟨h1,eh1⟩:∃g,g=h.eO.alloc [v]:=⟨_,rfl⟩
 have hx0:Ext h h1:=by rw[eh1];exact fun i c q=>((Ext.refl h.eO).alloc _) i c q
 have hn0:h.eO.next=h.next:=rfl
 have g1:h1.get h.next=some [v]:=by rw[eh1];exact xE rfl
 have zK:=rd.mono fun i c q=>hx0 i c q
 have ln:=zK.len
 rcases Kr s hn h1 h.next g1 zK l [] rfl with ⟨e',r1,r2,r3⟩|⟨e',r1,r2,r3⟩
 · have r1':Lp AP.A [1,2,6] AP.f208L0 [(1,.str s),(2,.aG h.next 0),(6,.int .i64 0)] h1=some (.exit 0,e',h1):=r1
   rw[r3]
   refine vP (fn:=AP.f208) (h2:=h1) (e:=[(4,.int .i64 l.length),(5,.bool false)]) (vs:=[.int .i64 l.length,.bool false]) rfl rfl rfl ?_ rfl rfl
   clear rd zK hx0 r1 r3
   simp (disch:=omega)only[go_sem,xF,AP.f208,hvs,hn0,←eh1,g1,ln,uo,r1',r2]
 · have r1':Lp AP.A [1,2,6] AP.f208L0 [(1,.str s),(2,.aG h.next 0),(6,.int .i64 0)] h1=some (.ret,e',h1):=r1
   rw[show([]:List xN).length+(xO s (l.map (·.1))).1=(xO s (l.map (·.1))).1 by simp]at r2
   generalize xO s (l.map (·.1))=P at *
   refine vP (fn:=AP.f208) (h2:=h1) (e:=e') (vs:=[.int .i64 P.1,.bool P.2]) rfl rfl rfl ?_ (by simp only[AP.f208,c9,oL,r2,r3];rfl) rfl
   clear rd zK hx0 r1 r2 r3
   simp (disch:=omega)only[go_sem,xF,AP.f208,hvs,hn0,←eh1,g1,ln,uo,r1']
def Nj (bs:List Nat):List Nat:=Ng bs 0 []
structure Wr (h:H) (w:Nat) (bs:List Nat) (ov:AV):Prop where
 get:h.get w=some [ov,.int .i64 (bs.length:Nat)]
 own:x8 1 h ov (Nj bs).length (Bl (Nj bs))
 fl:h.floor≤w
 Yc:h.floor≤h.next
 ne:ov.id?≠some w
 byt:Z3 (Nj bs)
structure Ql (h:H) (w:Nat) (ov:AV) (h':H) (ov':AV):Prop where
 floor:h'.floor=h.floor
 next:h.next≤h'.next
 yR:∀i,i<h.next→i≠w→ov.id?≠some i→h'.get i=h.get i
 ids:∀j,ov'.id?=some j→ov.id?=some j∨h.next≤j
theorem Ql.refl (h:H) (w:Nat) (ov:AV):Ql h w ov h ov:=⟨rfl,wU _,fun _ _ _ _=>rfl,fun _ h=>.inl h⟩
theorem Ql.trans {h1 h2 h3:H} {w:Nat} {o1 o2 o3:AV} (a:Ql h1 w o1 h2 o2) (b:Ql h2 w o2 h3 o3):Ql h1 w o1 h3 o3:=
 ⟨by rw [b.floor, a.floor], xq a.next b.next, fun i h hw ho => by
   rw[b.yR i (by have:=a.next;omega) hw (fun q=>by rcases a.ids i q with q|q;exact ho q;omega),a.yR i h hw ho],
  fun j h=>by
   rcases b.ids j h with q|q
   · exact a.ids j q
   · exact .inr (xq a.next q)⟩
def LM (v:Nat):Nat→Nat→List Nat
 |_,0=>[]
 |i,m+1=>v/2^i%2::LM v (i+1) m
def Yu (v n:Nat):List Nat:=LM v 0 n
def Mt (v:Nat):Nat→List Nat
 |0=>[]
 |m+1=>v/2^m%2::Mt v m
theorem IE (v:Nat):∀m i,(LM v i m).length=m
 |0,_=>rfl
 |m+1,i=>by simp [LM,IE v m]
def OK (o:Option (Nat×Nat)):Nat:=(o.getD (0,0)).1
def YW (f:Nat→Option (Nat×Nat)) (k:Nat):Nat→Nat
 |0=>0
 |s+1=>if OK (f (s+1))≤k then s+1 else YW f k s
def Yi (k:Nat):Nat:=YW lenOf k 285
def Xc (k:Nat):Nat:=YW zU k 29
def Zm (d:Nat):Nat→List Nat→List Nat
 |0,o=>o
 |n+1,o=>Zm d n (o++[o.getD (o.length-d) 0])
def On (o:List Nat) (t:Tok):List Nat:=if t.len=0 then o++[t.lit.toNat]else Zm t.EX.toNat t.len.toNat o
def Xf:List Tok→List Nat→List Nat
 |[],o=>o
 |t::r,o=>Xf r (On o t)
def Oo (ts:List Tok):Option ByteArray:=if I4 0 ts=true then some (bytesOf (Xf ts []))else none
def YX (ts:List Tok):Bool:=match Oo ts with
 |some t=>decide (t.size≤300)
 |none=>false
theorem MK {α:Type} {C:α→List AV} {n:Nat} (hC:∀x,(C x).length=n):∀(l:List α) (i:Nat) (x:α),i<l.length→setFrom (l.flatMap C) (i* n) (C x)=(l.set i x).flatMap C
 |[],i,x,h=>by simp at h
 | y :: l, 0, x, h => by
   have:=AJ (C y) (C x) [] (l.flatMap C) (by rw[hC,hC])
   simpa using this
 | y :: l, i + 1, x, h => by
   have ih:=MK hC l i x (by simpa using h)
   rw[abh,List.set_cons_succ,abh,←ih]
   have e:=Hb hC l
   have:i<l.length:=by simpa using h
   have hi:i* n+n≤l.length* n:=by
    have:=wW n (show i+1≤l.length from this)
    rwa [Nat.succ_mul]at this
   have hs:(i+1)* n=n+i* n:=by rw[Nat.succ_mul];omega
   rw[CU _ _ _ (by rw[xu,hC,hC,e,hs];omega),CU _ _ _ (by rw[hC,e];omega),hs,hC]
   rw[List.take_append,List.drop_append,hC]
   rw[xj (by rw[hC];omega),List.drop_of_length_le (by rw[hC];omega)]
   rw[show n+i* n-n=i* n by omega,show n+i* n+n-n=i* n+n by omega]
   simp
def Xa (l:List Int) (i:Nat):Int×Int:=if 1≤l.getD i 0 then(l.getD i 0,xX l (l.getD i 0).toNat+Au (l.take i) (l.getD i 0).toNat)else(0,0)
def G8 (l:List Int):List (Int×Int):=(List.range l.length).map (Xa l)
def Qj (l:List Int) (least:Nat):Nat→Nat
 |0=>least
 |i+1=>if i+1≤least then least else if 0<l.getD i 0 then i+1 else Qj l least i
theorem x8.join {n:Nat} {h:H} {v:AV} {k:Nat} {cs:List AV} (o:x8 n h v k cs) (hfn:h.floor≤h.next) {z m:Nat} (hn:0<n) {w:AV} {bs:List AV} (hs:aV h n w=some (m,bs)) (hb:bs.length=m* n) (hc:AV.aE bs=true) (hr:roomy z (k+m)=true):
 ∃v' h',mo h n z v w=some (v',h')∧x8 n h' v' (k+m) (cs++bs)∧h'.floor=h.floor∧h.next≤h'.next∧(∀i,v.id?≠some i→i<h.next→h'.get i=h.get i)∧∀j,v'.id?=some j→v.id?=some j∨j=h.next:=by
 by_cases c:m=0
 · subst c
   have e:bs=[]:=aa7 (by omega)
   subst e
   refine⟨v,h, ?_,by rw[aa2];exact o,rfl,wU _,fun _ _ _=>rfl,fun j q=>.inl q⟩
   unfold mo
   rw[hs,wP]
   rcases o.2 with ⟨rfl,_⟩|⟨id,rfl,_⟩
   · rfl
   · unfold eK;rw[if_pos rfl]
 · obtain⟨v',h',p1,p2,p3,p4,p5,p6⟩:=o.app hfn (z:=z) (Nat.pos_of_ne_zero c) hn bs hb hc hr
   refine⟨v',h', ?_,p2,p3,p4,fun i q1 q2=>p5 i q1 (by omega),fun j q=>.inr ?_⟩
   · unfold mo;rw[hs,wP];exact p1
   · rw[p6]at q;exact(wH q).symm
theorem x8.hi {h:H} {w:AV} {k n:Nat} {cs:List AV} (o:x8 n h w k cs) (hn:0<n) {m:Nat} (hm:m≤k):∃u,ug h n w none (some (.int .i64 m)) none=some u∧aV h n u=some (m,cs.take (m* n))∧u.sc=true:=by
 obtain⟨l,⟨rfl,rfl⟩|⟨id,rfl,hg,hf,hk⟩⟩:=o
 · obtain rfl:m=0:=by omega
   obtain rfl:cs=[]:=aa7 (by omega)
   exact⟨.aS,rfl,by simp [aV],rfl⟩
 · have d:(cs.length-0)/n=k:=by rw[l,Nat.sub_zero,Nat.mul_div_cancel _ hn]
   refine⟨.aH id 0 m n, ?_, ?_,rfl⟩
   · have:=Yx (h:=h) (n:=n) (p:=id) (o:=0) (k:=k) (m:=m) hg hn (by omega) ⟨by omega,by rw[d];simpa using hm⟩
     rw[this];rfl
   · simp only[aV,if_true,hg,wP,wY,aa8]
     rw[if_pos (by rw[l];exact wW _ hm)]
theorem x8.lo {h : H} {w : AV} {k n : Nat} {cs : List AV} (o : x8 n h w k cs) (hn : 0 < n) {m : Nat} (hm : m ≤ k) : ∃ u, ug h n w (some (.int .i64 m)) none none = some u ∧ aV h n u = some (k - m, cs.drop (m * n)) ∧ u.sc = true := by
 obtain⟨l,⟨rfl,rfl⟩|⟨id,rfl,hg,hf,hk⟩⟩:=o
 · obtain rfl:m=0:=by omega
   obtain rfl:cs=[]:=aa7 (by omega)
   exact⟨.aS,rfl,by simp [aV],rfl⟩
 · have d:cs.length/n=k:=by rw[l,Nat.mul_div_cancel _ hn]
   have mk:=wW n hm
   refine⟨.aH id (0+m* n) (k-m) n, ?_, ?_,rfl⟩
   · simp only[ug,hn,and_self,if_true,hg,wP,aD,Nat.sub_zero,d]
     rw[if_pos ⟨by omega,wU _⟩]
     have h3:lD (.int .i64 m) k=some m:=by
      simp only[lD,pc,wP]
      rw[if_pos]
      · rfl
      · omega
     simp [h3]
   · simp only[aV,if_true,hg,wP,wY]
     have e:m* n+(k-m)* n=k* n:=by rw[←xk];congr 1;omega
     rw[if_pos (by omega)]
     rw[xj]
     rw[List.length_drop];omega
def zP (e:xP):xN:=(e,xU e.vec)
theorem PD (l:List xN):l.map UU=(l.map (·.1)).map zP:=by rw[abw];rfl
def Bc (L:List xP) (at':Nat) (there:Bool) (e:xP):List xP:=if there then L.set at' e else L.take at'++e::L.drop at'
theorem PF (L:List xP):AV.aE (xG (L.map zP))=true:=HZ fun x hx=>by obtain⟨e,_,rfl⟩:=aa6.1 hx;rfl
theorem IQ (g:Nat→Option (List AV)) (fl m:Nat) (t:Bool):∀L:List xP,gH (snap g fl (m+1) t) (xG (L.map zP))=some (xG (L.map zP))
 |[]=>rfl
 | e :: L => by
   show gH (snap g fl (m+1) t) (.str e.name:: .bool e.gone::xU e.vec:: .int .i64 e.xL:: .int .i64 e.node:: .int .i64 e.method:: .str e.packed:: .int .i64 e.size:: .int .i64 e.Bd::xG (L.map zP))=_
   have ih:=IQ g fl m t L
   have a:∀v,v=AV.str e.name∨v=.bool e.gone∨v=xU e.vec∨v=.int .i64 e.xL∨v=.int .i64 e.node∨v=.int .i64 e.method∨v=.str e.packed∨v=.int .i64 e.size∨v=.int .i64 e.Bd→snap g fl (m+1) t v=some v:=by
    rintro v (rfl|rfl|rfl|rfl|rfl|rfl|rfl|rfl|rfl)<;>rfl
   simp only[gH,a _ (.inl rfl),a _ (.inr (.inl rfl)),a _ (.inr (.inr (.inl rfl))),a _ (.inr (.inr (.inr (.inl rfl)))),a _ (.inr (.inr (.inr (.inr (.inl rfl))))),a _ (.inr (.inr (.inr (.inr (.inr (.inl rfl)))))),a _ (.inr (.inr (.inr (.inr (.inr (.inr (.inl rfl))))))),a _ (.inr (.inr (.inr (.inr (.inr (.inr (.inr (.inl rfl)))))))),a _ (.inr (.inr (.inr (.inr (.inr (.inr (.inr (.inr rfl)))))))),ih,wP]
   rfl
def zW (L:List xP):AV:=CG 9 L.length (xG (L.map zP))
theorem Dl (L:List xP):(zW L).sc=true:=by unfold zW CG;split<;>rfl
theorem He (g:H) (L:List xP):yM 9 g (zW L) (L.map zP).length (xG (L.map zP)):=by
 have:=FD (n:=9) (k:=L.length) (h:=g) (cs:=xG (L.map zP)) (by rw[yQ,aa0])
 rw[aa0];exact this
theorem x8.DE {h:H} {v:AV} {L:List xP} {fl m:Nat} {t:Bool} (o:x8 9 h v L.length (xG (L.map zP))) (hf:fl≤h.floor):snap h.get fl (m+2) t v=some (zW L):=by
 unfold zW CG
 obtain⟨q0,⟨q1,q2⟩|⟨j,q1,q2,q3,q4⟩⟩:=o
 · rw[q1,q2];rfl
 · rw[q1,if_neg (by omega)]
   show(if j<fl then _ else _)=_
   rw[if_neg (by omega),q2,wP,if_pos (by omega),aa8,xj (by omega),IQ]
   rfl
theorem H7 {α:Type} {C:α→List AV} {n:Nat} (hC:∀x,(C x).length=n):∀(l:List α) (k:Nat),(l.flatMap C).take (k* n)=(l.take k).flatMap C
 |[],k=>by simp
 |x::l,0=>by simp
 | x :: l, k + 1 => by
   rw[abh,w8,abh,List.take_append,hC,xj (by rw[hC,xk];omega),show(k+1)* n-n=k* n by rw[xk];omega,H7 hC l k]
theorem H6 {α:Type} {C:α→List AV} {n:Nat} (hC:∀x,(C x).length=n):∀(l:List α) (k:Nat),(l.flatMap C).drop (k* n)=(l.drop k).flatMap C
 |[],k=>by simp
 |x::l,0=>by simp
 | x :: l, k + 1 => by
   rw[abh,List.drop_succ_cons,List.drop_append,hC,List.drop_of_length_le (by rw[hC,xk];omega),abB,show(k+1)* n-n=k* n by rw[xk];omega,H6 hC l k]
theorem NX (h:H) (v:AV) (l:List xN) (hvs:v.sc=true) (hl:l.length≤1000) (rd:yM 9 h v l.length (xG l)) (hv:∀x∈l,yF h x∧x.2.sc=true∧x.1.vec.length=4) (k:Nat) (there:Bool) (hk:k≤l.length) (hk2:there=true→k<l.length) (e:xP):
 aU AP.A 210 [.agg [v],.int .i64 k,.bool there,.agg (xA e (xU e.vec))] h=some (.agg [zW (Bc (l.map (·.1)) k there e)],h):=by
 obtain⟨E,hE⟩:∃E,E=xA e (xU e.vec):=⟨_,rfl⟩
 have lE:E.length=9:=by rw[hE];rfl
 have cE:AV.aE E=true:=by rw[hE];exact yH rfl
 have fE:setFrom Z9 0 E=E:=by rw[hE];rfl
 have rE:iO true 9 E 0=some (.agg E):=by rw[hE];rfl
 rw[←hE]
 obtain⟨h1,eh1⟩:∃g,g=h.eO.alloc [v]:=⟨_,rfl⟩
 obtain⟨h2,eh2⟩:∃g,g=h1.alloc E:=⟨_,rfl⟩
 obtain⟨h3,eh3⟩:∃g,g=h2.alloc [.aS]:=⟨_,rfl⟩
 have n0:h.eO.next=h.next:=rfl
 have n1:h1.next=h.next+1:=by rw[eh1];simp
 have n2:h2.next=h.next+2:=by rw[eh2];simp [n1]
 have n3:h3.next=h.next+3:=by rw[eh3];simp [n2]
 have f3:h3.floor=h.next:=by rw[eh3,eh2,eh1];simp
 have x3:Ext h h3:=fun i c q=>by rw[eh3,eh2,eh1];exact((((Ext.refl h.eO).alloc _).alloc _).alloc _) i c q
 have z0:h3.get h.next=some [v]:=by rw[eh3,xI (by omega),eh2,xI (by omega),eh1];exact xE rfl
 have z1:h3.get (h.next+1)=some E:=by rw[eh3,xI (by omega),eh2,xE (by omega)]
 have z2:h3.get (h.next+2)=some [.aS]:=by rw[eh3,xE (by omega)]
 obtain⟨w,h4,k1,gen⟩:=JM h3 (by omega) v l hvs hl (rd.mono fun i c q=>x3 i c q) (fun x hx=>⟨(hv x hx).1.mono x3,(hv x hx).2⟩)
 rw[PD]at gen
 obtain⟨L,hL⟩:∃L,L=l.map (·.1):=⟨_,rfl⟩
 have lL:L.length=l.length:=by rw[hL,aa0]
 rw[←hL]at gen ⊢
 have f4:=gen.fl
 have n4:=gen.nx
 have o4:=gen.own
 have sw:=o4.sc
 have cw:=ye sw
 obtain⟨Q,hQ⟩:∃Q,Q=h4.next:=⟨_,rfl⟩
 obtain⟨h5,eh5⟩:∃g,g=h4.alloc [.aS]:=⟨_,rfl⟩
 obtain⟨h6,eh6⟩:∃g,g=h5.set Q [w]:=⟨_,rfl⟩
 have n5:h5.next=Q+1:=by rw[eh5];simp [hQ]
 have n6:h6.next=Q+1:=by rw[eh6];simp [n5]
 have f6:h6.floor=h.next:=by rw[eh6,eh5];simp [f4,f3]
 have z5:h5.get Q=some [.aS]:=by rw[eh5,xE hQ]
 have st6:vR h5 Q 0 1 [w] (some [.aS])=some h6:=by rw[wx (by rw[eh5];simp;omega) (by simp) sw,eh6];rfl
 have low6:∀i,i<Q→h6.get i=h4.get i:=fun i hi=>by rw[eh6,xC (by omega),eh5,xI (by omega)]
 have zQ:h6.get Q=some [w]:=by rw[eh6,xH rfl,z5];rfl
 have y1:h6.get (h.next+1)=some E:=by rw[low6 _ (by omega)];exact gen.ext _ _ z1
 have y2:h6.get (h.next+2)=some [.aS]:=by rw[low6 _ (by omega)];exact gen.ext _ _ z2
 have wQ:∀i,w.id?=some i→h3.next≤i∧i<Q:=fun i q=>⟨gen.ge i q,by rw[hQ];exact(o4.lt q).2⟩
 have o6:x8 9 h6 w l.length (xG (L.map zP)):=o4.mono (by rw[f6,f4,f3]) fun i q=>low6 i (wQ i q).2
 have e1:h.eO.alloc [v]=h1:=eh1.symm
 have e2:h1.alloc E=h2:=eh2.symm
 have e3:h2.alloc [.aS]=h3:=eh3.symm
 have e5:h4.alloc [.aS]=h5:=eh5.symm
 have Q4:h4.next=Q:=hQ.symm
 cases there with
 | true =>
   have hk':=hk2 rfl
   obtain⟨hlen,⟨q1,q2⟩|⟨id,q1,q2,q3,q4⟩⟩:=o6
   · omega
   obtain⟨h7,eh7⟩:∃g,g=h6.set id (xG ((L.set k e).map zP)):=⟨_,rfl⟩
   obtain⟨h8,eh8⟩:∃g,g=h7.set (h.next+2) [w]:=⟨_,rfl⟩
   have hid:=wQ id (by rw[q1];rfl)
   have fs:setFrom (xG (L.map zP)) (k* 9) E=xG ((L.set k e).map zP):=by
    have:=MK AB (L.map zP) k (zP e) (by rw[aa0,lL];exact hk')
    rw[List.map_set,hE];exact this
   have b1:gZ 9 w (.int .i64 k)=some (.aG id (k* 9)):=by
    rw[q1,Jt,Qn ⟨by omega,by omega⟩]
    show some (AV.aG id (0+(k:Int).toNat* 9))=_
    rw[yZ,wY]
   have st7:vR h6 id (k* 9) 9 E (some (xG (L.map zP)))=some h7:=by
    simp only[vR,wP]
    rw[if_pos ⟨q3,lE,by omega,cE⟩,fs,eh7]
   have zQ7:h7.get Q=some [w]:=by rw[eh7,xC (by omega)];exact zQ
   have y27:h7.get (h.next+2)=some [.aS]:=by rw[eh7,xC (by omega)];exact y2
   have st8:vR h7 (h.next+2) 0 1 [w] (some [.aS])=some h8:=by rw[wx (by rw[eh7];simp;omega) (by simp) sw,eh8];rfl
   have z8:h8.get (h.next+2)=some [w]:=by rw[eh8,xH rfl,y27];rfl
   have wl:Bc L k true e=L.set k e:=rfl
   rw[wl]
   have o8:x8 9 h8 w (L.set k e).length (xG ((L.set k e).map zP)):=⟨by rw[yQ,aa0],.inr ⟨id,by rw[abz,lL];exact q1,by rw[eh8,xC (by omega),eh7,xH rfl,q2];rfl,by rw[eh8,eh7];simp;omega,by rw[abz];omega⟩⟩
   refine vP (fn:=AP.f210) (h2:=h8) (e:=[(8,.aG (h.next+2) 0)]) (vs:=[.agg [w]]) rfl rfl rfl ?_ (by simp only[AP.f210,c9,oL,ou,mM,sX,z8,uX];rfl) ?_
   · clear rd hv o4 gen o8 fs fE hE hL x3 low6 wQ q1
     generalize xG ((L.set k e).map zP)=Z at *
     generalize xG (L.map zP)=Y at *
     simp (disch:=omega)only[go_sem,xF,AP.f210,hvs,n0,e1,n1,e2,n2,e3,lE,cE,z0,yx,k1,Q4,e5,z5,cw,st6,zQ,b1,y1,rE,q2,st7,zQ7,y27,st8]
   · have s:=o8.DE (fl:=h.next) (m:=12) (t:=true) (by rw[eh8,eh7];simp;omega)
     show(gH (snap h8.get h.next 15 true) [w]).bind _=_
     have s':=o8.DE (fl:=h.next) (m:=13) (t:=true) (by rw[eh8,eh7];simp;omega)
     simp only[gH,s',wP]
 | false =>
   obtain⟨P,hP⟩:∃P,P=h6.next:=⟨_,rfl⟩
   have hPQ:P=Q+1:=by omega
   obtain⟨h7,eh7⟩:∃g,g=h6.alloc [.aS]:=⟨_,rfl⟩
   have e7:h6.alloc [.aS]=h7:=eh7.symm
   have n7:h7.next=P+1:=by rw[eh7];simp [hP]
   have f7:h7.floor=h.next:=by rw[eh7];simp [f6]
   have low7:∀i,i<P→h7.get i=h6.get i:=fun i hi=>by rw[eh7,xI (by omega)]
   have zP7:h7.get P=some [.aS]:=by rw[eh7,xE hP]
   have zQ7:h7.get Q=some [w]:=by rw[low7 _ (by omega)];exact zQ
   have o7:x8 9 h7 w l.length (xG (L.map zP)):=o6.mono (by rw[f7,f6]) fun i q=>low7 i (by have:=wQ i q;omega)
   obtain⟨u,u1,u2,u3⟩:=o7.hi (by omega) hk
   rw[show xG (L.map zP)=(L.map zP).flatMap Jk from rfl,H7 AB,←List.map_take,show((L.take k).map zP).flatMap Jk=xG ((L.take k).map zP)from rfl]at u2
   obtain⟨v1,h8,p1,p2,p3,p4,p5,p6⟩:=(x8.nil:x8 9 h7 .aS 0 []).join (z:=104) (by omega) (by omega) u2 (by rw[yQ,aa0,abC];omega) (PF _) (by simp [roomy];omega)
   have i1:∀j,v1.id?=some j→j=P+1:=fun j q=>by
    rcases p6 j q with q|q
    · cases q
    · omega
   rw[abB,wY]at p2
   have s1:=p2.sc
   have c1:=ye s1
   have zP8:h8.get P=some [.aS]:=by rw[p5 P (by simp [AV.id?]) (by omega)];exact zP7
   obtain⟨h9,eh9⟩:∃g,g=h8.set P [v1]:=⟨_,rfl⟩
   have st9:vR h8 P 0 1 [v1] (some [.aS])=some h9:=by rw[wx (by rw[p3,f7];omega) (by simp) s1,eh9];rfl
   have zP9:h9.get P=some [v1]:=by rw[eh9,xH rfl,zP8];rfl
   have low9:∀i,i<P→h9.get i=h6.get i:=fun i hi=>by rw[eh9,xC (by omega),p5 i (by simp [AV.id?]) (by omega),low7 i hi]
   have n9:P+1≤h9.next:=by rw[eh9];simp;omega
   have f9:h9.floor=h.next:=by rw[eh9];simp [p3,f7]
   have o9:x8 9 h9 v1 k (xG ((L.take k).map zP)):=p2.mono (by rw[eh9];simp) fun i q=>by rw[eh9,xC (by have:=i1 i q;omega)]
   obtain⟨v2,h10,r1,r2,r3,r4,r5,r6⟩:=o9.push (by omega) (z:=104) (m:=1) (by omega) (by omega) E (by rw[lE]) cE (by simp [roomy];omega)
   have s2:=r2.sc
   have c2:=ye s2
   have low10:∀i,i<P→h10.get i=h6.get i:=fun i hi=>by rw[r5 i (fun q=>by have:=i1 i q;omega) (by omega),low9 i hi]
   have zP10:h10.get P=some [v1]:=by rw[r5 P (fun q=>by have:=i1 P q;omega) (by omega)];exact zP9
   obtain⟨h11,eh11⟩:∃g,g=h10.set P [v2]:=⟨_,rfl⟩
   have st11:vR h10 P 0 1 [v2] (some [v1])=some h11:=by rw[wx (by rw[r3,f9];omega) (by simp) s2,eh11];rfl
   have zP11:h11.get P=some [v2]:=by rw[eh11,xH rfl,zP10];rfl
   have low11:∀i,i<P→h11.get i=h6.get i:=fun i hi=>by rw[eh11,xC (by omega),low10 i hi]
   have f11:h11.floor=h.next:=by rw[eh11];simp [r3,f9]
   have n11:P+2≤h11.next:=by rw[eh11];simp;omega
   have o11:x8 9 h11 v2 (k+1) (xG ((L.take k).map zP)++E):=r2.mono (by rw[eh11];simp) fun i q=>by rw[eh11,xC (by rw[r6]at q;have:=wH q;omega)]
   have w11:x8 9 h11 w l.length (xG (L.map zP)):=o6.mono (by rw[f11,f6]) fun i q=>low11 i (by have:=wQ i q;omega)
   obtain⟨u',t1,t2,t3⟩:=w11.lo (by omega) hk
   rw[show xG (L.map zP)=(L.map zP).flatMap Jk from rfl,H6 AB,←List.map_drop,show((L.drop k).map zP).flatMap Jk=xG ((L.drop k).map zP)from rfl]at t2
   obtain⟨v3,h12,m1,m2,m3,m4,m5,m6⟩:=o11.join (z:=104) (by omega) (by omega) t2 (by rw[yQ,aa0,List.length_drop];omega) (PF _) (by simp [roomy];omega)
   have i3:∀j,v3.id?=some j→P<j:=fun j q=>by
    rcases m6 j q with q|q
    · rw[r6]at q;have:=wH q;omega
    · omega
   have s3:=m2.sc
   have c3:=ye s3
   have zP12:h12.get P=some [v2]:=by rw[m5 P (fun q=>by rw[r6]at q;have:=wH q;omega) (by omega)];exact zP11
   have low12:∀i,i<P→h12.get i=h6.get i:=fun i hi=>by rw[m5 i (fun q=>by rw[r6]at q;have:=wH q;omega) (by omega),low11 i hi]
   obtain⟨h13,eh13⟩:∃g,g=h12.set P [v3]:=⟨_,rfl⟩
   obtain⟨h14,eh14⟩:∃g,g=h13.set (h.next+2) [v3]:=⟨_,rfl⟩
   have st13:vR h12 P 0 1 [v3] (some [v2])=some h13:=by rw[wx (by rw[m3,f11];omega) (by simp) s3,eh13];rfl
   have zP13:h13.get P=some [v3]:=by rw[eh13,xH rfl,zP12];rfl
   have y13:h13.get (h.next+2)=some [.aS]:=by rw[eh13,xC (by omega),low12 _ (by omega)];exact y2
   have st14:vR h13 (h.next+2) 0 1 [v3] (some [.aS])=some h14:=by rw[wx (by rw[eh13];simp;omega) (by simp) s3,eh14];rfl
   have z14:h14.get (h.next+2)=some [v3]:=by rw[eh14,xH rfl,y13];rfl
   have wl:Bc L k false e=L.take k++e::L.drop k:=rfl
   have lw:(Bc L k false e).length=k+1+(l.length-k):=by rw[wl];simp;omega
   have cw':xG ((L.take k).map zP)++E++xG ((L.drop k).map zP)=xG ((Bc L k false e).map zP):=by rw[wl,hE];simp [xG,Jk,zP]
   have o14:x8 9 h14 v3 (Bc L k false e).length (xG ((Bc L k false e).map zP)):=by
    rw[lw,←cw']
    exact m2.mono (by rw[eh14,eh13];simp) fun i q=>by have:=i3 i q;rw[eh14,xC (by omega),eh13,xC (by omega)]
   have y9:h9.get Q=some [w]:=by rw[low9 _ (by omega)];exact zQ
   have y11:h11.get Q=some [w]:=by rw[low11 _ (by omega)];exact zQ
   have y91:h9.get (h.next+1)=some E:=by rw[low9 _ (by omega)];exact y1
   refine vP (fn:=AP.f210) (h2:=h14) (e:=[(8,.aG (h.next+2) 0)]) (vs:=[.agg [v3]]) rfl rfl rfl ?_ (by simp only[AP.f210,c9,oL,ou,mM,sX,z14,uX];rfl) ?_
   · have P6:h6.next=P:=hP.symm
     clear rd hv o4 gen o14 hE hL x3 low6 wQ o6 low7 o7 u2 p2 i1 low9 o9 r2 low10 low11 o11 w11 t2 m2 i3 low12 cw' wl lw hk2
     generalize xG (L.map zP)=Y at *
     simp (disch:=omega)only[go_sem,xF,AP.f210,hvs,n0,e1,n1,e2,n2,e3,lE,cE,fE,z0,yx,k1,Q4,e5,z5,cw,st6,e7,P6,zP7,zQ7,u1,p1,zP8,c1,st9,zP9,y91,rE,r1,zP10,c2,st11,zP11,y11,t1,m1,zP12,c3,st13,zP13,y13,st14]
   · have s':=o14.DE (fl:=h.next) (m:=13) (t:=true) (by rw[eh14,eh13];simp;omega)
     show(gH (snap h14.get h.next 15 true) [v3]).bind _=_
     simp only[gH,s',wP]
theorem Cy:∀{a b c:List UInt8},Op.bytesLess a b=true→Op.bytesLess b c=true→Op.bytesLess a c=true
 |_,[],_,h,_=>by simp [Op.bytesLess]at h
 |_,_::_,[],_,h=>by simp [Op.bytesLess]at h
 |[],y::b,z::c,_,_=>rfl
 | x :: a, y :: b, z :: c, h1, h2 => by
   simp only[Op.bytesLess,xh,aa1,wT,beq_iff_eq]at h1 h2 ⊢
   rcases h1 with h1|⟨rfl,h1⟩
   · rcases h2 with h2|⟨rfl,h2⟩
     · exact .inl (UInt8.lt_trans h1 h2)
     · exact .inl h1
   · rcases h2 with h2|⟨rfl,h2⟩
     · exact .inl h2
     · exact .inr ⟨rfl,Cy h1 h2⟩
def VO (l:List xP):Prop:=∀(i j:Nat) (x y:xP),i<j→l[i]?=some x→l[j]?=some y→Op.bytesLess x.name.toList y.name.toList=true
theorem IK : ∀ {l : List xP} {p : xP}, yC (some p) l = true → (∀ x ∈ l, Op.bytesLess p.name.toList x.name.toList = true) ∧ VO l
 |[],p,_=>⟨fun x h=>(by cases h),fun i j x y _ h _=>(by simp at h)⟩
 | e :: l, p, h => by
   rw[yC,wT]at h
   obtain⟨i1,i2⟩:=IK h.2
   have h1:Op.bytesLess p.name.toList e.name.toList=true:=by
    have:=h.1
    unfold zt at this
    simp only[wT]at this
    exact this.2.1
   refine⟨fun x hx=> ?_,fun i j x y hij hx hy=> ?_⟩
   · rcases xn.1 hx with rfl|hx
     · exact h1
     · exact Cy h1 (i1 x hx)
   · match i,j,hij with
     | 0, j + 1, _ =>
       simp only[List.getElem?_cons_zero,wK]at hx
       subst hx
       exact i1 y (wX (by simpa using hy))
     |i+1,j+1,hij=>exact i2 i j x y (by omega) (by simpa using hx) (by simpa using hy)
theorem Nt {l:List xP} (h:yK l=true):VO l:=by
 unfold yK at h
 rw[wT]at h
 match l,h.1 with
 |[],_=>exact fun i j x y _ h _=>by simp at h
 | e :: l, h1 =>
   rw[yC,wT]at h1
   obtain⟨i1,i2⟩:=IK h1.2
   intro i j x y hij hx hy
   match i,j,hij with
   | 0, j + 1, _ =>
     simp only[List.getElem?_cons_zero,wK]at hx
     subst hx
     exact i1 y (wX (by simpa using hy))
   |i+1,j+1,hij=>exact i2 i j x y (by omega) (by simpa using hx) (by simpa using hy)
theorem IC (s:ByteArray):∀(l:List xP) (i:Nat),i≤l.length→(∀(k:Nat) (x:xP),k<i→l[k]?=some x→Op.bytesLess x.name.toList s.toList=true)→(∀x:xP,l[i]?=some x→Op.bytesLess x.name.toList s.toList=false)→
 xO s l=(i,match l[i]? with|some x=>x.name.toList==s.toList|none=>false)
 | [], i, hi, _, _ => by
   have:i=0:=by simpa using hi
   subst this;rfl
 | e :: l, 0, _, _, h2 => by
   have:=h2 e rfl
   rw[xO,this,if_neg (by decide)];rfl
 | e :: l, i + 1, hi, h1, h2 => by
   have he:=h1 0 e (by omega) rfl
   rw[xO,he,if_pos rfl,IC s l i (by simpa using hi) (fun k x hk hx=>h1 (k+1) x (by omega) (by simpa using hx)) (fun x hx=>h2 x (by simpa using hx))]
   simp
theorem Vs (h:H) (a b:ByteArray):aU AP.A 314 [.str a,.str b] h=some (.int .i64 (if Op.bytesLess a.toList b.toList then-1 else if a.toList==b.toList then 0 else 1),h):=by
 have n1:∀(g:H) (x:ByteArray),aU AP.A 315 [.str x] g=some (.bool false,g):=fun g x=>by
  have:bC .neq (.str x) (.str x)=some (.bool false):=by rw[BV];simp
  refine vP (fn:=AP.f315) (h2:=g.eO) (e:=[(2,.bool false)]) rfl rfl rfl ?_ rfl rfl
  simp (disch:=omega)only[go_sem,xF,AP.f315,this]
 have c1:bC .lss (.str a) (.str b)=some (.bool (Op.bytesLess a.toList b.toList)):=rfl
 have c2:bC .gtr (.str a) (.str b)=some (.bool (!(Op.bytesLess a.toList b.toList||a.toList==b.toList))):=rfl
 refine vP (fn:=AP.f314) (h2:=h.eO) (e:=[(4,.int .i64 (if Op.bytesLess a.toList b.toList then-1 else if a.toList==b.toList then 0 else 1))]) rfl rfl rfl ?_ rfl rfl
 generalize Op.bytesLess a.toList b.toList=B1 at *
 generalize (a.toList==b.toList)=B2 at *
 cases B1<;>cases B2<;>simp only[wR,if_true,xp]<;>simp (disch:=omega)only[go_sem,xF,AP.f314,n1,c1,c2]
theorem M9 (h:H) (e:xP) (v:AV) (hv:v.sc=true) (s:ByteArray):aU AP.A 313 [.agg (xA e v),.str s] h=some (.int .i64 (if Op.bytesLess e.name.toList s.toList then-1 else if e.name.toList==s.toList then 0 else 1),h):=by
 obtain⟨E,hE⟩:∃E,E=xA e v:=⟨_,rfl⟩
 have lE:E.length=9:=by rw[hE];rfl
 have cE:AV.aE E=true:=by rw[hE];exact yH hv
 have e0:E[0]?=some (.str e.name):=by rw[hE];rfl
 obtain⟨h1,eh1⟩:∃g,g=h.eO.alloc E:=⟨_,rfl⟩
 have g1:h1.get h.next=some E:=by rw[eh1];exact xE rfl
 have n0:h.eO.next=h.next:=rfl
 have k1:=Vs h1 e.name s
 rw[←hE]
 generalize (if Op.bytesLess e.name.toList s.toList then(-1:Int)else if e.name.toList==s.toList then 0 else 1)=V at *
 refine vP (fn:=AP.f313) (h2:=h1) (e:=[(4,.int .i64 V)]) rfl rfl rfl ?_ rfl rfl
 clear hE
 simp (disch:=omega)only[go_sem,xF,AP.f313,lE,cE,n0,←eh1,g1,e0,k1]
theorem Of {v : AV} {l : List xN} (hl : l.length ≤ 6) (h : H) (rd : yM 9 h v l.length (xG l)) (hv : ∀ x ∈ l, x.2.sc = true) (s : ByteArray) (ris : VO (l.map (·.1))) : ∀ (m i j : Nat), j - i ≤ m → i ≤ j → j ≤ l.length →
 (∀(k:Nat) (x:xP),k<i→(l.map (·.1))[k]?=some x→Op.bytesLess x.name.toList s.toList=true)→(∀(k:Nat) (x:xP),j≤k→(l.map (·.1))[k]?=some x→Op.bytesLess x.name.toList s.toList=false)→
 ∃ e' k, Lp AP.A [0, 1, 2, 8, 9, 10] AP.f312L0 [(0, v), (1, .str s), (2, .fn 313 [] []), (8, .int .i64 l.length), (9, .int .i64 i), (10, .int .i64 j)] h = some (.exit 0, e', h) ∧ look e' 0 = v ∧ look e' 1 = .str s ∧ look e' 2 = .fn 313 [] [] ∧ look e' 8 = .int .i64 l.length ∧ look e' 9 = .int .i64 (k : Nat) ∧ k ≤ l.length ∧
   (∀(q:Nat) (x:xP),q<k→(l.map (·.1))[q]?=some x→Op.bytesLess x.name.toList s.toList=true)∧(∀x:xP,(l.map (·.1))[k]?=some x→Op.bytesLess x.name.toList s.toList=false):=by
 intro m
 induction m with
 | zero =>
   intro i j hm hij hj h1 h2
   obtain rfl:i=j:=by omega
   refine⟨[(0,v),(1,.str s),(2,.fn 313 [] []),(8,.int .i64 l.length),(9,.int .i64 i),(10,.int .i64 i),(17,.bool false)],i,u6 ?_,rfl,rfl,rfl,rfl,rfl,hj,h1,fun x hx=>h2 i x (wU _) hx⟩
   clear h1 h2 ris hv rd
   simp (disch:=omega)only[go_sem,xF,AP.f312L0]
 | succ m ih =>
   intro i j hm hij hj h1 h2
   by_cases c:i=j
   · subst c
     exact ih i i (by omega) (wU _) hj h1 h2
   have lt:i<j:=by omega
   obtain⟨q,hq⟩:∃q,q=(i+j)/2:=⟨_,rfl⟩
   obtain⟨x,hx⟩:∃x,l[q]?=some x:=⟨l[q]'(by omega),by simp⟩
   have hx':(l.map (·.1))[q]?=some x.1:=by rw[xa,hx];rfl
   obtain⟨ad,a1,a2⟩:=rd.HY
   have b1:=a1 q ⟨by omega,by omega⟩
   have b2:=(a2 h (Ext.refl h) q x hx).2
   have k1:=M9 h x.1 x.2 (hv x (wX hx)) s
   have w1:IntKind.wrap .u64 ((i:Int)+j)=((i+j:Nat):Int):=by simp [IntKind.wrap,IntKind.bits,IntKind.signed];omega
   have w2:qL .shr .u64 ((i+j:Nat):Int) 1=some (.int .u64 (q:Nat)):=by
    unfold qL
    rw[if_neg (by decide),hq]
    simp [IntKind.bits,Int.fdiv_eq_ediv_of_nonneg]
   have w3:IntKind.wrap .i64 (q:Int)=q:=wi (by omega)
   have w4:((q+1:Nat):Int)=(q:Int)+1:=by omega
   by_cases cl:Op.bytesLess x.1.name.toList s.toList=true
   · rw[if_pos cl]at k1
     obtain⟨e',k,r1,r2⟩:=ih (q+1) j (by omega) (by omega) hj (fun t y ht hy=>by
      by_cases ct:t=q
      · subst ct;rw[hx']at hy;obtain rfl:=wH hy;exact cl
      · exact Cy (ris t q y x.1 (by omega) hy hx') cl) h2
     rw[w4]at r1
     refine⟨e',k,u9 ?_ r1,r2⟩
     clear h1 h2 ris hv rd r1 r2 a1 a2 hx hx' ih
     simp (disch:=omega)only[go_sem,xF,AP.f312L0,w1,w2,w3,b1,b2,k1,po]
   · have cl':Op.bytesLess x.1.name.toList s.toList=false:=by simpa using cl
     rw[if_neg cl]at k1
     obtain⟨e',k,r1,r2⟩:=ih i q (by omega) (by omega) (by omega) h1 (fun t y ht hy=>by
      by_cases ct:t=q
      · subst ct;rw[hx']at hy;obtain rfl:=wH hy;exact cl'
      · cases cy:Op.bytesLess y.name.toList s.toList with
        |false=>rfl
        |true=>exact absurd (Cy (ris q t x.1 y (by omega) hx' hy) cy) cl)
     refine⟨e',k,u9 ?_ r1,r2⟩
     have k0:(if(x.1.name.toList==s.toList)=true then(0:Int)else 1)=0∨(if(x.1.name.toList==s.toList)=true then(0:Int)else 1)=1:=by split<;>simp
     generalize (if(x.1.name.toList==s.toList)=true then(0:Int)else 1)=V at *
     have k2:¬V<0:=by omega
     clear h1 h2 ris hv rd r1 r2 a1 a2 hx hx' ih k0
     simp (disch:=omega)only[go_sem,xF,AP.f312L0,w1,w2,w3,b1,b2,k1,po,df k2]
theorem VY (h:H) (v:AV) (l:List xN) (hl:l.length≤6) (rd:yM 9 h v l.length (xG l)) (hv:∀x∈l,x.2.sc=true) (s:ByteArray) (ris:VO (l.map (·.1))):aU AP.A 312 [v,.str s,.fn 313 [] []] h=some (.bW [.int .i64 (xO s (l.map (·.1))).1,.bool (xO s (l.map (·.1))).2],h):=by
 have rdf:yM 9 h.eO v l.length (xG l):=rd.mono fun i c q=>q
 have ln:=rdf.len
 obtain⟨e',k,r1,r2,r3,r4,r5,r6,r7,r8,r9⟩:=Of hl h.eO rdf hv s ris l.length 0 l.length (by omega) (by omega) (wU _) (fun k x hk=>by omega) (fun k x hk hx=>by
  rw[List.getElem?_eq_none (by simpa using hk)]at hx;cases hx)
 have r1':Lp AP.A [0,1,2,8,9,10] AP.f312L0 [(0,v),(1,.str s),(2,.fn 313 [] []),(8,.int .i64 l.length),(9,.int .i64 0),(10,.int .i64 l.length)] h.eO=some (.exit 0,e',h.eO):=r1
 rw[IC s _ k (by simpa using r7) r8 r9]
 by_cases c:k<l.length
 · obtain⟨x,hx⟩:∃x,l[k]?=some x:=⟨l[k],by simp⟩
   have hx':(l.map (·.1))[k]?=some x.1:=by rw[xa,hx];rfl
   have nl:=r9 _ hx'
   rw[hx']
   obtain⟨ad,a1,a2⟩:=rdf.HY
   have b1:=a1 k ⟨by omega,by omega⟩
   have b2:=(a2 h.eO (Ext.refl _) k x hx).2
   have k1:=M9 h.eO x.1 x.2 (hv x (wX hx)) s
   rw[nl,if_neg (by decide)]at k1
   refine vP (fn:=AP.f312) (h2:=h.eO) (e:=[(6,.int .i64 k),(7,.bool (x.1.name.toList==s.toList))]) (vs:=[.int .i64 k,.bool (x.1.name.toList==s.toList)]) rfl rfl rfl ?_ rfl rfl
   generalize (x.1.name.toList==s.toList)=B at *
   clear rd rdf ris hv r1 r8 r9 a1 a2 hx hx' nl
   cases B
   · rw[if_neg (by decide)]at k1
     simp (disch:=omega)only[go_sem,xF,AP.f312,ln,uo,r1',r2,r3,r4,r5,r6,b1,b2,k1,po]
   · rw[if_pos rfl]at k1
     simp (disch:=omega)only[go_sem,xF,AP.f312,ln,uo,r1',r2,r3,r4,r5,r6,b1,b2,k1,po]
 · have e:(l.map (·.1))[k]?=none:=List.getElem?_eq_none (by simpa using c)
   rw[e]
   refine vP (fn:=AP.f312) (h2:=h.eO) (e:=[(6,.int .i64 k),(7,.bool false)]) (vs:=[.int .i64 k,.bool false]) rfl rfl rfl ?_ rfl rfl
   clear rd rdf ris hv r1 r8 r9 e
   simp (disch:=omega)only[go_sem,xF,AP.f312,ln,uo,r1',r2,r3,r4,r5,r6]
theorem PC (h:H) (b o:Nat) {C:List AV} (v:AV) (g:h.get b=some C) (ho:C[o]?=some v) (l:List xN) (hl:l.length≤6) (rd:yM 9 h v l.length (xG l)) (hv:∀x∈l,x.2.sc=true) (s:ByteArray) (ris:VO (l.map (·.1))):
 aU AP.A 307 [.aG b o,.str s] h=some (.bW [.int .i64 (xO s (l.map (·.1))).1,.bool (xO s (l.map (·.1))).2],h):=by
 have k1:=VY h v l hl rd hv s ris
 generalize xO s (l.map (·.1))=P at *
 refine vv (fn:=AP.f307) (h2:=h) (e:=[(4,.int .i64 P.1),(5,.bool P.2)]) (vs:=[.int .i64 P.1,.bool P.2]) rfl rfl rfl ?_ rfl
 clear rd hv ris
 simp (disch:=omega)only[go_sem,xF,AP.f307,abl,g,ho,k1]
theorem J0 {v w : AV} {a b : List Int} (hab : a.length = b.length) (hl : a.length < 1125899906842624) (h : H) (ra : Rd h v (ints a)) (rb : Rd h w (ints b)) : ∀ (q r p p' : List Int), a = p ++ q → b = p' ++ r → p.length = p'.length →
 (∃e',Lp AP.A [0,1,12,13] AP.f311L0 [(0,v),(1,w),(12,.int .i64 a.length),(13,.int .i64 p.length)] h=some (.exit 0,e',h)∧q=r)∨
 (∃e',Lp AP.A [0,1,12,13] AP.f311L0 [(0,v),(1,w),(12,.int .i64 a.length),(13,.int .i64 p.length)] h=some (.ret,e',h)∧look e' 4=.bool false∧q≠r)
 | [], r, p, p', hp, hp', hpp => by
   rw[aa2]at hp;subst hp
   have hr:r=[]:=aa7 (by rw[hp',xu]at hab;omega)
   refine .inl ⟨[(0,v),(1,w),(12,.int .i64 a.length),(13,.int .i64 a.length),(14,.bool false)],u6 ?_,hr.symm⟩
   simp (disch:=omega)only[go_sem,xF,AP.f311L0]
 | x :: q, [], p, p', hp, hp', hpp => by
   rw[hp,hp']at hab;simp at hab;omega
 | x :: q, y :: r, p, p', hp, hp', hpp => by
   have hlen:a.length=p.length+(q.length+1):=by rw[hp];simp
   obtain⟨ad,a1,a3⟩:=ra.yL
   obtain⟨bd,b1,b3⟩:=rb.yL
   have i1:=a1 p.length ⟨by omega,by omega⟩
   have i2:=a3 h (Ext.refl h) p.length x (by rw[hp];simp)
   have j1:=b1 p.length ⟨by omega,by omega⟩
   have j2:=b3 h (Ext.refl h) p.length y (by rw[hp',hpp];simp)
   have ih:=J0 hab hl h ra rb q r (p++[x]) (p'++[y]) (by rw[hp];simp) (by rw[hp'];simp) (by simp [hpp])
   have w1:(((p++[x]).length:Nat):Int)=(p.length:Int)+1:=by simp
   rw[w1]at ih
   by_cases c:x=y
   · have step:aO (aU AP.A) bH AP.f311L0 (ay [(0,v),(1,w),(12,.int .i64 a.length),(13,.int .i64 p.length)] [0,1,12,13]) h=some (.normal,[(0,v),(1,w),(12,.int .i64 a.length),(13,.int .i64 ((p.length:Int)+1))],h):=by
      clear ih ra rb a1 a3 b1 b3 hp hp'
      simp (disch:=omega)only[go_sem,xF,AP.f311L0,i1,i2,j1,j2,PQ c]
     rcases ih with ⟨e',r1,r2⟩|⟨e',r1,r2,r3⟩
     · exact .inl ⟨e',u9 step r1,by rw[c,r2]⟩
     · exact .inr ⟨e',u9 step r1,r2,fun q=>r3 (List.cons.inj q).2⟩
   · refine .inr ⟨[(4,.bool false)],vF ?_,rfl,fun q=>c (List.cons.inj q).1⟩
     clear ih ra rb a1 a3 b1 b3 hp hp'
     simp (disch:=omega)only[go_sem,xF,AP.f311L0,i1,i2,j1,j2,Vh c]
theorem Xd (h:H) (v w:AV) (a b:List Int) (ra:Rd h v (ints a)) (rb:Rd h w (ints b)) (hl:a.length<1125899906842624) (hb:b.length<1125899906842624):aU AP.A 311 [v,w] h=some (.bool (decide (a=b)),h):=by
 have la:=ra.len
 have lb:=rb.len
 rw[rk]at la lb
 simp only[I]at la lb
 have ra':Rd h.eO v (ints a):=ra.mono fun i c q=>q
 have rb':Rd h.eO w (ints b):=rb.mono fun i c q=>q
 by_cases c:a.length=b.length
 · rcases J0 c hl h.eO ra' rb' a b [] [] rfl rfl rfl with ⟨e',r1,r2⟩|⟨e',r1,r2,r3⟩
   · have r1':Lp AP.A [0,1,12,13] AP.f311L0 [(0,v),(1,w),(12,.int .i64 a.length),(13,.int .i64 0)] h.eO=some (.exit 0,e',h.eO):=r1
     rw[dt r2]
     refine vP (fn:=AP.f311) (h2:=h.eO) (e:=[(4,.bool true)]) rfl rfl rfl ?_ rfl rfl
     clear ra rb ra' rb' r1 r2
     have c':((a.length:Nat):Int)=b.length:=by omega
     simp (disch:=omega)only[go_sem,xF,AP.f311,la,lb,uo,r1',PQ c']
   · have r1':Lp AP.A [0,1,12,13] AP.f311L0 [(0,v),(1,w),(12,.int .i64 a.length),(13,.int .i64 0)] h.eO=some (.ret,e',h.eO):=r1
     rw[df r3]
     refine vP (fn:=AP.f311) (h2:=h.eO) (e:=e') (vs:=[.bool false]) rfl rfl rfl ?_ (by simp only[AP.f311,c9,oL,r2];rfl) rfl
     clear ra rb ra' rb' r1 r3
     have c':((a.length:Nat):Int)=b.length:=by omega
     simp (disch:=omega)only[go_sem,xF,AP.f311,la,lb,uo,r1',PQ c']
 · rw[df (fun q=>c (by rw[q]))]
   refine vP (fn:=AP.f311) (h2:=h.eO) (e:=[(4,.bool false)]) rfl rfl rfl ?_ rfl rfl
   clear ra rb ra' rb'
   have c':¬((a.length:Nat):Int)=b.length:=by omega
   simp (disch:=omega)only[go_sem,xF,AP.f311,la,lb,Vh c']
structure SB (B:Nat) (h:H) (o n i:Nat) (cs:List AV):Prop where
 get:h.get o=some cs
 len:cs.length=n* 2
 fl:h.floor≤o
 bo:B≤o
 el:∀k,k<n→∃(s:ByteArray) (j:Nat) (l:List Int),cs[k* 2]?=some (.str s)∧s.size≤8+(if k<i then 1 else 0)∧cs[k* 2+1]?=some (.aH j 0 4 1)∧h.get j=some (ints l)∧l.length=4∧B≤j∧j≠o∧h.floor≤j
structure SE (z f B N:Nat) (h:H) (o n i:Nat) (cs:List AV):Prop where
 get:h.get o=some cs
 len:cs.length=n* z
 fl:h.floor≤o
 bo:B≤o∧o<N
 el:∀k,k<n→∃(s:ByteArray) (j:Nat) (l:List Int),cs[k* z]?=some (.str s)∧s.size≤8+(if k<i then 1 else 0)∧cs[k* z+f]?=some (.aH j 0 4 1)∧h.get j=some (ints l)∧l.length=4∧B≤j∧j≠o∧h.floor≤j∧j<N
structure WE (B:Nat) (h:H) (v:AV) (l:List xN):Prop where
 own:x8 9 h v l.length (xG l)
 ge:∀i,v.id?=some i→B≤i
 el:∀x∈l,x.1.name.size≤8∧x.1.vec.length=4∧∃j,x.2=.aH j 0 4 1∧h.get j=some (ints x.1.vec)∧B≤j∧v.id?≠some j∧h.floor≤j
theorem WE.mono {B:Nat} {h g:H} {v:AV} {l:List xN} (w:WE B h v l) (hf:g.floor=h.floor) (hg:∀i,B≤i→i<h.next→(v.id?=some i∨∃x∈l,x.2.id?=some i)→g.get i=h.get i):WE B g v l:=
 ⟨w.own.mono hf fun i q=>hg i (w.ge i q) (w.own.lt q).2 (.inl q),w.ge,fun x hx=>by
  obtain⟨c1,c2,j,a1,a2,a3,a4,a5⟩:=w.el x hx
  exact⟨c1,c2,j,a1,by rw[hg j a3 (h.lt _ _ a2) (.inr ⟨x,hx,by rw[a1];rfl⟩)];exact a2,a3,a4,by rw[hf];exact a5⟩⟩
def WI (B:Nat) (h:H) (v:AV) (l:List Int):Prop:=v=.aS∨∃i,v=.aH i 0 l.length 1∧h.get i=some (ints l)∧h.floor≤i∧B≤i∧l.length<1000000
theorem WI.ge {B:Nat} {h:H} {v:AV} {l:List Int} (w:WI B h v l) {k:Nat} (hk:k<B):v.id?≠some k:=fun q=>by
 rcases w with rfl|⟨i,rfl,_,_,w3,_⟩
 · cases q
 · have:=wH q;omega
def WS (B:Nat) (h:H) (v:AV) (l:List ByteArray):Prop:=v=.aS∨∃i,v=.aH i 0 l.length 1∧h.get i=some (Ay l)∧h.floor≤i∧B≤i∧l.length<1000000∧∀s∈l,s.size≤1000
structure WB (B:Nat) (h:H) (v:AV) (l:List Be):Prop where
 own:x8 2 h v l.length (zH l)
 ge:∀i,v.id?=some i→B≤i
 el:∀x∈l,x.1.1.size≤8∧x.1.2.length=4∧∃j,x.2=.aH j 0 4 1∧h.get j=some (ints x.1.2)∧B≤j∧v.id?≠some j∧h.floor≤j
theorem WB.mono {B:Nat} {h g:H} {v:AV} {l:List Be} (w:WB B h v l) (hf:g.floor=h.floor) (hg:∀i,B≤i→i<h.next→(v.id?=some i∨∃x∈l,x.2.id?=some i)→g.get i=h.get i):WB B g v l:=
 ⟨w.own.mono hf fun i q=>hg i (w.ge i q) (w.own.lt q).2 (.inl q),w.ge,fun x hx=>by
  obtain⟨c1,c2,j,a1,a2,a3,a4,a5⟩:=w.el x hx
  exact⟨c1,c2,j,a1,by rw[hg j a3 (h.lt _ _ a2) (.inr ⟨x,hx,by rw[a1];rfl⟩)];exact a2,a3,a4,by rw[hf];exact a5⟩⟩
inductive WM (B:Nat) (h:H) (y:yT):Prop where
 |d (hd:WI B h y.vd y.m.y5) (e1:y.vb=.aS) (e2:y.vf=.aS) (e3:y.vn=.aS) (e4:y.ve=.aS)
 |b (hb:WI B h y.vb y.m.zA) (hf:WB B h y.vf y.fs) (hn:y.fs.length≤1000) (ap:∀i,y.vb.id?=some i→y.vf.id?≠some i∧∀x∈y.fs,x.2.id?≠some i) (e1:y.vd=.aS) (e3:y.vn=.aS) (e4:y.ve=.aS)
 |n (hn:WS B h y.vn y.m.names) (e1:y.vd=.aS) (e2:y.vb=.aS) (e3:y.vf=.aS) (e4:y.ve=.aS)
 |e (he:WE B h y.ve y.es) (hn:y.es.length≤1000) (e1:y.vd=.aS) (e2:y.vb=.aS) (e3:y.vf=.aS) (e4:y.vn=.aS)
theorem OI {m:BE} (h:¬(m.kind=0∨m.kind=1∨m.kind=2∨m.kind=3∨m.kind=4)):At m=false:=by
 unfold At
 rw[if_neg (by omega),if_neg (by omega),if_neg (by omega),if_neg (by omega),if_neg (by omega)]
theorem YD (h:H) (n:Int):aU AP.A 261 [.int .i64 n] h=some (.bool (!Bp n),h):=by
 have k1:=OE h.eO n
 refine vP (fn:=AP.f261) (h2:=h.eO) (e:=[(2,.bool (!Bp n))]) rfl rfl rfl ?_ rfl rfl
 simp (disch:=omega)only[go_sem,xF,AP.f261,k1]
def YE (v:AV):Bool:=match v with| .int .i64 n=> !Bp n|_=>false
theorem HF:∀l:List Int,(ints l).any YE= !l.all Bp
 |[]=>rfl
 |n::l=>by
  have:=HF l
  simp only[ints,aa5,List.any_cons,abE,Bool.not_and]at *
  rw[this];rfl
theorem M4 {G:H} {P:Nat} {D:List AV} {r:Int} {v4 v5 v6 v7 v8:AV} {a b c d e:Nat} (g:G.get P=some D) (d3:D[3]?=some (.int .i64 r)) (d4:D[4]?=some v4) (d5:D[5]?=some v5) (d6:D[6]?=some v6) (d7:D[7]?=some v7) (d8:D[8]?=some v8)
 (l4:jQ false v4=some (.int .i64 a)) (l5:jQ false v5=some (.int .i64 b)) (l6:jQ false v6=some (.int .i64 c)) (l7:jQ false v7=some (.int .i64 d)) (l8:jQ false v8=some (.int .i64 e)) (za:a<140737488355328) (zb:b<140737488355328) (zc:c<140737488355328) (zd:d<140737488355328) (ze:e<140737488355328) (F:Bool):
 aO (aU AP.A) bH (I9 4 AP.f233.body) [(1,.aG P 0),(3,.bool F)] G=some (.ret,[(2,.bool (F&&(decide (r=0)&&decide ((((a:Int)+b)+c+d)+e=0))))],G):=by
 cases F with
 |false=>simp (disch:=omega)only[go_sem,xF,AP.f233,CV,CW]
 | true =>
   by_cases cr:r=0
   · by_cases ct:(((a:Int)+b)+c+d)+e=0<;>simp (disch:=omega)only[go_sem,xF,AP.f233,CV,CW,g,d3,d4,d5,d6,d7,d8,l4,l5,l6,l7,l8]
   · simp (disch:=omega)only[go_sem,xF,AP.f233,CV,CW,g,d3,d4,d5,d6,d7,d8,l4,l5,l6,l7,l8]
theorem MZ {G : H} {P : Nat} {C : List AV} {s d : Int} (g : G.get P = some C) (e1 : C[1]? = some (.int .i64 s)) (e2 : C[2]? = some (.int .i64 d)) : aO (aU AP.A) bH (at_ 1 AP.f233.body) [(1, .aG P 0)] G = if (yY s && (yY d && !decide (s = d))) = true then some (.normal, [(1, .aG P 0)], G) else some (.ret, [(2, .bool false)], G) := by
 have q1:=Fs G s
 have q2:=Fs G d
 cases b1:yY s with
 | false =>
   rw[b1]at q1
   rw[aa4,if_neg (by decide)]
   simp (disch:=omega)only[go_sem,xF,AP.f233,yD,yz,g,e1,e2,q1,q2]
 | true =>
   rw[b1]at q1
   cases b2:yY d with
   | false =>
     rw[b2]at q2
     rw[aa4,aa9,if_neg (by decide)]
     simp (disch:=omega)only[go_sem,xF,AP.f233,yD,yz,g,e1,e2,q1,q2]
   | true =>
     rw[b2]at q2
     by_cases c:s=d
     · rw[dt c,Bool.not_true,aa9,aa9,if_neg (by decide)]
       simp (disch:=omega)only[go_sem,xF,AP.f233,yD,yz,g,e1,e2,q1,q2]
     · rw[df c,Bool.not_false,abm,abm,if_pos rfl]
       simp (disch:=omega)only[go_sem,xF,AP.f233,yD,yz,g,e1,e2,q1,q2]
theorem MY:AP.f233.body=.seq (at_ 0 AP.f233.body) (.seq (at_ 1 AP.f233.body) (.seq (at_ 2 AP.f233.body) (.seq (at_ 3 AP.f233.body) (I9 4 AP.f233.body)))):=rfl
theorem U9 (G:H) (x:yT) (o:B0 G x) (P:Nat) (hP:G.floor≤P) (g:G.get P=some (xz x)) (hk:x.m.kind=0):∃H2,aO (aU AP.A) bH (at_ 3 AP.f233.body) [(1,.aG P 0),(3,.bool false)] G=some (.normal,[(1,.aG P 0),(3,.bool (Bp x.m.root))],H2)∧H2.get P=some (xz {x with m:={x.m with root:=0}}):=by
 have lC:(xz x).length=9:=rfl
 have e0:(xz x)[0]?=some (.int .i64 0):=by rw[←hk];rfl
 have e3:(xz x)[3]?=some (.int .i64 x.m.root):=rfl
 have st:vR G P 3 1 [.int .i64 0] (some (xz x))=some (G.set P (xz {x with m:={x.m with root:=0}})):=by rw[wx hP (by rw[lC];omega) rfl];rfl
 refine⟨G.set P (xz {x with m:={x.m with root:=0}}), ?_,by rw[xH rfl,g];rfl⟩
 have k1:=OE G x.m.root
 clear o
 generalize xz {x with m:={x.m with root:=0}}=D at *
 generalize xz x=C at *
 simp (disch:=omega)only[go_sem,xF,AP.f233,yD,yz,g,e0,e3,st,k1]
theorem Va (G:H) (x:yT) (o:B0 G x) (P:Nat) (hP:G.floor≤P) (g:G.get P=some (xz x)) (hk:x.m.kind=1):∃H2,aO (aU AP.A) bH (at_ 3 AP.f233.body) [(1,.aG P 0),(3,.bool false)] G=some (.normal,[(1,.aG P 0),(3,.bool (decide (x.m.y5.length=8)&&x.m.y5.all Bp))],H2)∧H2.get P=some (xz {x with vd:=.aS}):=by
 have lC:(xz x).length=9:=rfl
 have e0:(xz x)[0]?=some (.int .i64 1):=by rw[←hk];rfl
 have e4:(xz x)[4]?=some (x.vd):=rfl
 have st:vR G P 4 1 [.aS] (some (xz x))=some (G.set P (xz {x with vd:=.aS})):=by rw[wx hP (by rw[lC];omega) rfl];rfl
 refine⟨G.set P (xz {x with vd:=.aS}), ?_,by rw[xH rfl,g];rfl⟩
 have ld:=o.rd.len
 rw[rk]at ld
 simp only[I]at ld
 have zd:=o.zd
 have k1:x.m.y5.length=8→aU AP.A 83 [x.vd,.fn 261 [] []] G=some (.bool (!x.m.y5.all Bp),G):=fun q=>by
  have:=CL (fv:=.fn 261 [] []) YE (fun v hv g=>by
   obtain⟨n,hn,rfl⟩:=aa6.1 hv
   rw[po];exact YD g n) (by rw[rk];omega) G o.rd
  rw[HF]at this;exact this
 clear o
 generalize xz {x with vd:=.aS}=D at *
 generalize xz x=C at *
 by_cases c0:x.m.y5.length=8
 · generalize x.m.y5.all Bp=B1 at *
   cases B1<;>simp (disch:=omega)only[go_sem,xF,AP.f233,yD,yz,g,e0,e4,st,ld,k1 c0,Bool.not_not]
 · simp (disch:=omega)only[go_sem,xF,AP.f233,yD,yz,g,e0,e4,st,ld]
theorem Vb (G:H) (x:yT) (o:B0 G x) (P:Nat) (hP:G.floor≤P) (g:G.get P=some (xz x)) (hk:x.m.kind=2):∃H2,aO (aU AP.A) bH (at_ 3 AP.f233.body) [(1,.aG P 0),(3,.bool false)] G=some (.normal,[(1,.aG P 0),(3,.bool (decide (1≤x.m.zA.length)&&(BW x.m.zA&&(yW none (x.m.xV.map (·.1))&&(decide (x.m.xV.length≤6)&&x.m.xV.all fun b=>yS b.2)))))],H2)∧H2.get P=some (xz {x with vb:=.aS,vf:=.aS}):=by
 have lC:(xz x).length=9:=rfl
 have e0:(xz x)[0]?=some (.int .i64 2):=by rw[←hk];rfl
 have e5:(xz x)[5]?=some (x.vb):=rfl
 have e6:(xz x)[6]?=some (x.vf):=rfl
 obtain⟨D1,hD1⟩:∃D,D=xz {x with vb:=.aS}:=⟨_,rfl⟩
 have lD1:D1.length=9:=by rw[hD1];rfl
 have g11:(G.set P D1).get P=some D1:=by rw[xH rfl,g];rfl
 have FO:vR G P 5 1 [.aS] (some (xz x))=some (G.set P D1):=by rw[wx hP (by rw[lC];omega) rfl,hD1];rfl
 have st:vR (G.set P D1) P 6 1 [.aS] (some D1)=some (G.set P (xz {x with vb:=.aS,vf:=.aS})):=by rw[wx (by simpa using hP) (by rw[lD1];omega) rfl,H.set_set,hD1];rfl
 refine⟨G.set P (xz {x with vb:=.aS,vf:=.aS}), ?_,by rw[xH rfl,g];rfl⟩
 have lb:=o.rb.len
 rw[rk]at lb
 simp only[I]at lb
 have zb:=o.zb
 have k1:=Mk G x.vb x.m.zA o.rb (by omega)
 have k2:=O6 G o
 have k3:=Oi G o
 clear o hD1
 generalize xz {x with vb:=.aS,vf:=.aS}=D at *
 generalize xz x=C at *
 generalize BW x.m.zA=B1 at *
 generalize yW none (x.m.xV.map (·.1))=B2 at *
 generalize decide (x.m.xV.length≤6)=B4 at *
 generalize (x.m.xV.all fun b=>yS b.2)=B3 at *
 by_cases c0:1≤x.m.zA.length
 · cases B1<;>cases B2<;>cases B4<;>cases B3<;>simp (disch:=omega)only[go_sem,xF,AP.f233,yD,yz,g,e0,e5,e6,FO,g11,st,lb,k1,k2,k3]
 · simp (disch:=omega)only[go_sem,xF,AP.f233,yD,yz,g,e0,e5,e6,FO,g11,st,lb,k1,k2,k3]
theorem Vc (G:H) (x:yT) (o:B0 G x) (P:Nat) (hP:G.floor≤P) (g:G.get P=some (xz x)) (hk:x.m.kind=3):∃H2,aO (aU AP.A) bH (at_ 3 AP.f233.body) [(1,.aG P 0),(3,.bool false)] G=some (.normal,[(1,.aG P 0),(3,.bool (yW none x.m.names&&(decide (1≤x.m.names.length)&&decide (x.m.names.length≤6))))],H2)∧H2.get P=some (xz {x with vn:=.aS}):=by
 have lC:(xz x).length=9:=rfl
 have e0:(xz x)[0]?=some (.int .i64 3):=by rw[←hk];rfl
 have e7:(xz x)[7]?=some (x.vn):=rfl
 have st:vR G P 7 1 [.aS] (some (xz x))=some (G.set P (xz {x with vn:=.aS})):=by rw[wx hP (by rw[lC];omega) rfl];rfl
 refine⟨G.set P (xz {x with vn:=.aS}), ?_,by rw[xH rfl,g];rfl⟩
 have k1:=O9 G o
 clear o
 generalize xz {x with vn:=.aS}=D at *
 generalize xz x=C at *
 generalize (yW none x.m.names&&(decide (1≤x.m.names.length)&&decide (x.m.names.length≤6)))=B1 at *
 simp (disch:=omega)only[go_sem,xF,AP.f233,yD,yz,g,e0,e7,st,k1]
theorem Vd (G:H) (x:yT) (o:B0 G x) (P:Nat) (hP:G.floor≤P) (g:G.get P=some (xz x)) (hk:x.m.kind=4):∃H2,aO (aU AP.A) bH (at_ 3 AP.f233.body) [(1,.aG P 0),(3,.bool false)] G=some (.normal,[(1,.aG P 0),(3,.bool ((yW none (x.m.yJ.map (·.name))&&(decide (1≤x.m.yJ.length)&&decide (x.m.yJ.length≤6)))&&x.m.yJ.all yi))],H2)∧H2.get P=some (xz {x with ve:=.aS}):=by
 have lC:(xz x).length=9:=rfl
 have e0:(xz x)[0]?=some (.int .i64 4):=by rw[←hk];rfl
 have e8:(xz x)[8]?=some (x.ve):=rfl
 have st:vR G P 8 1 [.aS] (some (xz x))=some (G.set P (xz {x with ve:=.aS})):=by rw[wx hP (by rw[lC];omega) rfl];rfl
 refine⟨G.set P (xz {x with ve:=.aS}), ?_,by rw[xH rfl,g];rfl⟩
 have k1:=O8 G o
 have k2:=Oj G o
 clear o
 generalize xz {x with ve:=.aS}=D at *
 generalize xz x=C at *
 generalize (yW none (x.m.yJ.map (·.name))&&(decide (1≤x.m.yJ.length)&&decide (x.m.yJ.length≤6)))=B1 at *
 generalize x.m.yJ.all yi=B2 at *
 cases B1<;>cases B2<;>simp (disch:=omega)only[go_sem,xF,AP.f233,yD,yz,g,e0,e8,st,k1,k2,Bool.not_not]
theorem Ve (G:H) (P:Nat) {C:List AV} {n:Int} (g:G.get P=some C) (e0:C[0]?=some (.int .i64 n)) (h:¬(n=0∨n=1∨n=2∨n=3∨n=4)):aO (aU AP.A) bH (at_ 3 AP.f233.body) [(1,.aG P 0),(3,.bool false)] G=some (.normal,[(1,.aG P 0),(3,.bool false)],G):=by
 simp (disch:=omega)only[go_sem,xF,AP.f233,yD,yz,g,e0]
theorem Vg (h : H) (x : yT) (o : B0 h x) : aU AP.A 233 [.agg (xz x)] h = some (.bool (BP x.m), h) := by
 obtain⟨h1,eh1⟩:∃g,g=h.eO.alloc (xz x):=⟨_,rfl⟩
 have x1:Ext h h1:=fun i c q=>by rw[eh1];exact((Ext.refl h.eO).alloc _) i c q
 have g1:h1.get h.next=some (xz x):=by rw[eh1];exact xE rfl
 have n0:h.eO.next=h.next:=rfl
 have f1:h1.floor=h.next:=by rw[eh1];simp
 have o1:=o.mono x1
 have ld:=o1.rd.len
 have lb:=o1.rb.len
 have lf:=o1.rf.rd.len
 have ln:=o1.rn.len
 have le:=o1.re.len
 rw[rk]at ld lb
 rw[zE]at ln
 rw[show x.fs.length=x.m.xV.length by rw[←o.hf];simp]at lf
 rw[show x.es.length=x.m.yJ.length by rw[←o.he];simp]at le
 have b0:aO (aU AP.A) bH (at_ 0 AP.f233.body) (params 0 [.agg (xz x)]) h.eO=some (.normal,[(1,.aG h.next 0)],h1):=by
  have cC:=Aj o
  have lC:(xz x).length=9:=rfl
  generalize xz x=C at *
  clear o o1 x1
  simp (disch:=omega)only[go_sem,xF,AP.f233,yz,lC,cC,n0,←eh1]
 have b1:=MZ g1 (s:=x.m.src) (d:=x.m.dst) rfl rfl
 have b2:aO (aU AP.A) bH (at_ 2 AP.f233.body) [(1,.aG h.next 0)] h1=some (.normal,[(1,.aG h.next 0),(3,.bool false)],h1):=by
  simp (disch:=omega)only[go_sem,xF,AP.f233,yD,yz]
 have eA:BP x.m=((yY x.m.src&&(yY x.m.dst&& !decide (x.m.src=x.m.dst)))&&(At x.m&&A9 x.m)):=rfl
 obtain ⟨hZ, hh⟩ : ∃ hZ, aO (aU AP.A) bH AP.f233.body (params 0 [.agg (xz x)]) h.eO = some (.ret, [(2, .bool (BP x.m))], hZ) := by
  rw[MY,eA]
  generalize (yY x.m.src&&(yY x.m.dst&& !decide (x.m.src=x.m.dst)))=N at *
  cases N with
  | false =>
    rw[if_neg (by decide)]at b1
    refine⟨h1, ?_⟩
    rw[aa4,ua,b0,uH,ua,b1,uI]
  | true =>
    rw[if_pos rfl]at b1
    rw[aa3]
    have go:∀{F:Bool} {H2:H} {y:yT} {a b c d e:Nat},aO (aU AP.A) bH (at_ 3 AP.f233.body) [(1,.aG h.next 0),(3,.bool false)] h1=some (.normal,[(1,.aG h.next 0),(3,.bool F)],H2)→H2.get h.next=some (xz y)→
     jQ false y.vd=some (.int .i64 a)→jQ false y.vb=some (.int .i64 b)→jQ false y.vf=some (.int .i64 c)→jQ false y.vn=some (.int .i64 d)→jQ false y.ve=some (.int .i64 e)→a<140737488355328→b<140737488355328→c<140737488355328→d<140737488355328→e<140737488355328→
     At x.m=F→(F=true→A9 x.m=(decide (y.m.root=0)&&decide ((((a:Int)+b)+c+d)+e=0)))→
     ∃hZ,aO (aU AP.A) bH (.seq (at_ 0 AP.f233.body) (.seq (at_ 1 AP.f233.body) (.seq (at_ 2 AP.f233.body) (.seq (at_ 3 AP.f233.body) (I9 4 AP.f233.body))))) (params 0 [.agg (xz x)]) h.eO=some (.ret,[(2,.bool (At x.m&&A9 x.m))],hZ):=fun {F H2 y a b c d e} k1 k2 l4 l5 l6 l7 l8 za zb zc zd ze ek el=>by
     have b4:=M4 k2 (r:=y.m.root) rfl rfl rfl rfl rfl rfl l4 l5 l6 l7 l8 za zb zc zd ze F
     refine⟨H2, ?_⟩
     rw[ua,b0,uH,ua,b1,uH,ua,b2,uH,ua,k1,uH,b4,ek]
     cases F with
     |false=>rfl
     |true=>rw[el rfl]
    by_cases hk:x.m.kind=0
    · obtain⟨H2,k1,k2⟩:=U9 h1 x o1 h.next (by omega) g1 hk
      exact go k1 k2 ld lb lf ln le o.zd o.zb o.zf o.zn o.ze (by unfold At;rw[if_pos hk]) fun _=>by rw[U2 hk];rfl
    by_cases hk:x.m.kind=1
    · obtain⟨H2,k1,k2⟩:=Va h1 x o1 h.next (by omega) g1 hk
      exact go k1 k2 (a:=0) rfl lb lf ln le (by omega) o.zb o.zf o.zn o.ze (by unfold At;rw[if_neg (by omega),if_pos hk]) fun _=>U3 hk
    by_cases hk:x.m.kind=2
    · obtain⟨H2,k1,k2⟩:=Vb h1 x o1 h.next (by omega) g1 hk
      exact go k1 k2 (b:=0) (c:=0) ld rfl rfl ln le o.zd (by omega) (by omega) o.zn o.ze (by unfold At;rw[if_neg (by omega),if_neg (by omega),if_pos hk]) fun _=>U4 hk
    by_cases hk:x.m.kind=3
    · obtain⟨H2,k1,k2⟩:=Vc h1 x o1 h.next (by omega) g1 hk
      exact go k1 k2 (d:=0) ld lb lf rfl le o.zd o.zb o.zf (by omega) o.ze (by unfold At;rw[if_neg (by omega),if_neg (by omega),if_neg (by omega),if_pos hk]) fun _=>lean_3 hk
    by_cases hk:x.m.kind=4
    · obtain⟨H2,k1,k2⟩:=Vd h1 x o1 h.next (by omega) g1 hk
      refine go k1 k2 (e:=0) ld lb lf ln rfl o.zd o.zb o.zf o.zn (by omega) ?_ fun _=>U5 hk
      unfold At
      rw[if_neg (by omega),if_neg (by omega),if_neg (by omega),if_neg (by omega),if_pos hk]
      unfold yh yK
      have:=IL x.m.yJ none
      rw[abc]at this
      generalize decide (x.m.yJ.length≤6)=W at *
      generalize decide (1≤x.m.yJ.length)=W2 at *
      cases W<;>cases W2<;>simp only[abD,aa9,aa4,aa3]<;>exact this
    have k1:=Ve h1 h.next g1 (n:=x.m.kind) rfl (by omega)
    exact go k1 g1 ld lb lf ln le o.zd o.zb o.zf o.zn o.ze (OI (by omega)) fun q=>by cases q
 exact vP (fn:=AP.f233) (h2:=hZ) (e:=[(2,.bool (BP x.m))]) rfl rfl rfl hh rfl rfl
theorem OH (h:H) (v w:AV) (a b:List Int) (ra:Rd h v (ints a)) (rb:Rd h w (ints b)) (ha:yS a=true) (hb:yS b=true) (hfn:h.floor≤h.next):∃h',aU AP.A 110 [v,w] h=some (.bW [.aH (h.next+1) 0 4 1,.int .i64 0],h')∧h'.get (h.next+1)=some (ints (yw a b))∧h'.floor=h.floor∧h'.next=h.next+2∧∀i,i<h.next→h'.get i=h.get i:=by
 have la:a.length=4:=by unfold yS at ha;simp only[wT,aa1]at ha;exact ha.1
 have lb:b.length=4:=by unfold yS at hb;simp only[wT,aa1]at hb;exact hb.1
 have k1:=KS h v a ra (by omega)
 have k2:=KS h w b rb (by omega)
 rw[ha]at k1;rw[hb]at k2
 have k3:=G6 h v a ra (by omega) (by omega) hfn
 rw[la]at k3
 obtain⟨h1,eh1⟩:∃g,g=((h.alloc []).del h.next).alloc (ints a):=⟨_,rfl⟩
 rw[←eh1]at k3
 have n1:h1.next=h.next+2:=by rw[eh1];simp
 have f1:h1.floor=h.floor:=by rw[eh1];simp
 have g1:h1.get (h.next+1)=some (ints a):=by rw[eh1];exact xE (by simp)
 have e1:Ext h h1:=fun i c q=>by
  have:=h.lt _ _ q
  rw[eh1,H.aZ,if_neg (by simp;omega),H.eS,if_neg (by omega),H.aZ,if_neg (by omega)];exact q
 have ln:=(rb.mono fun i c q=>e1 i c q).len
 rw[rk,lb]at ln
 obtain⟨adv,a1,a2⟩:=rb.yL
 obtain⟨a0,b0,c0,d0,rfl⟩:=PN la
 obtain⟨p0,p1,p2,p3,rfl⟩:=PN lb
 obtain⟨h2,eh2⟩:∃g,g=h1.set (h.next+1) (ints [yX a0 p0,b0,c0,d0]):=⟨_,rfl⟩
 obtain⟨h3,eh3⟩:∃g,g=h2.set (h.next+1) (ints [yX a0 p0,yX b0 p1,c0,d0]):=⟨_,rfl⟩
 obtain⟨h4,eh4⟩:∃g,g=h3.set (h.next+1) (ints [yX a0 p0,yX b0 p1,yX c0 p2,d0]):=⟨_,rfl⟩
 obtain⟨h5,eh5⟩:∃g,g=h4.set (h.next+1) (ints [yX a0 p0,yX b0 p1,yX c0 p2,yX d0 p3]):=⟨_,rfl⟩
 have g2:h2.get (h.next+1)=some (ints [yX a0 p0,b0,c0,d0]):=by rw[eh2,xH rfl,g1];rfl
 have g3:h3.get (h.next+1)=some (ints [yX a0 p0,yX b0 p1,c0,d0]):=by rw[eh3,xH rfl,g2];rfl
 have g4:h4.get (h.next+1)=some (ints [yX a0 p0,yX b0 p1,yX c0 p2,d0]):=by rw[eh4,xH rfl,g3];rfl
 have g5:h5.get (h.next+1)=some (ints [yX a0 p0,yX b0 p1,yX c0 p2,yX d0 p3]):=by rw[eh5,xH rfl,g4];rfl
 have e2:Ext h h2:=by rw[eh2];exact e1.set (by omega) _
 have e3:Ext h h3:=by rw[eh3];exact e2.set (by omega) _
 have e4:Ext h h4:=by rw[eh4];exact e3.set (by omega) _
 have s0:=Cx h1 (h.next+1) w adv 0 a0 p0 _ (by omega) g1 rfl rfl (by omega) (a1 0 (by simp)) (a2 h1 e1 0 _ rfl)
 have s1:=Cx h2 (h.next+1) w adv 1 b0 p1 _ (by omega) g2 rfl rfl (by rw[eh2];simp;omega) (a1 1 (by simp)) (a2 h2 e2 1 _ rfl)
 have s2:=Cx h3 (h.next+1) w adv 2 c0 p2 _ (by omega) g3 rfl rfl (by rw[eh3,eh2];simp;omega) (a1 2 (by simp)) (a2 h3 e3 2 _ rfl)
 have s3:=Cx h4 (h.next+1) w adv 3 d0 p3 _ (by omega) g4 rfl rfl (by rw[eh4,eh3,eh2];simp;omega) (a1 3 (by simp)) (a2 h4 e4 3 _ rfl)
 have st0:h1.set (h.next+1) ((ints [a0,b0,c0,d0]).set 0 (.int .i64 (yX a0 p0)))=h2:=eh2.symm
 have FO:h2.set (h.next+1) ((ints [yX a0 p0,b0,c0,d0]).set 1 (.int .i64 (yX b0 p1)))=h3:=eh3.symm
 have st2:h3.set (h.next+1) ((ints [yX a0 p0,yX b0 p1,c0,d0]).set 2 (.int .i64 (yX c0 p2)))=h4:=eh4.symm
 have st3:h4.set (h.next+1) ((ints [yX a0 p0,yX b0 p1,yX c0 p2,d0]).set 3 (.int .i64 (yX d0 p3)))=h5:=eh5.symm
 rw[st0]at s0;rw[FO]at s1;rw[st2]at s2;rw[st3]at s3
 have fin:Lp AP.A [6,19,20,21] AP.f110L0 [(6,.aH (h.next+1) 0 4 1),(19,w),(20,.int .i64 4),(21,.int .i64 4)] h5=some (.exit 0,[(6,.aH (h.next+1) 0 4 1),(19,w),(20,.int .i64 4),(21,.int .i64 4),(22,.bool false)],h5):=by
  refine u6 ?_
  simp (disch:=omega)only[go_sem,xF,AP.f110L0]
 have lp:Lp AP.A [6,19,20,21] AP.f110L0 [(6,.aH (h.next+1) 0 4 1),(19,w),(20,.int .i64 4),(21,.int .i64 0)] h1=some (.exit 0,[(6,.aH (h.next+1) 0 4 1),(19,w),(20,.int .i64 4),(21,.int .i64 4),(22,.bool false)],h5):=
  u9 s0 (u9 s1 (u9 s2 (u9 s3 fin)))
 simp only[I]at ln
 have ln':jQ false w=some (.int .i64 4):=ln
 refine⟨h5,vv (fn:=AP.f110) (h2:=h5) (e:=[(4,.aH (h.next+1) 0 4 1),(5,.int .i64 0)]) (vs:=[.aH (h.next+1) 0 4 1,.int .i64 0]) rfl rfl rfl ?_ rfl,g5,by rw[eh5,eh4,eh3,eh2];simp [f1],by rw[eh5,eh4,eh3,eh2];simp [n1],fun i hi=>by rw[eh5,xC (by omega),eh4,xC (by omega),eh3,xC (by omega),eh2,xC (by omega),eh1,H.aZ,if_neg (by simp;omega),H.eS,if_neg (by omega),H.aZ,if_neg (by omega)]⟩
 clear a1 a2 e1 e2 e3 e4 s0 s1 s2 s3 ra rb fin ha hb
 simp (disch:=omega)only[go_sem,xF,AP.f110,k1,k2,k3,ln',uo,lp]
end Ab
