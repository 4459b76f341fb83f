/- Part C4. -/
import Derived.Test.YtlnpoabdcheleaaGreatDoorC3
set_option linter.unusedSimpArgs false
set_option linter.unusedVariables false
set_option maxRecDepth 100000
namespace Ab
open Go
structure FS where
 W:List Int
 U:List Int
 F:List Bool
def FS.add (s:FS) (x:Int):FS:=⟨s.W++[x],s.U++[-1],s.F++[true]⟩
def FS.a (s:FS):Nat:=zP s.W s.F
def FS.F1 (s:FS):List Bool:=s.F.set s.a false
def FS.b (s:FS):Nat:=zP s.W s.F1
def FS.F2 (s:FS):List Bool:=s.F1.set s.b false
def FS.sum (s:FS):Int:=s.W.getD s.a 0+s.W.getD s.b 0
def FS.Nk (s:FS):FS:=FS.add ⟨s.W,(s.U.set s.a s.U.length).set s.b s.U.length,s.F2⟩ s.sum
structure FS.ok (s:FS):Prop where
 lu:s.U.length=s.W.length
 lf:s.F.length=s.W.length
 l1:0≤Ae s.W s.F s.W.length 0 (-1)
 l2:0≤Ae s.W s.F1 s.W.length 0 (-1)
 sm:0≤s.sum∧s.sum<1000000000000000
abbrev FS.C (s:FS):List (List AV):=UB s.W s.U s.F
theorem JO {W:List Int} {F:List Bool} (h:0≤Ae W F W.length 0 (-1)):zP W F<W.length:=by
 have rg:=E5 (W:=W) (F:=F) (n:=W.length) W.length 0 (-1) (by omega) (.inl rfl)
 unfold zP;omega
theorem AJ (l:List Int) (i:Nat) (x:Int):(ints l).set i (.int .i64 x)=ints (l.set i x):=by simp [ints,List.map_set,I]
theorem Yg {h:H} {f:Nat} {s:FS} {wv uv fv:AV} {N:Nat} {x:AV} {i:Nat} (r:Ro h f [wv,uv,fv] s.C) (ok:s.ok) (hn:s.W.length<10000) (ln:jZ false x=some (.int .i64 N)) (hi:i<N) (hN:N<100000):
 ∃h' wv' uv' fv',aP (aV AP.A) bL AP.f56L2 (aC [(0,x),(3,.aH f 0),(5,.int .i64 i)] [0,3,5]) h=some (.normal,[(0,x),(3,.aH f 0),(5,.int .i64 (i+1:Nat))],h')∧Ro h' f [wv',uv',fv'] s.Nk.C∧Lo h h':=by
 obtain⟨lu,lf,l1,l2,sm⟩:=ok
 have la:=JO l1
 have lb:=JO l2
 change s.a<s.W.length at la
 change s.b<s.W.length at lb
 obtain⟨h1,k1,r1,o1⟩:=Mb r lf (by omega) l1
 obtain⟨h2,k2,r2,o2⟩:=Mb r1 (by rw[ac0];exact lf) (by omega) l2
 change aV AP.A 71 [.aH f 0] h=some (.int .i64 (s.a:Nat),h1)at k1
 change aV AP.A 71 [.aH f 0] h1=some (.int .i64 (s.b:Nat),h2)at k2
 obtain⟨iw,p1,p2,p3,p4,p5,_⟩:=r2.put 0 s.a (v:=wv) (c:=ints s.W) rfl rfl (.int .i64 0) rfl (by rw[rY];exact la)
 obtain⟨iu,q1,q2,q3,q4,q5,r3,o3⟩:=r2.put 1 s.a (v:=uv) (c:=ints s.U) rfl rfl (.int .i64 s.U.length) rfl (by rw[rY];omega)
 rw[AJ]at r3 o3
 obtain⟨h3,eh3⟩:∃g,g=h2.set iu (ints (s.U.set s.a s.U.length)):=⟨_,rfl⟩
 rw[←eh3]at r3 o3
 obtain⟨iu2,q1',q2',q3',q4',q5',r4,o4⟩:=r3.put 1 s.b (v:=uv) (c:=ints (s.U.set s.a s.U.length)) rfl rfl (.int .i64 s.U.length) rfl (by rw[rY,ac0];omega)
 rw[AJ]at r4 o4
 have:iu2=iu:=by rw[q1]at q1';injection q1' with a _ _ _;exact a.symm
 subst this
 obtain⟨h4,eh4⟩:∃g,g=h3.set iu2 (ints ((s.U.set s.a s.U.length).set s.b s.U.length)):=⟨_,rfl⟩
 rw[←eh4]at r4 o4
 obtain⟨h5,wv',uv',fv',k5,r5,o5⟩:=Rj r4 s.sum (by
  refine⟨by omega,by rw[ac0,ac0];omega,by rw[ac0,ac0];omega⟩)
 refine⟨h5,wv',uv',fv', ?_,r5,o1.trans (o2.trans (o3.trans (o4.trans o5)))⟩
 have hwu:iw≠iu2:=by
  intro e
  exact p5 1 uv (by omega) rfl (by rw[q1,e];rfl)
 have gf2:=r2.get
 have gf3:=r3.get
 have gf4:=r4.get
 have gw4:h4.get iw=some (ints s.W):=by rw[eh4,yE hwu,eh3,yE hwu,p2]
 rw[p1,q1]at gf2 gf3 gf4
 rw[rY]at gf2 gf3 gf4
 rw[rY]at gf2 gf3 gf4
 have n1:((i+1:Nat):Int)=(i:Int)+1:=by omega
 have luI:=rY s.U
 have lwI:=rY s.W
 have lsI:=rY (s.U.set s.a s.U.length)
 rw[ac0]at lsI
 have e1:=AJ s.U s.a s.U.length
 have e2:=AJ (s.U.set s.a s.U.length) s.b s.U.length
 have ga:(ints s.W)[s.a]?=some (.int .i64 (s.W.getD s.a 0)):=vG (by rw[acM,acQ la];rfl)
 have gb:(ints s.W)[s.b]?=some (.int .i64 (s.W.getD s.b 0)):=vG (by rw[acM,acQ lb];rfl)
 have es:s.W.getD s.a 0+s.W.getD s.b 0=s.sum:=rfl
 clear r r1 r2 r3 r4 r5 o1 o2 o3 o4 o5 p5 q5 q5' l1 l2 p1 q1 q1'
 rw[n1]
 generalize ints ((s.U.set s.a s.U.length).set s.b s.U.length)=U2 at *
 generalize ints (s.U.set s.a s.U.length)=U1 at *
 generalize ints s.U=U0 at *
 generalize ints s.W=W0 at *
 generalize s.W.getD s.a 0=wa at *
 generalize s.W.getD s.b 0=wb0 at *
 generalize s.sum=S at *
 generalize s.a=a at *
 generalize s.b=b at *
 generalize s.U.length=ul at *
 generalize s.W.length=wl at *
 subst lu
 simp (disch:=omega)only[go_sem,yH,AP.f56L2,ln,k1,k2,gf2,gf3,gf4,q2,q2',gw4,luI,lwI,lsI,ga,gb,e1,e2,es,←eh3,←eh4,k5]
def FS.Cv:Nat→FS→FS
 |0,s=>s
 |n+1,s=>FS.Cv n s.Nk
theorem FS.OY (s:FS):s.Nk.W.length=s.W.length+1:=by simp [FS.Nk,FS.add]
theorem FS.Ee:∀(n:Nat) (s:FS),(FS.Cv n s).W.length=s.W.length+n
 |0,s=>rfl
 |n+1,s=>by rw[FS.Cv,FS.Ee n,FS.OY];omega
theorem JF {f:Nat} {N:Nat} {x:AV} (hN:N<1000):∀(m i:Nat) (s:FS) (h:H) (wv uv fv:AV),i+m=N→Ro h f [wv,uv,fv] s.C→(∀k,k<m→(FS.Cv k s).ok)→s.W.length+m<10000→jZ false x=some (.int .i64 N)→
 ∃h' wv' uv' fv',Lp AP.A [0,3,5] AP.f56L2 [(0,x),(3,.aH f 0),(5,.int .i64 i)] h=some (.exit 2,[(0,x),(3,.aH f 0),(5,.int .i64 N),(29,.bool false)],h')∧Ro h' f [wv',uv',fv'] (FS.Cv m s).C∧Lo h h'
 | 0, i, s, h, wv, uv, fv, hi, r, ok, hl, ln => by
   obtain rfl:i=N:=by omega
   refine⟨h,wv,uv,fv,vW ?_,r,Lo.refl h⟩
   simp (disch:=omega)only[go_sem,yH,AP.f56L2,ln]
 | m + 1, i, s, h, wv, uv, fv, hi, r, ok, hl, ln => by
   obtain⟨h1,w1,u1,f1,k1,r1,o1⟩:=Yg r (ok 0 (by omega)) (by omega) ln (show i<N by omega) (by omega)
   obtain⟨h',w',u',f',k2,r2,o2⟩:=JF hN m (i+1) s.Nk h1 w1 u1 f1 (by omega) r1 (fun k hk=>ok (k+1) (by omega)) (by rw[FS.OY];omega) ln
   exact⟨h',w',u',f',vX k1 k2,r2,o1.trans o2⟩
def DQ (ws:List Int):FS:=⟨ws,List.replicate ws.length (-1),List.replicate ws.length true⟩
theorem RA (p:List Int) (x:Int):DQ (p++[x])=(DQ p).add x:=by
 unfold DQ FS.add
 simp only[yy,List.length_singleton,List.replicate_succ']
theorem JA {f:Nat} {x:AV} {ws:List Int} (hn:ws.length<1000) (h0:H) (rd:Rd h0 x (ints ws)):∀(q p:List Int) (h:H) (wv uv fv:AV),ws=p++q→Ext h0 h→h.floor=h0.next→Ro h f [wv,uv,fv] (DQ p).C→
 ∃h' wv' uv' fv',Lp AP.A [0,3,4] AP.f56L3 [(0,x),(3,.aH f 0),(4,.int .i64 p.length)] h=some (.exit 0,[(0,x),(3,.aH f 0),(4,.int .i64 ws.length),(17,.bool false)],h')∧Ro h' f [wv',uv',fv'] (DQ ws).C∧Lo h h'
 | [], p, h, wv, uv, fv, hp, hx, hf, r => by
   rw[acU]at hp;subst hp
   have ln:=rd.len
   rw[rY]at ln
   simp only[I]at ln
   refine⟨h,wv,uv,fv,vW ?_,r,Lo.refl h⟩
   simp (disch:=omega)only[go_sem,yH,AP.f56L3,ln]
 | y :: q, p, h, wv, uv, fv, hp, hx, hf, r => by
   have ln:=rd.len
   rw[rY]at ln
   simp only[I]at ln
   have hl:ws.length=p.length+(q.length+1):=by rw[hp];simp
   obtain⟨ad,a1,a2⟩:=rd.zL
   have b1:=a1 p.length ⟨by omega,by omega⟩
   have b2:=a2 h hx p.length y (by rw[hp];simp)
   obtain⟨h1,w1,u1,f1,k1,r1,o1⟩:=Rj r y (by simp [DQ];omega)
   have r1':Ro h1 f [w1,u1,f1] (DQ (p++[y])).C:=by rw[RA];exact r1
   obtain⟨h',w',u',f',k2,r2,o2⟩:=JA hn h0 rd q (p++[y]) h1 w1 u1 f1 (by rw[hp];simp) (hx.lo o1 hf) (by rw[o1.floor,hf]) r1'
   have n1:(((p++[y]).length:Nat):Int)=(p.length:Int)+1:=by simp
   refine⟨h',w',u',f',vX ?_ k2,r2,o1.trans o2⟩
   rw[n1]
   clear r r1 r1' k2 r2 o1 o2 hx rd a1 a2
   simp (disch:=omega)only[go_sem,yH,AP.f56L3,ln,b1,b2,k1]
def DB (U:List Int):Nat→Int→Nat
 |0,_=>0
 |m+1,j=>if 0≤j then DB U m (U.getD j.toNat (-1))+1 else 0
def Jm (U:List Int):Prop:=∀j:Nat,j<U.length→U.getD j (-1)= -1∨((j:Int)<U.getD j (-1)∧U.getD j (-1)<U.length)
theorem Ku {h:H} {f iu n:Nat} {wv fv x ov:AV} {U:List Int} {i:Nat} (gf:h.get f=some [wv,.aI iu 0 n 1,fv]) (gu:h.get iu=some (ints U)) (hU:U.length=n) (hn:n<10000) (ok:Jm U):∀(m:Nat) (j:Int) (k:Nat),(j= -1∨(0≤j∧j<n))→(0≤j→(n:Int)≤j+m)→k+m<100000→
 ∃j',Lp AP.A [0,3,8,9,10,11] AP.f56L0 [(0,x),(3,.aH f 0),(8,ov),(9,.int .i64 i),(10,.int .i64 k),(11,.int .i64 j)] h=some (.exit 6,[(0,x),(3,.aH f 0),(8,ov),(9,.int .i64 i),(10,.int .i64 (k+DB U m j:Nat)),(11,.int .i64 j'),(89,.bool false)],h)
 | 0, j, k, hj, hm, hk => by
   obtain rfl:j= -1:=by omega
   refine⟨-1,vW ?_⟩
   rw[DB]
   simp (disch:=omega)only[go_sem,yH,AP.f56L0]
 | m + 1, j, k, hj, hm, hk => by
   by_cases c:0≤j
   · obtain⟨q,rfl⟩:=acS c
     have hq:q<n:=by omega
     have o:=ok q (by omega)
     have lu:(ints U).length=n:=by rw[rY,hU]
     have gq:(ints U)[q]?=some (.int .i64 (U.getD q (-1))):=vG (by rw[acM,acQ (by omega)];rfl)
     rw[hU]at o
     obtain⟨j',r1⟩:=Ku (x:=x) (ov:=ov) (i:=i) gf gu hU hn ok m (U.getD q (-1)) (k+1) (by omega) (by omega) (by omega)
     have n1:((k+1:Nat):Int)=(k:Int)+1:=by omega
     have tq:((q:Nat):Int).toNat=q:=by omega
     rw[DB,if_pos c,tq]
     rw[show k+(DB U m (U.getD q (-1))+1)=k+1+DB U m (U.getD q (-1))by omega]
     refine⟨j',vX ?_ r1⟩
     rw[n1]
     clear r1 o ok
     generalize U.getD q (-1)=y at *
     generalize ints U=IU at *
     simp (disch:=omega)only[go_sem,yH,AP.f56L0,gf,gu,lu,gq]
   · rw[DB,if_neg c]
     refine⟨j,vW ?_⟩
     simp (disch:=omega)only[go_sem,yH,AP.f56L0]
def GB (U:List Int) (n:Nat):List Int:=(List.range n).map fun i=>((DB U U.length (U.getD i (-1)):Nat):Int)
theorem PR (U:List Int) (n:Nat):GB U (n+1)=GB U n++[((DB U U.length (U.getD n (-1)):Nat):Int)]:=by simp [GB,List.range_succ]
theorem Q5 (U:List Int) (n:Nat):(GB U n).length=n:=by simp [GB]
theorem LP {f iu n N:Nat} {wv fv x:AV} {U:List Int} (hU:U.length=n) (hn:n<10000) (ok:Jm U) (hN:N≤n) (ln:jZ false x=some (.int .i64 N)) (B:Nat):∀(m i:Nat) (h:H) (ov:AV),i+m=N→h.get f=some [wv,.aI iu 0 n 1,fv]→h.get iu=some (ints U)→f<B→iu<B→B≤h.next→yS 1 h ov i (ints (GB U i))→h.floor≤h.next→(∀j,ov.id?=some j→B≤j)→
 ∃h' ov',Lp AP.A [0,3,8,9] AP.f56L1 [(0,x),(3,.aH f 0),(8,ov),(9,.int .i64 i)] h=some (.exit 4,[(0,x),(3,.aH f 0),(8,ov'),(9,.int .i64 N),(78,.bool false)],h')∧yS 1 h' ov' N (ints (GB U N))∧h'.floor=h.floor
 | 0, i, h, ov, hi, gf, gu, hf, hiu, hB, ow, hfl, hov => by
   obtain rfl:i=N:=by omega
   refine⟨h,ov,vW ?_,ow,rfl⟩
   simp (disch:=omega)only[go_sem,yH,AP.f56L1,ln]
 | m + 1, i, h, ov, hi, gf, gu, hf, hiu, hB, ow, hfl, hov => by
   have o:=ok i (by omega)
   rw[hU]at o
   have lu:(ints U).length=n:=by rw[rY,hU]
   have gq:(ints U)[i]?=some (.int .i64 (U.getD i (-1))):=vG (by rw[acM,acQ (by omega)];rfl)
   obtain⟨j',L⟩:=Ku (x:=x) (ov:=ov) (i:=i) gf gu hU hn ok n (U.getD i (-1)) 0 (by omega) (by omega) (by omega)
   rw[xW]at L
   obtain⟨v',h1,p1,p2,p3,p4,p5,p6⟩:=ow.push hfl (z:=8) (m:=1) (by omega) (by omega) [.int .i64 (DB U n (U.getD i (-1)):Nat)] rfl rfl (A9 (by omega))
   have e:=PR U i
   rw[hU]at e
   have ow2:yS 1 h1 v' (i+1) (ints (GB U (i+1))):=by rw[e,rX];exact p2
   obtain⟨h',ov',r1,r2,r3⟩:=LP hU hn ok hN ln B m (i+1) h1 v' (by omega) (by rw[p5 f (fun q=>by have:=hov f q;omega) (by omega),gf]) (by rw[p5 iu (fun q=>by have:=hov iu q;omega) (by omega),gu]) hf hiu (by omega) ow2 (by omega) (fun j hj=>by rw[p6]at hj;have:=xF hj;omega)
   have n1:((i+1:Nat):Int)=(i:Int)+1:=by omega
   have L':Lp AP.A [0,3,8,9,10,11] AP.f56L0 [(0,x),(3,.aH f 0),(8,ov),(9,.int .i64 i),(10,.int .i64 0),(11,.int .i64 (U.getD i (-1)))] h=_:=L
   refine⟨h',ov',vX ?_ r1,r2,by omega⟩
   rw[n1]
   clear r1 r2 r3 ow2 e p2 p5 p6 ok o L hov ow
   generalize DB U n (U.getD i (-1))=K at *
   generalize U.getD i (-1)=y at *
   generalize ints U=IU at *
   simp (disch:=omega)only[go_sem,yH,AP.f56L1,ln,gf,gu,lu,gq,u9,L',p1]
def yX (ws:List Int):List Int:=GB (FS.Cv (ws.length-1) (DQ ws)).U ws.length
theorem Q6 (h : H) (x : AV) (ws : List Int) (h2 : 1 ≤ ws.length) (hn : ws.length < 1000) (rd : Rd h x (ints ws)) (ok : ∀ k, k < ws.length - 1 → (FS.Cv k (DQ ws)).ok) (up : Jm (FS.Cv (ws.length - 1) (DQ ws)).U) (lu : (FS.Cv (ws.length - 1) (DQ ws)).U.length = (FS.Cv (ws.length - 1) (DQ ws)).W.length) :
 aV AP.A 56 [x] h=some (CD 1 ws.length (ints (yX ws)),h):=by
 have Aq:Rd h.eV x (ints ws):=rd.mono (yQ h)
 have ln:=rd.len
 rw[rY]at ln
 simp only[I]at ln
 obtain⟨h1,eh1⟩:∃g,g=h.eV.alloc [.aT,.aT,.aT]:=⟨_,rfl⟩
 have g1:h1.get h.next=some [.aT,.aT,.aT]:=by rw[eh1,yG (by simp)]
 have r0:Ro h1 h.next [.aT,.aT,.aT] (DQ []).C:=by
  have nl:∀(i:Nat) (v:AV),([.aT,.aT,.aT]:List AV)[i]?=some v→v=.aT:=by
   intro i v hv
   have:=xV hv
   simp at this;exact this
  refine⟨g1, ?_,rfl, ?_, ?_,by rw[eh1];simp,by rw[eh1];simp⟩
  · intro i v c hv hc
    have:=nl i v hv
    subst this
    have hc':c=[]:=by
     have:=xV hc
     simp [DQ,ints,Jt]at this;exact this
    subst hc'
    exact yS.nil
  · intro i v hv;rw[nl i v hv];simp [AV.id?]
  · intro i j v u _ hv _ id hid;rw[nl i v hv]at hid;simp [AV.id?]at hid
 obtain⟨h2',w2,u2,f2,k2,r2,o2⟩:=JA hn h.eV Aq ws [] h1 .aT .aT .aT rfl (by rw[eh1];exact(Ext.refl _).alloc _) (by rw[eh1];simp) r0
 have k2':Lp AP.A [0,3,4] AP.f56L3 [(0,x),(3,.aH h.next 0),(4,.int .i64 0)] h1=_:=k2
 obtain⟨h3,w3,u3,f3,k3,r3,o3⟩:=JF (N:=ws.length) (x:=x) hn (ws.length-1) 1 (DQ ws) h2' w2 u2 f2 (by omega) r2 ok (by simp [DQ];omega) ln
 have k3':Lp AP.A [0,3,5] AP.f56L2 [(0,x),(3,.aH h.next 0),(5,.int .i64 1)] h2'=_:=k3
 unfold yX
 have wl:=FS.Ee (ws.length-1) (DQ ws)
 have wl0:(DQ ws).W.length=ws.length:=rfl
 generalize hS:FS.Cv (ws.length-1) (DQ ws)=S at *
 obtain⟨iu,q1,q2,q3,q4,q5,_⟩:=r3.put 1 0 (v:=u3) (c:=ints S.U) rfl rfl (.int .i64 0) rfl (by rw[rY];omega)
 rw[rY]at q1
 have gf:=r3.get
 rw[q1]at gf
 obtain⟨h4,o4,k4,ow4,fl4⟩:=LP (x:=x) (N:=ws.length) (f:=h.next) (iu:=iu) (wv:=w3) (fv:=f3) (n:=S.U.length) (U:=S.U) rfl (by omega) up (by omega) ln h3.next ws.length 0 h3 .aT (by omega) gf q2 (h3.lt _ _ gf) (h3.lt _ _ q2) (xQ _) yS.nil r3.QG (fun j hj=>by simp [AV.id?]at hj)
 have k4':Lp AP.A [0,3,8,9] AP.f56L1 [(0,x),(3,.aH h.next 0),(8,.aT),(9,.int .i64 0)] h3=_:=k4
 have hnx:h.eV.next=h.next:=rfl
 have fl:h4.floor=h.next:=by rw[fl4,o3.floor,o2.floor,eh1];simp
 refine wN (fn:=AP.f56) (h2:=h4) (e:=[(2,o4)]) (vs:=[o4]) rfl rfl rfl ?_ rfl ?_
 · clear k2 k3 k4 r0 r2 r3 ow4 rd Aq ok up o2 o3 q5
   simp (disch:=omega)only[go_sem,yH,AP.f56,hnx,←eh1,u9,k2',k3',k4']
 · exact ow4.Ap (fl:=h.next) (m:=14) (t:=true) (by omega)
def Fo (u v:AV):Prop:=∀j,u.id?=some j→v.id?≠some j
theorem Fo.symm {u v:AV} (a:Fo u v):Fo v u:=fun j h q=>a j q h
def zR:Nat→List Int→List Int
 |_,[]=>[]
 |i,c::r=>if 0<c then(i:Int)::zR (i+1) r else zR (i+1) r
def CV:List Int→List Int
 |[]=>[]
 |c::r=>if 0<c then c::CV r else CV r
theorem yS.Aq {h:H} {v:AV} {cs:List AV} (o:yS 1 h v cs.length cs):Rd h v cs:=⟨o.rd.1,o.rd.2.2⟩
theorem yS.UK {h:H} {v:AV} {l:List Int} (o:yS 1 h v l.length (ints l)):Rd h v (ints l):=by
 refine yS.Aq ?_
 rw[rY];exact o
theorem Ir {x mv : AV} {C : List Int} (hC : C.length < 1000) (hr : ∀ y ∈ C, 0 ≤ y ∧ y ≤ 2147483647) (h0 : H) (rd : Rd h0 x (ints C)) : ∀ (q p S W : List Int) (h : H) (sv wv : AV), C = p ++ q → Ext h0 h → h.floor = h0.next → h.floor ≤ h.next → yS 1 h sv S.length (ints S) → yS 1 h wv W.length (ints W) → Fo sv wv → S.length ≤ p.length → W.length ≤ p.length →
 ∃h' sv' wv',Lp AP.A [0,1,6,7,8] AP.f30L3 [(0,x),(1,mv),(6,sv),(7,wv),(8,.int .i64 p.length)] h=some (.exit 0,[(0,x),(1,mv),(6,sv'),(7,wv'),(8,.int .i64 C.length),(33,.bool false)],h')∧yS 1 h' sv' (S++zR p.length q).length (ints (S++zR p.length q))∧yS 1 h' wv' (W++CV q).length (ints (W++CV q))∧Fo sv' wv'∧h'.floor=h.floor∧h'.floor≤h'.next
 | [], p, S, W, h, sv, wv, hp, hx, hf, hfl, os, ow, ap, hS, hW => by
   rw[acU]at hp;subst hp
   have ln:=rd.len
   rw[rY]at ln
   simp only[I]at ln
   refine⟨h,sv,wv,vW ?_,by simpa [zR]using os,by simpa [CV]using ow,ap,rfl,hfl⟩
   simp (disch:=omega)only[go_sem,yH,AP.f30L3,ln]
 | y :: q, p, S, W, h, sv, wv, hp, hx, hf, hfl, os, ow, ap, hS, hW => by
   have ln:=rd.len
   rw[rY]at ln
   simp only[I]at ln
   have hl:C.length=p.length+(q.length+1):=by rw[hp];simp
   obtain⟨ad,a1,a2⟩:=rd.zL
   have b1:=a1 p.length ⟨by omega,by omega⟩
   have hyC:C[p.length]?=some y:=by rw[hp];simp
   have b2:=a2 h hx p.length y hyC
   have yr:=hr y (xV hyC)
   have n1:(((p++[y]).length:Nat):Int)=(p.length:Int)+1:=by simp
   have n2:(p++[y]).length=p.length+1:=by simp
   by_cases c:0<y
   · obtain⟨v1,h1,p1,p2,p3,p4,p5,p6⟩:=os.push hfl (z:=8) (m:=1) (by omega) (by omega) [.int .i64 p.length] rfl rfl (A9 (by omega))
     have ow1:yS 1 h1 wv W.length (ints W):=ow.mono p3 fun j hj=>p5 j (fun e=>ap j e hj) (ow.lt hj).2
     have hx1:Ext h0 h1:=fun i d hi=>by
      have:=h0.lt _ _ hi
      rw[p5 i (fun e=>by have:=(os.lt e).1;omega) (by omega),hx i d hi]
     have b3:=a2 h1 hx1 p.length y hyC
     obtain⟨v2,h2,q1,q2,q3,q4,q5,q6⟩:=ow1.push (by omega) (z:=8) (m:=1) (by omega) (by omega) [.int .i64 y] rfl rfl (A9 (by omega))
     have hx2:Ext h0 h2:=fun i d hi=>by
      have:=h0.lt _ _ hi
      rw[q5 i (fun e=>by have:=(ow1.lt e).1;omega) (by omega),hx1 i d hi]
     have os2:yS 1 h2 v1 (S++[(p.length:Int)]).length (ints (S++[(p.length:Int)])):=by
      rw[rX,yy]
      exact p2.mono (by omega) fun j hj=>q5 j (fun e=>by rw[p6]at hj;have:=xF hj;have:=(ow.lt e).2;omega) (p2.lt hj).2
     have ow2:yS 1 h2 v2 (W++[y]).length (ints (W++[y])):=by rw[rX,yy];exact q2
     obtain⟨h',sv',wv',r1,r2,r3,r4,r5,r6⟩:=Ir hC hr h0 rd q (p++[y]) (S++[(p.length:Int)]) (W++[y]) h2 v1 v2 (by rw[hp];simp) hx2 (by omega) (by omega) os2 ow2 (fun j hj e=>by rw[p6]at hj;rw[q6]at e;have:=xF hj;have:=xF e;omega) (by simp;omega) (by simp;omega)
     rw[zR,if_pos c,CV,if_pos c]
     rw[n2,acY]at r2
     rw[acY]at r3
     refine⟨h',sv',wv',vX ?_ r1,r2,r3,r4,by omega,r6⟩
     rw[n1]
     clear r1 r2 r3 r4 os ow os2 ow2 ow1 hx hx1 hx2 rd a1 a2 hr p2 p5 q2 q5 ap
     simp (disch:=omega)only[go_sem,yH,AP.f30L3,ln,b1,b2,b3,p1,q1]
   · obtain⟨h',sv',wv',r1,r2,r3,r4,r5,r6⟩:=Ir hC hr h0 rd q (p++[y]) S W h sv wv (by rw[hp];simp) hx hf hfl os ow ap (by simp;omega) (by simp;omega)
     rw[zR,if_neg c,CV,if_neg c]
     rw[n2]at r2
     refine⟨h',sv',wv',vX ?_ r1,r2,r3,r4,by omega,r6⟩
     rw[n1]
     clear r1 r2 r3 r4 os ow hx rd a1 a2 hr ap
     simp (disch:=omega)only[go_sem,yH,AP.f30L3,ln,b1,b2]
def zH:List Int→List Int→List Int→List Int
 |s::ss,d::ds,o=>zH ss ds (o.set s.toNat d)
 |_,_,o=>o
theorem AF:∀(ss ds o:List Int),(zH ss ds o).length=o.length
 |[],_,o=>by simp [zH]
 |s::ss,[],o=>by simp [zH]
 |s::ss,d::ds,o=>by rw[zH,AF ss ds,ac0]
def DX:List Int→Int→Int
 |[],m=>m
 |d::ds,m=>DX ds (KS m d)
theorem Ext.K6 {hb h:H} {o:Nat} (x:Ext hb h) (hn:hb.get o=none) (c:List AV):Ext hb (h.set o c):=fun i d q=>by
 have:i≠o:=fun e=>by rw[e,hn]at q;cases q
 rw[yE this,x i d q]
theorem JY {mv wv dv sv:AV} {S D:List Int} {n oid:Nat} (hS:S.length<1000) (hDS:D.length=S.length) (hn:n<1000) (hr:∀s∈S,0≤s∧s<n) (hb:H) (rds:Rd hb sv (ints S)) (rdd:Rd hb dv (ints D)) (hno:hb.get oid=none):∀(q p s1 s2:List Int) (O:List Int) (m:Int) (h:H),D=p++q→S=s1++s2→s1.length=p.length→Ext hb h→O.length=n→h.get oid=some (ints O)→h.floor≤oid→(∀d∈q,0≤d∧d<1000)→0≤m→
 ∃h',Lp AP.A [1,6,7,9,10,11,12] AP.f30L1 [(1,mv),(6,sv),(7,wv),(9,.aI oid 0 n 1),(10,dv),(11,.int .i64 m),(12,.int .i64 p.length)] h=some (.exit 4,[(1,mv),(6,sv),(7,wv),(9,.aI oid 0 n 1),(10,dv),(11,.int .i64 (DX q m)),(12,.int .i64 D.length),(103,.bool false)],h')∧h'.get oid=some (ints (zH s2 q O))∧h'.floor=h.floor∧h'.next=h.next∧(∀i,i≠oid→h'.get i=h.get i)
 | [], p, s1, s2, O, m, h, hp, hs, hl, hx, hO, go, hfo, hd, hm => by
   rw[acU]at hp;subst hp
   have ln:=rdd.len
   rw[rY]at ln
   simp only[I]at ln
   have e:zH s2 [] O=O:=by cases s2<;>rfl
   rw[e]
   refine⟨h,vW ?_,go,rfl,rfl,fun _ _=>rfl⟩
   rw[DX]
   simp (disch:=omega)only[go_sem,yH,AP.f30L1,ln]
 | d :: q, p, s1, s2, O, m, h, hp, hs, hl, hx, hO, go, hfo, hd, hm => by
   have ln:=rdd.len
   rw[rY]at ln
   simp only[I]at ln
   have hDl:D.length=p.length+(q.length+1):=by rw[hp];simp
   have hSl:S.length=s1.length+s2.length:=by rw[hs];simp
   obtain⟨s,s2,rfl⟩:∃s r,s2=s::r:=by
    cases s2 with
    |nil=>simp at hSl;omega
    |cons s r=>exact⟨s,r,rfl⟩
   have dr:=hd d (by simp)
   have hs':S[p.length]?=some s:=by rw[hs,←hl];simp
   have sr:=hr s (xV hs')
   obtain⟨sn,rfl⟩:=acS sr.1
   obtain⟨as,a1,a2⟩:=rds.zL
   obtain⟨ad,d1,d2⟩:=rdd.zL
   have b1:=a1 p.length ⟨by omega,by omega⟩
   have b2:=a2 h hx p.length _ hs'
   have c1:=d1 p.length ⟨by omega,by omega⟩
   have c2:=d2 h hx p.length d (by rw[hp];simp)
   have lO:(ints O).length=n:=by rw[rY,hO]
   have es:=AJ O sn d
   have tsn:((sn:Nat):Int).toNat=sn:=by omega
   have fr':∀i,i≠oid→(h.set oid (ints (O.set sn d))).get i=h.get i:=fun i hi=>yE hi
   have hx2:=hx.K6 hno (ints (O.set sn d))
   have gO:(h.set oid (ints (O.set sn d))).get oid=some (ints (O.set sn d)):=by rw[yM rfl,go];rfl
   obtain⟨h',k1,k2,k3,k4,k5⟩:=JY hS hDS hn hr hb rds rdd hno q (p++[d]) (s1++[(sn:Int)]) s2 (O.set sn d) (KS m d) (h.set oid (ints (O.set sn d))) (by rw[hp];simp) (by rw[hs];simp) (by simp [hl]) hx2 (by rw[ac0,hO]) gO (by simpa using hfo) (fun e he=>hd e (by simp [he])) (by unfold KS;split<;>omega)
   have b1':ik 1 dv (.int .i64 p.length)=some (ad p.length):=c1
   have c3:cq false 1 (ad p.length) (h.set oid (ints (O.set sn d)))=some (.int .i64 d):=d2 _ hx2 p.length d (by rw[hp];simp)
   have n1:(((p++[d]).length:Nat):Int)=(p.length:Int)+1:=by simp
   rw[zH,tsn,DX]
   refine⟨h',vX ?_ k1,k2,by rw[k3];simp,by rw[k4];simp,fun i hi=>(k5 i hi).trans (fr' i hi)⟩
   rw[n1]
   have snn:sn<n:=by omega
   clear k1 k2 k3 k4 k5 fr' hx hx2 rds rdd a1 a2 d1 d2 hd hr hs hp hs'
   generalize ints (O.set sn d)=O2 at *
   generalize ints O=O1 at *
   simp (disch:=omega)only[go_sem,yH,AP.f30L1,ln,b1,b2,c1,c2,c3,go,lO,es,Yt,SY]
def EO (w:Int):Int:=(w+1)/2
def zV (ws:List Int):List Int:=ws.map EO
theorem CF (ws:List Int):(zV ws).length=ws.length:=by simp [zV]
theorem JJ {mv sv ov:AV} {n wid:Nat} (hn:n<1000):∀(q p:List Int) (h:H),p.length+q.length=n→(∀y∈q,0≤y∧y<1000000000000)→h.get wid=some (ints (zV p++q))→h.floor≤wid→h.floor≤h.next→
 ∃h',Lp AP.A [1,6,7,9,13] AP.f30L0 [(1,mv),(6,sv),(7,.aI wid 0 n 1),(9,ov),(13,.int .i64 p.length)] h=some (.exit 6,[(1,mv),(6,sv),(7,.aI wid 0 n 1),(9,ov),(13,.int .i64 n),(129,.bool false)],h')∧h'.get wid=some (ints (zV (p++q)))∧h'.floor=h.floor∧h'.next=h.next∧(∀i,i≠wid→h'.get i=h.get i)
 | [], p, h, hl, hr, hg, hf, hfl => by
   obtain rfl:p.length=n:=by simpa using hl
   refine⟨h,vW ?_,by simpa using hg,rfl,rfl,fun _ _=>rfl⟩
   simp (disch:=omega)only[go_sem,yH,AP.f30L0]
 | y :: q, p, h, hl, hr, hg, hf, hfl => by
   have yr:=hr y (by simp)
   simp only[acN]at hl
   have n1:(((p++[y]).length:Nat):Int)=(p.length:Int)+1:=by simp
   have hp:(zV p).length=p.length:=CF p
   have ix:(ints (zV p++y::q))[p.length]?=some (.int .i64 y):=vG (by rw[ac4 (by omega),hp];simp)
   have il:(ints (zV p++y::q)).length=n:=by rw[rY,yy,hp,acN];omega
   have st:(ints (zV p++y::q)).set p.length (.int .i64 (EO y))=ints (zV (p++[y])++q):=by
    rw[AJ,List.set_append_right _ _ (by omega),hp,Nat.sub_self]
    simp [zV]
   have q1:bH .quo (.int .i64 (y+1)) (.int .i64 2)=some (.int .i64 (EO y)):=by
    rw[uV _ _ _ (by omega),Int.tdiv_eq_ediv_of_nonneg (by omega),wi (by omega)];rfl
   have g2:(h.set wid (ints (zV (p++[y])++q))).get wid=some (ints (zV (p++[y])++q)):=by rw[yM rfl,hg];rfl
   obtain⟨h',k1,k2,k3,k4,k5⟩:=JJ (mv:=mv) (sv:=sv) (ov:=ov) hn q (p++[y]) (h.set wid (ints (zV (p++[y])++q))) (by simp;omega) (fun e he=>hr e (by simp [he])) g2 (by simpa using hf) (by simpa using hfl)
   refine⟨h',vX ?_ k1,by rw[k2];simp,by rw[k3];simp,by rw[k4];simp,fun i hi=>by rw[k5 i hi,yE hi]⟩
   rw[n1]
   clear k1 k2 k3 k4 k5 g2 hr
   generalize ints (zV p++y::q)=A at *
   generalize ints (zV (p++[y])++q)=B at *
   simp (disch:=omega)only[go_sem,yH,AP.f30L0,ix,il,st,q1,hg]
def J2 (ws:List Int):Prop:=ws=[]∨(1≤ws.length∧ws.length≤288∧(∀k,k<ws.length-1→(FS.Cv k (DQ ws)).ok)∧Jm (FS.Cv (ws.length-1) (DQ ws)).U∧(FS.Cv (ws.length-1) (DQ ws)).U.length=(FS.Cv (ws.length-1) (DQ ws)).W.length)
theorem Pq (U:List Int):∀(m:Nat) (j:Int),DB U m j≤m
 |0,j=>xQ _
 | m + 1, j => by
   rw[DB]
   split
   · have:=Pq U m (U.getD j.toNat (-1));omega
   · omega
theorem GY {ws:List Int} (o:J2 ws):∀d∈yX ws,0≤d∧d<1000:=by
 intro d hd
 rcases o with rfl|⟨h1,h2,_,_,h5⟩
 · simp [yX,GB]at hd
 · unfold yX GB at hd
   obtain⟨i,_,rfl⟩:=ac2.1 hd
   have:=Pq (FS.Cv (ws.length-1) (DQ ws)).U (FS.Cv (ws.length-1) (DQ ws)).U.length ((FS.Cv (ws.length-1) (DQ ws)).U.getD i (-1))
   rw[h5,FS.Ee]at this
   rw[h5,FS.Ee]
   have:(DQ ws).W.length=ws.length:=rfl
   omega
theorem D8 (ws:List Int):(yX ws).length=ws.length:=Q5 _ _
theorem PS (h:H) (x:AV) (ws:List Int) (rd:Rd h x (ints ws)) (o:J2 ws):aV AP.A 56 [x] h=some (CD 1 ws.length (ints (yX ws)),h):=by
 rcases o with rfl|⟨h1,h2,h3,h4,h5⟩
 · have ln:=rd.len
   simp only[I,rY]at ln
   have ln':jZ false x=some (.int .i64 0):=ln
   have l3:∀g:H,Lp AP.A [0,3,4] AP.f56L3 [(0,x),(3,.aH h.next 0),(4,.int .i64 0)] g=some (.exit 0,[(0,x),(3,.aH h.next 0),(4,.int .i64 0),(17,.bool false)],g):=fun g=>by
    refine vW ?_
    simp (disch:=omega)only[go_sem,yH,AP.f56L3,ln']
   have l2:∀g:H,Lp AP.A [0,3,5] AP.f56L2 [(0,x),(3,.aH h.next 0),(5,.int .i64 1)] g=some (.exit 2,[(0,x),(3,.aH h.next 0),(5,.int .i64 1),(29,.bool false)],g):=fun g=>by
    refine vW ?_
    simp (disch:=omega)only[go_sem,yH,AP.f56L2,ln']
   have l1:∀g:H,Lp AP.A [0,3,8,9] AP.f56L1 [(0,x),(3,.aH h.next 0),(8,.aT),(9,.int .i64 0)] g=some (.exit 4,[(0,x),(3,.aH h.next 0),(8,.aT),(9,.int .i64 0),(78,.bool false)],g):=fun g=>by
    refine vW ?_
    simp (disch:=omega)only[go_sem,yH,AP.f56L1,ln']
   have hnx:h.eV.next=h.next:=rfl
   refine wN (fn:=AP.f56) (h2:=h.eV.alloc [.aT,.aT,.aT]) (e:=[(2,.aT)]) (vs:=[.aT]) rfl rfl rfl ?_ rfl rfl
   simp (disch:=omega)only[go_sem,yH,AP.f56,hnx,u9,l1,l2,l3]
 · exact Q6 h x ws h1 (by omega) rd h3 h4 h5
def EP (S:List Int):Nat→List Int→List Int→List Int
 |0,W,O=>zH S (yX W) O
 |K+1,W,O=>EP S K (zV W) (zH S (yX W) O)
theorem Nl {h:H} {v:AV} {k:Nat} {cs:List AV} (o:yS 1 h v k cs) (hk:0<k):∃id,v=.aI id 0 k 1∧h.get id=some cs∧h.floor≤id:=by
 rcases o.2 with ⟨_,q⟩|⟨id,q1,q2,q3,_⟩
 · omega
 · exact⟨id,q1,q2,q3⟩
theorem RL {S W O:List Int} {h:H} {sv wv:AV} {n oid:Nat} {most:Int} (hW:W.length=S.length) (hS:S.length≤288) (hn:n≤288) (hO:O.length=n) (hr:∀s∈S,0≤s∧s<n) (hfl:h.floor≤h.next) (os:yS 1 h sv S.length (ints S)) (ow:yS 1 h wv W.length (ints W)) (go:h.get oid=some (ints O)) (hfo:h.floor≤oid) (ap:Fo sv wv) (ns:sv.id?≠some oid) (nw:wv.id?≠some oid) (o:J2 W) (hm:1≤most∧most≤15) (wr:∀y∈W,0≤y∧y<1000000000000):
 (DX (yX W) 0≤most→∃h',aP (aV AP.A) bL AP.f30L2 (aC [(1,.int .i64 most),(6,sv),(7,wv),(9,.aI oid 0 n 1)] [1,6,7,9]) h=some (.ret,[(4,.aI oid 0 n 1),(5,.int .i64 0)],h')∧h'.get oid=some (ints (zH S (yX W) O))∧h'.floor=h.floor)∧
 (most<DX (yX W) 0→W≠[]→∃h',aP (aV AP.A) bL AP.f30L2 (aC [(1,.int .i64 most),(6,sv),(7,wv),(9,.aI oid 0 n 1)] [1,6,7,9]) h=some (.normal,[(1,.int .i64 most),(6,sv),(7,wv),(9,.aI oid 0 n 1)],h')∧h'.get oid=some (ints (zH S (yX W) O))∧yS 1 h' sv S.length (ints S)∧yS 1 h' wv (zV W).length (ints (zV W))∧h'.floor=h.floor∧h'.floor≤h'.next):=by
 have k1:=PS h wv W ow.UK o
 have dl:=D8 W
 have dr:=GY o
 obtain⟨D,eD⟩:∃D,D=yX W:=⟨_,rfl⟩
 rw[←eD]at k1 dl dr ⊢
 obtain⟨hb,ehb⟩:∃g,g=h.del oid:=⟨_,rfl⟩
 have hbn:hb.get oid=none:=by rw[ehb,H.eZ,if_pos rfl]
 have ext:Ext hb h:=fun i c q=>by
  rw[ehb,H.eZ]at q
  split at q
  · cases q
  · exact q
 have hbk:∀i,i≠oid→hb.get i=h.get i:=fun i hi=>by rw[ehb,H.eZ,if_neg hi]
 have rs:Rd hb sv (ints S):=(os.mono (by rw[ehb];simp) fun i q=>hbk i (fun e=>ns (by rw[q,e]))).UK
 have rdd:Rd hb (CD 1 W.length (ints D)) (ints D):=by
  have:=IG (n:=1) (k:=D.length) (h:=hb) (cs:=ints D) (by rw[rY];omega)
  rw[dl]at this
  exact⟨by have:=this.1;rw[rY,dl];exact this,this.2.2⟩
 obtain⟨h1,L1,g1,f1,n1,t1⟩:=JY (mv:=.int .i64 most) (wv:=wv) (O:=O) (oid:=oid) (h:=h) (s1:=[]) (p:=[]) (q:=D) (s2:=S) (m:=0) (by omega) (dl.trans hW) (by omega) hr hb rs rdd hbn rfl rfl rfl ext hO go hfo dr (by omega)
 have L1':Lp AP.A [1,6,7,9,10,11,12] AP.f30L1 [(1,.int .i64 most),(6,sv),(7,wv),(9,.aI oid 0 n 1),(10,CD 1 W.length (ints D)),(11,.int .i64 0),(12,.int .i64 0)] h=_:=L1
 constructor
 · intro c
   refine⟨h1, ?_,g1,f1⟩
   clear L1 rs rdd os ow dr hr wr
   generalize CD 1 W.length (ints D)=dv at *
   generalize DX D 0=M at *
   simp (disch:=omega)only[go_sem,yH,AP.f30L2,k1,u9,L1',acO c]
 · intro c hne
   have hWp:0<W.length:=adx.2 hne
   obtain⟨wid,q1,q2,q3⟩:=Nl ow hWp
   have hwo:wid≠oid:=fun e=>nw (by rw[q1,e];rfl)
   have hsw:∀j,sv.id?=some j→j≠wid:=fun j hj e=>ap j hj (by rw[q1,e];rfl)
   obtain⟨h2,L2,g2,f2,n2,t2⟩:=JJ (mv:=.int .i64 most) (sv:=sv) (ov:=.aI oid 0 n 1) (n:=W.length) (wid:=wid) (by omega) W [] h1 (by simp) wr (by rw[t1 wid hwo,q2];rfl) (by omega) (by omega)
   have L2':Lp AP.A [1,6,7,9,13] AP.f30L0 [(1,.int .i64 most),(6,sv),(7,.aI wid 0 W.length 1),(9,.aI oid 0 n 1),(13,.int .i64 0)] h1=_:=L2
   have os2:yS 1 h2 sv S.length (ints S):=os.mono (by omega) fun j hj=>by
    rw[t2 j (hsw j hj),t1 j (fun e=>ns (by rw[hj,e]))]
   have ow2:yS 1 h2 wv (zV W).length (ints (zV W)):=by
    rw[CF]
    exact⟨by rw[rY,CF];omega,.inr ⟨wid,q1,by simpa using g2,by omega,hWp⟩⟩
   refine⟨h2, ?_,by rw[t2 oid hwo.symm,g1],os2,ow2,by omega,by omega⟩
   clear L1 L2 rs rdd os ow os2 ow2 dr hr wr
   rw[q1]at L1' k1 ⊢
   have c':¬DX D 0≤most:=by omega
   generalize CD 1 W.length (ints D)=dv at *
   generalize DX D 0=M at *
   simp (disch:=omega)only[go_sem,yH,AP.f30L2,k1,u9,L1',L2',acL c']
inductive BV (most:Int):Nat→List Int→Prop
 |last {W:List Int}:J2 W→DX (yX W) 0≤most→BV most 0 W
 |more {K:Nat} {W:List Int}:J2 W→most<DX (yX W) 0→W≠[]→BV most K (zV W)→BV most (K+1) W
theorem P1 {W:List Int} (wr:∀y∈W,0≤y∧y<1000000000000):∀y∈zV W,0≤y∧y<1000000000000:=by
 intro y hy
 obtain⟨z,hz,rfl⟩:=ac2.1 hy
 have:=wr z hz
 unfold EO;omega
theorem OU {S:List Int} {sv wv:AV} {n oid:Nat} {most:Int} (hS:S.length≤288) (hn:n≤288) (hr:∀s∈S,0≤s∧s<n) (ap:Fo sv wv) (ns:sv.id?≠some oid) (nw:wv.id?≠some oid) (hm:1≤most∧most≤15):∀(K:Nat) (W O:List Int) (h:H),BV most K W→W.length=S.length→O.length=n→h.floor≤h.next→yS 1 h sv S.length (ints S)→yS 1 h wv W.length (ints W)→h.get oid=some (ints O)→h.floor≤oid→(∀y∈W,0≤y∧y<1000000000000)→
 ∃h',Lp AP.A [1,6,7,9] AP.f30L2 [(1,.int .i64 most),(6,sv),(7,wv),(9,.aI oid 0 n 1)] h=some (.ret,[(4,.aI oid 0 n 1),(5,.int .i64 0)],h')∧h'.get oid=some (ints (EP S K W O))∧h'.floor=h.floor
 | 0, W, O, h, r, hW, hO, hfl, os, ow, go, hfo, wr => by
   cases r with
   | last o c =>
     obtain⟨h',k,g,f⟩:=(RL hW hS hn hO hr hfl os ow go hfo ap ns nw o hm wr).1 c
     exact⟨h',wD k,g,f⟩
 | K + 1, W, O, h, r, hW, hO, hfl, os, ow, go, hfo, wr => by
   cases r with
   | more o c hne r =>
     obtain⟨h1,k,g,os1,ow1,f,fl⟩:=(RL hW hS hn hO hr hfl os ow go hfo ap ns nw o hm wr).2 c hne
     obtain⟨h',k2,g2,f2⟩:=OU hS hn hr ap ns nw hm K (zV W) _ h1 r (by rw[CF,hW]) (by rw[AF,hO]) fl os1 ow1 g (by omega) (P1 wr)
     exact⟨h',vX k k2,g2,by omega⟩
def C4 (S:List Int):List Int:=if S.length=1 then(if 0<S.getD 0 0 then [0,S.getD 0 0]else S++[1])else S
def EK (S W:List Int):List Int:=if S.length=1 then(if 0<S.getD 0 0 then [1,W.getD 0 0]else W++[1])else W
theorem TW {S W:List Int} (h:W.length=S.length):(EK S W).length=(C4 S).length:=by
 unfold EK C4
 split
 · split
   · rfl
   · simp [h]
 · exact h
theorem ach {x : AV} {most : Int} {S W : List Int} {h : H} {sv wv : AV} (hl : W.length = S.length) (hS : S.length ≤ 288) (hfl : h.floor ≤ h.next) (os : yS 1 h sv S.length (ints S)) (ow : yS 1 h wv W.length (ints W)) (ap : Fo sv wv) :
 ∃h' sv' wv',aP (aV AP.A) bL (at_ 4 AP.f30.body) [(0,x),(1,.int .i64 most),(6,sv),(7,wv)] h=some (.normal,[(0,x),(1,.int .i64 most),(6,sv'),(7,wv')],h')∧yS 1 h' sv' (C4 S).length (ints (C4 S))∧yS 1 h' wv' (EK S W).length (ints (EK S W))∧Fo sv' wv'∧h'.floor=h.floor∧h'.floor≤h'.next:=by
 have ln:=os.rd.len
 by_cases c1:S.length=1
 · obtain⟨s0,rfl⟩:∃s,S=[s]:=by
    match S,c1 with
    |[s],_=>exact⟨s,rfl⟩
   obtain⟨w0,rfl⟩:∃s,W=[s]:=by
    match W,hl with
    |[s],_=>exact⟨s,rfl⟩
   obtain⟨sid,q1,q2,q3⟩:=Nl os (by simp)
   obtain⟨wid,p1,p2,p3⟩:=Nl ow (by simp)
   simp only[acN,acP,ints,acW,adr,I]at q1 q2 p1 p2
   subst q1
   subst p1
   by_cases c2:0<s0
   · have e1:C4 [s0]=[0,s0]:=by simp [C4,c2]
     have e2:EK [s0] [w0]=[1,w0]:=by simp [EK,c2]
     rw[e1,e2]
     refine⟨(h.alloc [.int .i64 0,.int .i64 s0]).alloc [.int .i64 1,.int .i64 w0],.aI h.next 0 2 1,.aI (h.next+1) 0 2 1, ?_,⟨rfl,.inr ⟨h.next,rfl, ?_,by simpa using hfl,by simp⟩⟩,⟨rfl,.inr ⟨h.next+1,rfl, ?_,by simp;omega,by simp⟩⟩, ?_,by simp,by simp;omega⟩
     · have w2:=h.lt _ _ p2
       simp (disch:=first|omega|(simp only[zX,acN,acP,xW,Nat.reduceAdd];first|done|omega|fail)|(simp (disch:=first|omega|(simp only[zX,acN,acP,xW,Nat.reduceAdd];first|done|omega|fail)|fail)only[zX,ES,acR,acN,acP,xW,Nat.reduceAdd];done)|fail)only[go_sem,yH,Fl,AP.f30,q2,p2,acO c2]
     · rw[yN (by simp),yG rfl];rfl
     · rw[yG (by simp)];rfl
     · intro j hj e;have:=xF hj;have:=xF e;omega
   · have e1:C4 [s0]=[s0,1]:=by simp [C4,c2]
     have e2:EK [s0] [w0]=[w0,1]:=by simp [EK,c2]
     rw[e1,e2]
     obtain⟨v1,h1,a1,a2,a3,a4,a5,a6⟩:=os.push hfl (z:=8) (m:=1) (by omega) (by omega) [.int .i64 1] rfl rfl (A9 (by simp))
     have ow1:yS 1 h1 (.aI wid 0 1 1) 1 (ints [w0]):=ow.mono a3 fun j hj=>a5 j (fun e=>ap j e hj) (ow.lt hj).2
     obtain⟨v2,h2,b1,b2,b3,b4,b5,b6⟩:=ow1.push (by omega) (z:=8) (m:=1) (by omega) (by omega) [.int .i64 1] rfl rfl (A9 (by simp))
     refine⟨h2,v1,v2, ?_, ?_,b2,fun j hj e=>by rw[a6]at hj;rw[b6]at e;have:=xF hj;have:=xF e;omega,by omega,by omega⟩
     · clear os ow ow1 ap a2 b2 a5 b5
       simp only[acN,acP]at a1 b1 ln
       simp (disch:=omega)only[go_sem,yH,AP.f30,Ar,AA,ln,q2,p2,a1,b1,acL c2]
     · exact a2.mono b3 fun j hj=>b5 j (fun e=>by rw[a6]at hj;have:=xF hj;have:=xF e;have:=h.lt _ _ p2;omega) (a2.lt hj).2
 · have e1:C4 S=S:=by simp [C4,c1]
   have e2:EK S W=W:=by simp [EK,c1]
   rw[e1,e2]
   refine⟨h,sv,wv, ?_,os,ow,ap,rfl,hfl⟩
   have c1':¬((S.length:Int)=1):=by omega
   clear os ow ap
   simp (disch:=omega)only[go_sem,yH,AP.f30,Ar,AA,ln]
theorem BG:∀(i:Nat) (C:List Int),(zR i C).length=(CV C).length
 |i,[]=>rfl
 | i, c :: r => by
   rw[zR,CV]
   split
   · simp [BG (i+1) r]
   · exact BG (i+1) r
theorem C5:∀(i:Nat) (C:List Int),(zR i C).length≤C.length
 |i,[]=>xQ _
 | i, c :: r => by
   have:=C5 (i+1) r
   rw[zR]
   split<;>simp<;>omega
theorem Ch:∀(i:Nat) (C:List Int),∀s∈zR i C,(i:Int)≤s∧s<i+C.length
 |i,[],s,h=>by simp [zR]at h
 | i, c :: r, s, h => by
   rw[zR]at h
   split at h
   · rcases yu.1 h with q|q
     · subst q;simp;omega
     · have:=Ch (i+1) r s q;simp only[acN];omega
   · have:=Ch (i+1) r s h;simp only[acN];omega
theorem DC:∀(C:List Int),∀y∈CV C,y∈C∧0<y
 |[],y,h=>by simp [CV]at h
 | c :: r, y, h => by
   rw[CV]at h
   split at h
   · rcases yu.1 h with q|q
     · subst q;exact⟨by simp,by assumption⟩
     · have:=DC r y q;exact⟨by simp [this.1],this.2⟩
   · have:=DC r y h;exact⟨by simp [this.1],this.2⟩
theorem MH {S : List Int} {n : Nat} (hn : 2 ≤ n) (h : ∀ s ∈ S, 0 ≤ s ∧ s < n) : ∀ s ∈ C4 S, 0 ≤ s ∧ s < n := by
 intro s hs
 unfold C4 at hs
 split at hs
 · split at hs
   · rename_i h1 h2
     rcases yu.1 hs with q|q
     · subst q;omega
     · simp at q
       subst q
       match S,h1 with
       |[t],_=>exact h t (by simp)
   · rcases ac9.1 hs with q|q
     · exact h s q
     · simp at q;subst q;omega
 · exact h s hs
theorem R3 {S W : List Int} (hl : W.length = S.length) (h : ∀ y ∈ W, 0 ≤ y ∧ y < 1000000000000) : ∀ y ∈ EK S W, 0 ≤ y ∧ y < 1000000000000 := by
 intro s hs
 unfold EK at hs
 split at hs
 · split at hs
   · rename_i h1 h2
     rcases yu.1 hs with q|q
     · subst q;omega
     · simp at q
       subst q
       rw[←hl]at h1
       match W,h1 with
       |[t],_=>exact h t (by simp)
   · rcases ac9.1 hs with q|q
     · exact h s q
     · simp at q;subst q;omega
 · exact h s hs
theorem Hc {S:List Int} {n:Nat} (hn:2≤n) (h:S.length≤n):(C4 S).length≤n:=by
 unfold C4
 split
 · split
   · simpa using hn
   · simp;omega
 · exact h
theorem CQ (n:Nat):A3 n [.int .i64 0]=ints (List.replicate n 0):=by
 unfold A3;rw[II];simp [ints,I]
def zI (C:List Int):List Int:=C4 (zR 0 C)
def Am (C:List Int):List Int:=EK (zR 0 C) (CV C)
theorem KR (C:List Int):(Am C).length=(zI C).length:=TW (BG 0 C).symm
def zW (C:List Int) (K:Nat):List Int:=EP (zI C) K (Am C) (List.replicate C.length 0)
theorem E9 (h:H) (x:AV) (C:List Int) (m K:Nat) (h2:2≤C.length) (hn:C.length≤288) (rd:Rd h x (ints C)) (hm:1≤m∧m≤15) (hr:∀y∈C,0≤y∧y≤2147483647) (hs:(zI C).length≤2^m) (ro:BV m K (Am C)):
 aV AP.A 30 [x,.int .i64 m] h=some (.cf [CD 1 C.length (ints (zW C K)),.int .i64 0],h):=by
 have Aq:Rd h.eV x (ints C):=rd.mono (yQ h)
 have ln:=rd.len
 rw[rY]at ln
 simp only[I]at ln
 obtain⟨h1,sv,wv,L1,os,ow,ap,f1,fl1⟩:=Ir (mv:=.int .i64 m) (by omega) hr h.eV Aq C [] [] [] h.eV .aT .aT rfl (Ext.refl _) rfl (by simp) yS.nil yS.nil (fun j hj=>by simp [AV.id?]at hj) (by simp) (by simp)
 have L1':Lp AP.A [0,1,6,7,8] AP.f30L3 [(0,x),(1,.int .i64 m),(6,.aT),(7,.aT),(8,.int .i64 0)] h.eV=_:=L1
 simp only[adt,acP]at os ow
 have sl:=C5 0 C
 obtain⟨h2',sv2,wv2,P,os2,ow2,ap2,f2,fl2⟩:=ach (x:=x) (most:=m) (BG 0 C).symm (by omega) fl1 os ow ap
 change yS 1 h2' sv2 (zI C).length (ints (zI C))at os2
 change yS 1 h2' wv2 (Am C).length (ints (Am C))at ow2
 have hSl:(zI C).length≤C.length:=Hc h2 sl
 have hSr:∀s∈zI C,0≤s∧s<C.length:=MH h2 fun s hs=>by have:=Ch 0 C s hs;omega
 have hWr:∀y∈Am C,0≤y∧y<1000000000000:=R3 (BG 0 C).symm fun y hy=>by
  have:=hr y (DC C y hy).1;omega
 have hWS:=KR C
 obtain⟨h3,eh3⟩:∃g,g=h2'.alloc (A3 C.length [.int .i64 0]):=⟨_,rfl⟩
 have g3:h3.get h2'.next=some (ints (List.replicate C.length 0)):=by rw[eh3,yG rfl,CQ]
 have os3:yS 1 h3 sv2 (zI C).length (ints (zI C)):=os2.mono (by rw[eh3];simp) fun j hj=>by rw[eh3,yN (by have:=(os2.lt hj).2;omega)]
 have ow3:yS 1 h3 wv2 (Am C).length (ints (Am C)):=ow2.mono (by rw[eh3];simp) fun j hj=>by rw[eh3,yN (by have:=(ow2.lt hj).2;omega)]
 have fl3:h3.floor=h.next:=by rw[eh3];simp [f2,f1]
 obtain⟨h4,L4,g4,f4⟩:=OU (n:=C.length) (oid:=h2'.next) (most:=m) (by omega) hn hSr ap2 (fun q=>by have:=(os2.lt q).2;omega) (fun q=>by have:=(ow2.lt q).2;omega) (by omega) K (Am C) (List.replicate C.length 0) h3 ro hWS (by simp) (by rw[eh3];simp;omega) os3 ow3 g3 (by rw[eh3];simp;omega) hWr
 have s1:rF .shl .i64 1 (m:Int)=some (.int .i64 ((2^m:Nat):Int)):=by
  have:=Bq (a:=1) (s:=m) (by omega) (by
   have:2^m≤2^15:=acX (by omega) hm.2
   omega)
  rwa [Nat.one_mul]at this
 have lS:jZ false sv2=some (.int .i64 (zI C).length):=os2.rd.len
 have t5:aP (aV AP.A) bL (QJ 5 AP.f30.body) [(0,x),(1,.int .i64 m),(6,sv2),(7,wv2)] h2'=some (.ret,[(4,.aI h2'.next 0 C.length 1),(5,.int .i64 0)],h4):=by
  clear os ow os2 ow2 os3 ow3 rd Aq hSr hWr ro hr L1 P
  generalize 2^m=M at *
  generalize (zI C).length=sL at *
  simp (disch:=omega)only[go_sem,yH,AP.f30,Qu,Qt,lS,s1,ln,←eh3,u9,L4]
 have lo:(zW C K).length=C.length:=by
  unfold zW
  have:∀(K:Nat) (S W O:List Int),(EP S K W O).length=O.length:=by
   intro K
   induction K with
   |zero=>intro S W O;rw[EP,AF]
   |succ K ih=>intro S W O;rw[EP,ih,AF]
  rw[this];simp
 have ow4:yS 1 h4 (.aI h2'.next 0 C.length 1) C.length (ints (zW C K)):=⟨by rw[rY,lo];omega,.inr ⟨h2'.next,rfl,g4,by rw[f4,fl3];have:=fl2;rw[f2,f1]at this;simpa using this,by omega⟩⟩
 refine wN (fn:=AP.f30) (h2:=h4) (e:=[(4,.aI h2'.next 0 C.length 1),(5,.int .i64 0)]) (vs:=[.aI h2'.next 0 C.length 1,.int .i64 0]) rfl rfl rfl ?_ rfl ?_
 · have hb:AP.f30.body=.seq (at_ 0 AP.f30.body) (.seq (at_ 1 AP.f30.body) (.seq (at_ 2 AP.f30.body) (.seq (at_ 3 AP.f30.body) (.seq (at_ 4 AP.f30.body) (QJ 5 AP.f30.body))))):=rfl
   have a0:aP (aV AP.A) bL (at_ 0 AP.f30.body) (params 0 [x,.int .i64 m]) h.eV=some (.normal,[(0,x),(1,.int .i64 m)],h.eV):=by
    simp (disch:=omega)only[go_sem,yH,AP.f30,Ar,AA]
   have a1:aP (aV AP.A) bL (at_ 1 AP.f30.body) [(0,x),(1,.int .i64 m)] h.eV=some (.normal,[(0,x),(1,.int .i64 m)],h.eV):=by
    clear os ow os2 ow2 os3 ow3 rd Aq hSr hWr ro hr L1 P t5
    simp (disch:=omega)only[go_sem,yH,AP.f30,Ar,AA,ln]
   have a2:aP (aV AP.A) bL (at_ 2 AP.f30.body) [(0,x),(1,.int .i64 m)] h.eV=some (.normal,[(0,x),(1,.int .i64 m),(6,.aT),(7,.aT)],h.eV):=by
    simp (disch:=omega)only[go_sem,yH,AP.f30,Ar,AA]
   have a3:aP (aV AP.A) bL (at_ 3 AP.f30.body) [(0,x),(1,.int .i64 m),(6,.aT),(7,.aT)] h.eV=some (.normal,[(0,x),(1,.int .i64 m),(6,sv),(7,wv)],h1):=by
    simp (disch:=omega)only[go_sem,yH,AP.f30,Ar,AA,u9,L1']
   rw[hb,uT,a0,vB,uT,a1,vB,uT,a2,vB,uT,a3,vB,uT,P,vB,t5]
 · have s1:=ow4.Ap (fl:=h.next) (m:=13) (t:=true) (by omega)
   show(gV (snap h4.get h.next 15 true) [.aI h2'.next 0 C.length 1,.int .i64 0]).bind _=_
   simp only[gV,s1,xM]
   rfl
theorem Il (W : List Int) (F : List Bool) : ∀ (m i : Nat) (a : Int), (a = -1 ∧ (∀ j, j < i → F.getD j false = false)) ∨ (∃ k : Nat, a = k ∧ k < i ∧ F.getD k false = true ∧ ∀ j, j < i → F.getD j false = true → W.getD k 0 ≤ W.getD j 0) →
 (Ae W F m i a= -1∧(∀j,j<i+m→F.getD j false=false))∨(∃k:Nat,Ae W F m i a=k∧k<i+m∧F.getD k false=true∧∀j,j<i+m→F.getD j false=true→W.getD k 0≤W.getD j 0)
 |0,i,a,h=>by simpa [Ae]using h
 | m + 1, i, a, h => by
   rw[Ae]
   have e:i+(m+1)=i+1+m:=by omega
   rw[e]
   refine Il W F m (i+1) _ ?_
   by_cases c:F.getD i false=true∧(a<0∨W.getD i 0<W.getD a.toNat 0)
   · rw [if_pos c]
     refine .inr ⟨i,rfl,by omega,c.1,fun j hj hf=> ?_⟩
     by_cases q:j=i
     · subst q;exact Int.le_refl _
     · rcases h with ⟨_,h2⟩|⟨k,rfl,h1,h2,h3⟩
       · rw[h2 j (by omega)]at hf;cases hf
       · have:=h3 j (by omega) hf
         have tk:((k:Nat):Int).toNat=k:=by omega
         rw[tk]at c
         have:=c.2
         omega
   · rw [if_neg c]
     rcases h with ⟨rfl,h2⟩|⟨k,rfl,h1,h2,h3⟩
     · refine .inl ⟨rfl,fun j hj=> ?_⟩
       by_cases q:j=i
       · subst q
         cases e:F.getD j false with
         |false=>rfl
         |true=>exact absurd ⟨e,.inl (by omega)⟩ c
       · exact h2 j (by omega)
     · refine .inr ⟨k,rfl,by omega,h2,fun j hj hf=> ?_⟩
       by_cases q:j=i
       · subst q
         have tk:((k:Nat):Int).toNat=k:=by omega
         rw[tk]at c
         have:¬(W.getD j 0<W.getD k 0):=fun x=>c ⟨hf,.inr x⟩
         omega
       · exact h3 j (by omega) hf
theorem Im {W:List Int} {F:List Bool} (hl:F.length=W.length) {i:Nat} (hi:F.getD i false=true):0≤Ae W F W.length 0 (-1)∧zP W F<W.length∧F.getD (zP W F) false=true∧∀j,F.getD j false=true→W.getD (zP W F) 0≤W.getD j 0:=by
 have hiL:∀j,F.getD j false=true→j<F.length:=by
  intro j hj
  rw[acM]at hj
  cases e:F[j]? with
  |none=>rw[e]at hj;cases hj
  |some b=>exact(xL.1 e).1
 rcases Il W F W.length 0 (-1) (.inl ⟨rfl,fun j hj=>by omega⟩)with ⟨_,h2⟩|⟨k,h1,h2,h3,h4⟩
 · have:=h2 i (by have:=hiL i hi;omega)
   rw[hi]at this;cases this
 · have ek:zP W F=k:=by unfold zP;rw[h1];omega
   rw[ek]
   exact⟨by omega,by omega,h3,fun j hj=>h4 j (by have:=hiL j hj;omega) hj⟩
def TZ (U:List Int):Nat→Nat→Nat→Prop
 |0,i,r=>i=r
 |d+1,i,r=>∃j:Nat,U[i]?=some (j:Int)∧TZ U d j r
theorem IC {U:List Int}:∀{d i r:Nat} {j:Nat},TZ U d i r→U[r]?=some (j:Int)→TZ U (d+1) i j
 | 0, i, r, j, h, hj => by
   have:i=r:=h
   subst this
   exact⟨j,hj,rfl⟩
 |d+1,i,r,j,⟨k,h1,h2⟩,hj=>⟨k,h1,IC h2 hj⟩
theorem Pa {U:List Int} (up:Jm U):∀{d i r:Nat},TZ U d i r→U.getD r (-1)= -1→∀m,d≤m→DB U m (U.getD i (-1))=d
 | 0, i, r, h, hr, m, hm => by
   have:i=r:=h
   subst this
   rw[hr]
   cases m with
   |zero=>rfl
   |succ m=>rw[DB,if_neg (by omega)]
 | d + 1, i, r, ⟨j, h1, h2⟩, hr, m, hm => by
   obtain⟨m,rfl⟩:∃k,m=k+1:=⟨m-1,by omega⟩
   have e:U.getD i (-1)=(j:Int):=by rw[acM,h1];rfl
   rw[e,DB,if_pos (by omega)]
   have tj:((j:Nat):Int).toNat=j:=by omega
   rw[tj,Pa up h2 hr m (by omega)]
theorem N3 {U:List Int} (up:Jm U):∀{d i r:Nat},TZ U d i r→i+d≤r
 | 0, i, r, h => by
   have:i=r:=h
   omega
 | d + 1, i, r, ⟨j, h1, h2⟩ => by
   have:=N3 up h2
   have hi:=(xL.1 h1).1
   have e:U.getD i (-1)=(j:Int):=by rw[acM,h1];rfl
   have:=up i hi
   rw[e]at this
   omega
def CP (U:List Int) (a b:Nat):List Int:=(U.set a U.length).set b U.length++[-1]
theorem JL (U:List Int) (a b:Nat):(CP U a b).length=U.length+1:=by simp [CP]
theorem GJ {U:List Int} {a b i:Nat} (hi:i<U.length) (ha:a≠i) (hb:b≠i):(CP U a b)[i]?=U[i]?:=by
 unfold CP
 rw[adi (by simpa using hi),ac3,if_neg hb,ac3,if_neg ha]
theorem OP {U:List Int} {a b:Nat} (ha:a<U.length):(CP U a b)[a]?=some (U.length:Int):=by
 unfold CP
 rw[adi (by simpa using ha),ac3]
 split
 · rename_i e;subst e;simp [ha]
 · rw[ac3,if_pos rfl,if_pos ha]
theorem OQ {U:List Int} {a b:Nat} (hb:b<U.length):(CP U a b)[b]?=some (U.length:Int):=by
 unfold CP
 rw[adi (by simpa using hb),ac3,if_pos rfl,if_pos (by simpa using hb)]
theorem OS {U:List Int} {a b:Nat}:(CP U a b)[U.length]?=some (-1):=by
 unfold CP
 rw[ac4 (by simp)];simp
theorem Gl {U:List Int} {a b:Nat} (ha:U[a]?=some (-1)) (hb:U[b]?=some (-1)):∀{d i r:Nat},TZ U d i r→TZ (CP U a b) d i r
 |0,i,r,h=>h
 | d + 1, i, r, ⟨j, h1, h2⟩ => by
   refine⟨j, ?_,Gl ha hb h2⟩
   rw[GJ (xL.1 h1).1 (fun e=>by rw[e,h1]at ha;have:=xF ha;omega) (fun e=>by rw[e,h1]at hb;have:=xF hb;omega),h1]
theorem QC {U : List Int} {a b : Nat} (ha : a < U.length) (hb : b < U.length) (up : Jm U) : Jm (CP U a b) := by
 intro j hj
 rw[JL]at hj ⊢
 by_cases e:j=U.length
 · subst e
   left
   rw[acM,OS];rfl
 · by_cases ea:a=j
   · subst ea
     right
     rw[acM,OP ha]
     simp;omega
   · by_cases eb:b=j
     · subst eb
       right
       rw[acM,OQ hb]
       simp;omega
     · have:=up j (by omega)
       rw[acM,GJ (by omega) ea eb,←acM]
       omega
theorem FS.aby (s:FS):s.Nk.U=CP s.U s.a s.b:=rfl
abbrev Tr:=Nat×List (Nat×Nat)
def kr (D:Nat) (l:List (Nat×Nat)):Nat:=(l.map fun p=>2^(D-p.2)).sum
structure EJ (bal:Bool) (n:Nat) (tot:Int) (s:FS) (T:List Tr):Prop where
 lu:s.U.length=s.W.length
 lf:s.F.length=s.W.length
 root:∀t∈T,s.F.getD t.1 false=true∧s.U[t.1]?=some (-1)
 free:∀i,s.F.getD i false=true→∃t∈T,t.1=i
 nd:(T.map (·.1)).Nodup
 pt:∀t∈T,∀p∈t.2,TZ s.U p.2 p.1 t.1
 leaves:(T.flatMap fun t=>t.2.map (·.1)).Perm (List.range n)
 Ik:∀t∈T,∀D,(∀p∈t.2,p.2≤D)→kr D t.2=2^D
 ne:∀t∈T,t.2≠[]
 QD:∀t∈T,1≤s.W.getD t.1 0
 up:Jm s.U
 sum:(T.map fun t=>s.W.getD t.1 0).sum=tot
 S8:bal=true→∀t∈T,∀u∈T,s.W.getD t.1 0≤2* s.W.getD u.1 0
 PK:bal=true→∀t∈T,∀p∈t.2,(3:Int)^p.2≤s.W.getD t.1 0* 2^p.2
theorem Qo {l l':List Int} (p:l.Perm l'):l.sum=l'.sum:=by
 induction p with
 |nil=>rfl
 |cons x _ ih=>simp only[ado,ih]
 |swap x y l=>simp only[ado];omega
 |trans _ _ h1 h2=>exact h1.trans h2
theorem J4 {l l':List Nat} (p:l.Perm l'):l.sum=l'.sum:=by
 induction p with
 |nil=>rfl
 |cons x _ ih=>simp only[ado,ih]
 |swap x y l=>simp only[ado];omega
 |trans _ _ h1 h2=>exact h1.trans h2
theorem EJ.perm {bal:Bool} {n:Nat} {tot:Int} {s:FS} {T T':List Tr} (v:EJ bal n tot s T) (p:T.Perm T'):EJ bal n tot s T' where
 lu:=v.lu
 lf:=v.lf
 root t h:=v.root t (p.mem_iff.2 h)
 free i h:=by
  obtain⟨t,h1,h2⟩:=v.free i h
  exact⟨t,p.mem_iff.1 h1,h2⟩
 nd:=(p.map _).nodup_iff.1 v.nd
 pt t h:=v.pt t (p.mem_iff.2 h)
 leaves:=((p.flatMap_right _).symm).trans v.leaves
 Ik t h:=v.Ik t (p.mem_iff.2 h)
 ne t h:=v.ne t (p.mem_iff.2 h)
 QD t h:=v.QD t (p.mem_iff.2 h)
 up:=v.up
 sum:=by rw[←v.sum];exact(Qo (p.map _)).symm
 S8 hb t h u h2:=v.S8 hb t (p.mem_iff.2 h) u (p.mem_iff.2 h2)
 PK hb t h:=v.PK hb t (p.mem_iff.2 h)
def DJ (l:List (Nat×Nat)):List (Nat×Nat):=l.map fun p=>(p.1,p.2+1)
theorem P9 {D:Nat} {l:List (Nat×Nat)}:kr (D+1) (DJ l)=kr D l:=by
 unfold kr DJ
 rw[adz]
 congr 1
 refine adm fun p _=> ?_
 show 2^(D+1-(p.2+1))=_
 rw[Nat.add_sub_add_right]
theorem Yn (D:Nat) (a b:List (Nat×Nat)):kr D (a++b)=kr D a+kr D b:=by simp [kr]
theorem getD_set_ne {α:Type} {l:List α} {i j:Nat} {x d:α} (h:i≠j):(l.set i x).getD j d=l.getD j d:=by
 rw[acM,ac3,if_neg h,←acM]
theorem E4 {l:List Bool} {i:Nat}:(l.set i false).getD i false=false:=by
 rw[acM,ac3,if_pos rfl]
 split<;>rfl
theorem EJ.two {bal:Bool} {n:Nat} {tot:Int} {s:FS} {T:List Tr} (v:EJ bal n tot s T) (h2:2≤T.length):
 ∃ta tb T2,T.Perm (ta::tb::T2)∧ta.1=s.a∧tb.1=s.b∧0≤Ae s.W s.F s.W.length 0 (-1)∧0≤Ae s.W s.F1 s.W.length 0 (-1)∧s.W.getD s.a 0≤s.W.getD s.b 0∧(∀t∈T2,s.W.getD s.b 0≤s.W.getD t.1 0):=by
 obtain⟨t0,t1,T0,rfl⟩:∃t0 t1 T0,T=t0::t1::T0:=by
  match T,h2 with
  |t0::t1::T0,_=>exact⟨t0,t1,T0,rfl⟩
 obtain⟨l1,la,fa,ma⟩:=Im v.lf (v.root t0 (by simp)).1
 obtain⟨ta,hta,ea⟩:=v.free _ fa
 have p1:=List.perm_cons_erase hta
 have v1:=v.perm p1
 obtain⟨T1,eT1⟩:∃T1,T1=(t0::t1::T0).erase ta:=⟨_,rfl⟩
 rw[←eT1]at p1 v1
 have lT1:T1≠[]:=by
  intro e
  have:=p1.length_eq
  rw[e]at this
  simp at this
 obtain⟨tx,hx⟩:=List.exists_mem_of_ne_nil _ lT1
 have nd1:∀t∈T1,t.1≠ta.1:=by
  intro t ht e
  have:=v1.nd
  rw[acW,List.nodup_cons]at this
  exact this.1 (ac2.2 ⟨t,ht,e⟩)
 have f1:∀t∈T1,s.F1.getD t.1 false=true:=by
  intro t ht
  have:=(v1.root t (by simp [ht])).1
  show(s.F.set s.a false).getD t.1 false=true
  rw[getD_set_ne (by have:=nd1 t ht;intro e;exact this (by rw[ea,←e];rfl)),this]
 obtain⟨l2,lb,fb,mb⟩:=Im (W:=s.W) (F:=s.F1) (by show(s.F.set s.a false).length=_;rw[ac0];exact v.lf) (f1 tx hx)
 have hnb:s.a≠s.b:=by
  intro e
  have fb':s.F1.getD s.b false=true:=fb
  rw[←e]at fb'
  have:(s.F.set s.a false).getD s.a false=true:=fb'
  rw[E4]at this;cases this
 have fb2:s.F.getD s.b false=true:=by
  have fb':(s.F.set s.a false).getD s.b false=true:=fb
  rwa [getD_set_ne hnb]at fb'
 obtain⟨tb,htb,eb⟩:=v1.free _ fb2
 have htb1:tb∈T1:=by
  rcases yu.1 htb with q|q
  · subst q;exact absurd (ea.symm.trans eb) hnb
  · exact q
 have p2:=List.perm_cons_erase htb1
 refine⟨ta,tb,T1.erase tb,p1.trans (p2.cons ta),ea,eb,l1,l2,ma _ fb2,fun t ht=>mb _ (f1 t (List.mem_of_mem_erase ht))⟩
theorem EJ.step {bal : Bool} {n : Nat} {tot : Int} {s : FS} {T : List Tr} (v : EJ bal n tot s T) (h2 : 2 ≤ T.length) (ht : tot < 1000000000000000) : s.ok ∧ ∃ T', T'.length + 1 = T.length ∧ EJ bal n tot s.Nk T' := by
 obtain⟨ta,tb,T2,p,ea,eb,l1,l2,wab,wbt⟩:=v.two h2
 have lT:=p.length_eq
 have v1:=v.perm p
 have nd:=v1.nd
 rw[acW,acW,List.nodup_cons,List.nodup_cons]at nd
 obtain⟨nd1,nd2,nd3⟩:=nd
 have ra:=v1.root ta (by simp)
 have rb:=v1.root tb (by simp)
 rw[ea]at ra
 rw[eb]at rb
 have hla:s.a<s.U.length:=(xL.1 ra.2).1
 have hlb:s.b<s.U.length:=(xL.1 rb.2).1
 have wa:=v1.QD ta (by simp)
 have wb1:=v1.QD tb (by simp)
 rw[ea]at wa
 rw[eb]at wb1
 have sm:=v1.sum
 rw[acW,acW,ado,ado,ea,eb]at sm
 have nn:0≤(T2.map fun t=>s.W.getD t.1 0).sum:=by
  have:∀l:List Tr,(∀t∈l,1≤s.W.getD t.1 0)→0≤(l.map fun t=>s.W.getD t.1 0).sum:=by
   intro l
   induction l with
   |nil=>intro _;simp
   |cons x l ih=>intro h;have:=ih fun t ht=>h t (by simp [ht]);have:=h x (by simp);simp only[acW,ado];omega
  exact this T2 fun t ht=>v1.QD t (by simp [ht])
 have es:s.sum=s.W.getD s.a 0+s.W.getD s.b 0:=rfl
 refine⟨⟨v.lu,v.lf,l1,l2,by omega⟩,(s.U.length,DJ (ta.2++tb.2))::T2,by rw[lT];simp, ?_⟩
 have nT2:∀t∈T2,t.1≠s.a∧t.1≠s.b∧t.1<s.U.length:=fun t ht=>⟨fun e=>nd1 (by simp only[yu,ac2];exact .inr ⟨t,ht,by rw[e,ea]⟩),fun e=>nd2 (ac2.2 ⟨t,ht,by rw[e,eb]⟩),(xL.1 (v1.root t (by simp [ht])).2).1⟩
 have mW:∀i,i<s.W.length→s.Nk.W.getD i 0=s.W.getD i 0:=fun i hi=>by
  show(s.W++[s.sum]).getD i 0=_
  rw[acM,adi hi,←acM]
 have mWn:s.Nk.W.getD s.U.length 0=s.sum:=by
  show(s.W++[s.sum]).getD s.U.length 0=_
  rw[v.lu,acM,ac4 (xQ _)];simp
 have lF2:s.F2.length=s.W.length:=by show((s.F.set s.a false).set s.b false).length=_;rw[ac0,ac0,v.lf]
 have mF:∀i,i<s.W.length→s.Nk.F.getD i false=s.F2.getD i false:=fun i hi=>by
  show(s.F2++[true]).getD i false=_
  rw[acM,adi (by omega),←acM]
 have mFn:s.Nk.F.getD s.U.length false=true:=by
  show(s.F2++[true]).getD s.U.length false=_
  rw[v.lu,acM,ac4 (by omega),lF2];simp
 have F2o:∀i,i≠s.a→i≠s.b→s.F2.getD i false=s.F.getD i false:=fun i h1 h2=>by
  show((s.F.set s.a false).set s.b false).getD i false=_
  rw[getD_set_ne h2.symm,getD_set_ne h1.symm]
 have F2a:s.a≠s.b→s.F2.getD s.a false=false:=fun h=>by
  show((s.F.set s.a false).set s.b false).getD s.a false=_
  rw[getD_set_ne h.symm,E4]
 have F2b:s.F2.getD s.b false=false:=E4
 have hab:s.a≠s.b:=fun e=>nd1 (by simp only[yu];exact .inl (by rw[ea,eb,e]))
 have jl:∀p∈ta.2++tb.2,TZ (CP s.U s.a s.b) (p.2+1) p.1 s.U.length:=fun q hq=>by
  rcases ac9.1 hq with h|h
  · have:=v1.pt ta (by simp) q h
    rw[ea]at this
    exact IC (Gl ra.2 rb.2 this) (OP hla)
  · have:=v1.pt tb (by simp) q h
    rw[eb]at this
    exact IC (Gl ra.2 rb.2 this) (OQ hlb)
 have lu:=v.lu
 have lf:=v.lf
 have getT2:∀t∈T2,s.Nk.W.getD t.1 0=s.W.getD t.1 0:=fun t ht=>mW _ (by have:=(nT2 t ht).2.2;omega)
 have W2:∀t∈(s.U.length,DJ (ta.2++tb.2))::T2,(t.1=s.U.length∧t.2=DJ (ta.2++tb.2)∧s.Nk.W.getD t.1 0=s.sum)∨(t∈T2∧s.Nk.W.getD t.1 0=s.W.getD t.1 0):=fun t ht=>by
  rcases yu.1 ht with q|q
  · subst q;exact .inl ⟨rfl,rfl,mWn⟩
  · exact .inr ⟨q,getT2 t q⟩
 constructor
 · show(CP s.U s.a s.b).length=(s.W++[s.sum]).length
   rw[JL];simp [lu]
 · show(s.F2++[true]).length=(s.W++[s.sum]).length
   simp [lF2]
 · intro t ht
   rcases yu.1 ht with q|q
   · subst q
     exact⟨mFn,OS⟩
   · have n:=nT2 t q
     have r:=v1.root t (by simp [q])
     refine⟨by rw[mF _ (by omega),F2o _ n.1 n.2.1];exact r.1, ?_⟩
     rw[FS.aby,GJ n.2.2 n.1.symm n.2.1.symm];exact r.2
 · intro i hi
   by_cases e:i=s.U.length
   · exact⟨_,List.mem_cons_self ..,e.symm⟩
   · have hiL:i<s.W.length:=by
      apply adh
      intro c
      have:s.Nk.F.length=s.W.length+1:=by show(s.F2++[true]).length=_;simp [lF2]
      rw[acM,ac1 (by omega)]at hi
      cases hi
     rw[mF i hiL]at hi
     have h1:i≠s.a:=fun q=>by rw[q,F2a hab]at hi;cases hi
     have h2:i≠s.b:=fun q=>by rw[q,F2b]at hi;cases hi
     rw[F2o i h1 h2]at hi
     obtain⟨t,ht,et⟩:=v1.free i hi
     rcases yu.1 ht with q|q
     · subst q;exact absurd (et.symm.trans ea) h1
     · rcases yu.1 q with q|q
       · subst q;exact absurd (et.symm.trans eb) h2
       · exact⟨t,List.mem_cons_of_mem _ q,et⟩
 · rw[acW,List.nodup_cons]
   refine⟨fun hm=> ?_,nd3⟩
   obtain⟨t,ht,e⟩:=ac2.1 hm
   have:=(nT2 t ht).2.2
   rw[e]at this
   exact absurd this (by simp)
 · intro t ht
   rcases yu.1 ht with q|q
   · subst q
     intro q hq
     obtain⟨q',hq',rfl⟩:=ac2.1 hq
     exact jl q' hq'
   · intro x hx
     exact Gl ra.2 rb.2 (v1.pt t (by simp [q]) x hx)
 · have lv:=v1.leaves
   refine List.Perm.trans ?_ lv
   rw[acT,acT,acT,←acY]
   have:(DJ (ta.2++tb.2)).map (·.1)=ta.2.map (·.1)++tb.2.map (·.1):=by
    unfold DJ;rw[adz,adk];rfl
   rw[this]
 · intro t ht
   rcases yu.1 ht with q|q
   · subst q
     intro D hD
     have hne:=v1.ne ta (by simp)
     obtain⟨x,hx⟩:=List.exists_mem_of_ne_nil _ hne
     have h1:=hD (x.1,x.2+1) (ac2.2 ⟨x,List.mem_append_left _ hx,rfl⟩)
     obtain⟨D,rfl⟩:∃E,D=E+1:=⟨D-1,by simp at h1;omega⟩
     rw[P9,Yn]
     rw[v1.Ik ta (by simp) D fun y hy=>by have:=hD (y.1,y.2+1) (ac2.2 ⟨y,List.mem_append_left _ hy,rfl⟩);simp at this;omega]
     rw[v1.Ik tb (by simp) D fun y hy=>by have:=hD (y.1,y.2+1) (ac2.2 ⟨y,List.mem_append_right _ hy,rfl⟩);simp at this;omega]
     rw[Nat.pow_succ];omega
   · exact v1.Ik t (by simp [q])
 · intro t ht
   rcases yu.1 ht with q|q
   · subst q
     have hne:=v1.ne ta (by simp)
     intro e
     have:DJ (ta.2++tb.2)=[]:=e
     unfold DJ at this
     rw[List.map_eq_nil_iff,List.append_eq_nil_iff]at this
     exact hne this.1
   · exact v1.ne t (by simp [q])
 · intro t ht
   rcases W2 t ht with ⟨_,_,e⟩|⟨q,e⟩
   · rw[e];omega
   · rw[e];exact v1.QD t (by simp [q])
 · exact QC hla hlb v.up
 · rw[acW,ado,mWn,adm getT2];omega
 · intro hb t ht u hu
   have b1:=v1.S8 hb
   have ba:=b1 tb (by simp) ta (by simp)
   rw[ea,eb]at ba
   rcases W2 t ht with ⟨_,_,e⟩|⟨q,e⟩
   · rcases W2 u hu with ⟨_,_,e'⟩|⟨q',e'⟩
     · rw[e,e'];omega
     · rw[e,e'];have:=wbt u q';omega
   · rcases W2 u hu with ⟨_,_,e'⟩|⟨q',e'⟩
     · rw[e,e'];have:=b1 t (by simp [q]) ta (by simp);rw[ea]at this;omega
     · rw[e,e'];exact b1 t (by simp [q]) u (by simp [q'])
 · intro hb t ht x hx
   have b1:=v1.S8 hb
   have ba:=b1 tb (by simp) ta (by simp)
   have bb:=b1 ta (by simp) tb (by simp)
   rw[ea,eb]at ba bb
   rcases W2 t ht with ⟨_,e2,e⟩|⟨q,e⟩
   · rw[e]
     rw[e2]at hx
     obtain⟨y,hy,rfl⟩:=ac2.1 hx
     have p2:(0:Int)<2^y.2:=Int.pow_pos (by omega)
     show(3:Int)^(y.2+1)≤s.sum* 2^(y.2+1)
     rw[Int.pow_succ,Int.pow_succ]
     have key:∀w:Int,(3:Int)^y.2≤w* 2^y.2→3* w≤2* s.sum→(3:Int)^y.2* 3≤s.sum* (2^y.2* 2):=fun w h1 h2=>by
      have a1:(3:Int)^y.2* 3≤(w* 2^y.2)* 3:=Int.mul_le_mul_of_nonneg_right h1 (by omega)
      have a2:(3* w)* 2^y.2≤(2* s.sum)* 2^y.2:=Int.mul_le_mul_of_nonneg_right h2 (by omega)
      have a3:(w* 2^y.2)* 3=(3* w)* 2^y.2:=by rw[Int.mul_comm 3 w,Int.mul_assoc,Int.mul_assoc,Int.mul_comm _ 3]
      have a4:s.sum* (2^y.2* 2)=(2* s.sum)* 2^y.2:=by rw[Int.mul_comm 2 s.sum,Int.mul_assoc,Int.mul_comm 2 (2^y.2)]
      omega
     rcases ac9.1 hy with h|h
     · have:=v1.PK hb ta (by simp) y h
       rw[ea]at this
       exact key _ this (by omega)
     · have:=v1.PK hb tb (by simp) y h
       rw[eb]at this
       exact key _ this (by omega)
   · rw[e];exact v1.PK hb t (by simp [q]) x hx
def T0 (n:Nat):List Tr:=(List.range n).map fun i=>(i,[(i,0)])
theorem I6:∀(ws:List Int),((List.range ws.length).map fun i=>ws.getD i 0).sum=ws.sum:=by
 intro ws
 have:(List.range ws.length).map (fun i=>ws.getD i 0)=ws:=by
  apply List.ext_getElem?
  intro i
  rw[ya]
  by_cases h:i<ws.length
  · rw[adw h,acQ h];simp [acM,h]
  · rw[ac1 (by simp;omega),ac1 (by omega)];rfl
 rw[this]
theorem EG {α:Type} {n i:Nat} {x d:α} (h:i<n):(List.replicate n x).getD i d=x:=by
 rw[acM,List.getElem?_replicate,if_pos h];rfl
theorem EJ.init (ws : List Int) (bal : Bool) (pos : ∀ y ∈ ws, 1 ≤ y) (hb : bal = true → ∀ y ∈ ws, y = 1) : EJ bal ws.length ws.sum (DQ ws) (T0 ws.length) := by
 have mem:∀t∈T0 ws.length,∃i,i<ws.length∧t=(i,[(i,0)]):=fun t ht=>by
  obtain⟨i,hi,rfl⟩:=ac2.1 ht
  exact⟨i,adB.1 hi,rfl⟩
 have gw:∀i,i<ws.length→ws.getD i 0∈ws:=fun i hi=>by
  rw[acM,acQ hi];exact ade hi
 constructor
 · simp [DQ]
 · simp [DQ]
 · intro t ht
   obtain⟨i,hi,rfl⟩:=mem t ht
   exact⟨EG hi,by show(List.replicate ws.length (-1:Int))[i]?=_;rw[List.getElem?_replicate,if_pos hi]⟩
 · intro i hi
   have:i<ws.length:=by
    apply adh
    intro c
    have e:(DQ ws).F.getD i false=false:=by
     show(List.replicate ws.length true).getD i false=false
     rw[acM,ac1 (by simp;omega)];rfl
    rw[e]at hi;cases hi
   exact⟨(i,[(i,0)]),ac2.2 ⟨i,adB.2 this,rfl⟩,rfl⟩
 · unfold T0
   rw[adz]
   have:((fun t:Tr=>t.1)∘fun i=>((i,[(i,0)]):Tr))=id:=rfl
   rw[this,List.map_id];exact List.nodup_range
 · intro t ht q hq
   obtain⟨i,hi,rfl⟩:=mem t ht
   simp at hq
   subst hq
   exact rfl
 · have:(T0 ws.length).flatMap (fun t=>t.2.map (·.1))=List.range ws.length:=by
    unfold T0
    rw[List.flatMap_map]
    have:∀l:List Nat,(l.flatMap fun i=>([(i,0)]:List (Nat×Nat)).map (·.1))=l:=by
     intro l
     induction l with
     |nil=>rfl
     |cons x l ih=>rw[acT,ih];rfl
    exact this _
   rw[this]
 · intro t ht D _
   obtain⟨i,hi,rfl⟩:=mem t ht
   simp [kr]
 · intro t ht
   obtain⟨i,hi,rfl⟩:=mem t ht
   simp
 · intro t ht
   obtain⟨i,hi,rfl⟩:=mem t ht
   exact pos _ (gw i hi)
 · intro j hj
   have:j<ws.length:=by simpa [DQ]using hj
   exact .inl (EG this)
 · unfold T0
   rw[adz]
   exact I6 ws
 · intro h t ht u hu
   obtain⟨i,hi,rfl⟩:=mem t ht
   obtain⟨j,hj,rfl⟩:=mem u hu
   have a:=hb h _ (gw i hi)
   have b:=hb h _ (gw j hj)
   show ws.getD i 0≤2* ws.getD j 0
   omega
 · intro h t ht q hq
   obtain⟨i,hi,rfl⟩:=mem t ht
   simp at hq
   subst hq
   have a:=hb h _ (gw i hi)
   show(3:Int)^0≤ws.getD i 0* 2^0
   rw[a];simp
theorem EJ.run {bal:Bool} {n:Nat} {tot:Int} (ht:tot<1000000000000000):∀(m:Nat) (s:FS) (T:List Tr),EJ bal n tot s T→T.length=m+1→(∀k,k<m→(FS.Cv k s).ok)∧∃t,EJ bal n tot (FS.Cv m s) [t]
 | 0, s, T, v, h => by
   refine⟨fun k hk=>by omega, ?_⟩
   match T,h with
   |[t],_=>exact⟨t,v⟩
 | m + 1, s, T, v, h => by
   obtain⟨ok,T',hl,v'⟩:=v.step (by omega) ht
   obtain⟨h1,t,h2⟩:=EJ.run ht m s.Nk T' v' (by omega)
   refine⟨fun k hk=> ?_,t,h2⟩
   cases k with
   |zero=>exact ok
   |succ k=>exact h1 k (by omega)
theorem Yl (ws:List Int) (bal:Bool) (h1:1≤ws.length) (pos:∀y∈ws,1≤y) (hs:ws.sum<1000000000000000) (hb:bal=true→∀y∈ws,y=1):
 (∀k,k<ws.length-1→(FS.Cv k (DQ ws)).ok)∧Jm (FS.Cv (ws.length-1) (DQ ws)).U∧(FS.Cv (ws.length-1) (DQ ws)).U.length=(FS.Cv (ws.length-1) (DQ ws)).W.length∧
 (∀D:Nat,(∀d∈yX ws,d≤(D:Int))→((yX ws).map fun d=>2^(D-d.toNat)).sum=2^D)∧
 (bal=true→∀d∈yX ws,(3:Int)^d.toNat≤ws.sum* 2^d.toNat)∧(2≤ws.length→∀d∈yX ws,1≤d):=by
 obtain⟨ok,t,v⟩:=EJ.run hs (ws.length-1) (DQ ws) (T0 ws.length) (EJ.init ws bal pos hb) (by simp [T0];omega)
 obtain⟨S,hS⟩:∃S,S=FS.Cv (ws.length-1) (DQ ws):=⟨_,rfl⟩
 have eD:yX ws=GB S.U ws.length:=by rw[hS];rfl
 rw[←hS]at v ⊢
 have up:=v.up
 have rt:=(v.root t (by simp)).2
 have rtD:S.U.getD t.1 (-1)= -1:=by rw[acM,rt];rfl
 have rl:=(xL.1 rt).1
 have lv:=v.leaves
 simp only[acT,List.flatMap_nil,acU]at lv
 have dep:∀q∈t.2,DB S.U S.U.length (S.U.getD q.1 (-1))=q.2:=fun q hq=>by
  have:=v.pt t (by simp) q hq
  have l:=N3 up this
  exact Pa up this rtD _ (by omega)
 have pm:(yX ws).Perm (t.2.map fun q=>((q.2:Nat):Int)):=by
  rw[eD]
  unfold GB
  have:=lv.symm.map (fun i=>((DB S.U S.U.length (S.U.getD i (-1)):Nat):Int))
  refine this.trans ?_
  rw[adz]
  have e:t.2.map ((fun i=>((DB S.U S.U.length (S.U.getD i (-1)):Nat):Int))∘fun x=>x.1)=t.2.map fun q=>((q.2:Nat):Int):=adm fun q hq=>by
   show((DB S.U S.U.length (S.U.getD q.1 (-1)):Nat):Int)=_
   rw[dep q hq]
  rw[e]
 have mem:∀d∈yX ws,∃q∈t.2,d=((q.2:Nat):Int):=fun d hd=>by
  obtain⟨q,hq,rfl⟩:=ac2.1 (pm.mem_iff.1 hd)
  exact⟨q,hq,rfl⟩
 refine⟨ok,up,v.lu,fun D hD=> ?_,fun hbt d hd=> ?_,fun h2 d hd=> ?_⟩
 · have:=J4 (pm.map fun d=>2^(D-d.toNat))
   rw[this,adz]
   have kk:=v.Ik t (by simp) D fun q hq=>by
    have:=hD ((q.2:Nat):Int) (pm.mem_iff.2 (ac2.2 ⟨q,hq,rfl⟩))
    omega
   rw[←kk]
   unfold kr
   congr 1
 · obtain⟨q,hq,rfl⟩:=mem d hd
   have:=v.PK hbt t (by simp) q hq
   have sm:=v.sum
   rw[acW,adr,ado,List.sum_nil,Int.add_zero]at sm
   rw[←sm]
   exact this
 · obtain⟨q,hq,rfl⟩:=mem d hd
   have pq:=v.pt t (by simp) q hq
   apply adh
   intro c
   have z:q.2=0:=by omega
   rw[z]at pq
   have e:q.1=t.1:=pq
   have ql:q.1<ws.length:=adB.1 (lv.mem_iff.1 (ac2.2 ⟨q,hq,rfl⟩))
   have rr:S.W.length=ws.length+(ws.length-1):=by rw[hS,FS.Ee];rfl
   have kk:∀D,(∀p∈t.2,p.2≤D)→kr D t.2=2^D:=v.Ik t (by simp)
   obtain⟨D,hDD⟩:∃D,∀p∈t.2,p.2≤D:=⟨t.1,fun p hp=>by have:=N3 up (v.pt t (by simp) p hp);omega⟩
   have k:=kk D hDD
   have l2:t.2.length=ws.length:=by
    have:=lv.length_eq
    simpa using this
   have pe:=List.perm_cons_erase hq
   have:kr D t.2=kr D (q::t.2.erase q):=J4 (pe.map _)
   rw[this]at k
   have:kr D (q::t.2.erase q)=2^(D-q.2)+kr D (t.2.erase q):=by simp [kr]
   rw[this,z,Nat.sub_zero]at k
   have le:=pe.length_eq
   rw[acN]at le
   cases hE:t.2.erase q with
   |nil=>rw[hE]at le;simp at le;omega
   | cons y r =>
     rw[hE]at k
     have:kr D (y::r)=2^(D-y.2)+kr D r:=by simp [kr]
     have:=Nat.pow_pos (n:=D-y.2) (show 0<2 by omega)
     omega
def BS (l:List Int) (i:Nat):List Int:=l.set i (l.getD i 0+1)
theorem CO (l:List Int) (i:Nat):(BS l i).length=l.length:=by simp [BS]
theorem FZ {l:List Int} {i:Nat} {n:Int} (h:∀y∈l,0≤y∧y≤n) (hn:0≤n):∀y∈BS l i,0≤y∧y≤n+1:=by
 intro y hy
 rcases adj hy with q|q
 · have:=h y q;omega
 · subst q
   rw[acM]
   cases e:l[i]? with
   |none=>simp;omega
   |some z=>have:=h z (xV e);simp;omega
def Ej (t:Tok):Prop:=(t.len=0∧0≤t.lit∧t.lit≤255)∨(3≤t.len∧t.len≤258∧1≤t.zm∧t.zm≤32768)
def DD:List Tok→List Int→List Int
 |[],A=>A
 |t::r,A=>DD r (if t.len=0 then BS A t.lit.toNat else BS A (Au t.len.toNat))
def DU:List Tok→List Int→List Int
 |[],B=>B
 |t::r,B=>DU r (if t.len=0 then B else BS B (AM t.zm.toNat))
structure SV (h h':H) (a b:Nat):Prop where
 floor:h'.floor=h.floor
 next:h.next≤h'.next
 Ad:∀i,i<h.next→i≠a→i≠b→h'.get i=h.get i
theorem SV.refl (h:H) (a b:Nat):SV h h a b:=⟨rfl,xQ _,fun _ _ _ _=>rfl⟩
theorem SV.trans {x y z:H} {a b:Nat} (p:SV x y a b) (q:SV y z a b):SV x z a b:=⟨q.floor.trans p.floor,yw p.next q.next,fun i h1 h2 h3=>(q.Ad i (Nat.lt_of_lt_of_le h1 p.next) h2 h3).trans (p.Ad i h1 h2 h3)⟩
theorem FW {l:List Int} {i:Nat} (h:i<l.length):(ints l)[i]?=some (.int .i64 (l.getD i 0)):=vG (by rw[acM,acQ h];rfl)
theorem LO {v:AV} {ts:List Tok} (hn:ts.length<1000000) (h0:H) (rd:zZ 3 h0 v ts.length (zS ts)) (ia ib i:Nat) (t:Tok) (ht:ts[i]?=some t) (o:Ej t) (hab:ia≠ib) (hia:h0.next≤ia) (hib:h0.next≤ib) {A B:List Int} {h:H} (hx:Ext h0 h) (ga:h.get ia=some (ints A)) (gb:h.get ib=some (ints B)) (hA:A.length=286) (hB:B.length=30) (rA:∀y∈A,0≤y∧y≤(i:Int)+1) (rB:∀y∈B,0≤y∧y≤(i:Int)+1) (fa:h.floor≤ia) (fb:h.floor≤ib) (hfl:h.floor≤h.next):
 ∃h',aP (aV AP.A) bL AP.f13L4 (aC [(0,v),(4,.aI ia 0 286 1),(5,.aI ib 0 30 1),(6,.int .i64 i)] [0,4,5,6]) h=some (.normal,[(0,v),(4,.aI ia 0 286 1),(5,.aI ib 0 30 1),(6,.int .i64 (i+1:Nat))],h')∧h'.get ia=some (ints (DD [t] A))∧h'.get ib=some (ints (DU [t] B))∧SV h h' ia ib:=by
 have ln:=rd.len
 obtain⟨ad,a1,a2,a3⟩:=rd.Qw
 have hi:i<ts.length:=(xL.1 ht).1
 have hI:(0:Int)≤(i:Int)∧(i:Int)<ts.length:=⟨by omega,by omega⟩
 have b1:=a1 _ hI
 have b2:=a2 i 0 1 hI
 have b20:=a2 i 0 0 hI
 have b22:=a2 i 0 2 hI
 obtain⟨b3,b4,b5,_⟩:=a3 h hx _ _ ht
 have n1:((i+1:Nat):Int)=(i:Int)+1:=by omega
 have la:(ints A).length=286:=by rw[rY,hA]
 have lb:(ints B).length=30:=by rw[rY,hB]
 have hian:=h.lt _ _ ga
 have hibn:=h.lt _ _ gb
 rcases o with ⟨c0,h2,h3⟩|⟨h1,h2,h3,h4⟩
 · obtain⟨y,hy⟩:∃y:Nat,t.lit=y:=acS h2
   have yt:t.lit.toNat=y:=by omega
   have gx:=FW (l:=A) (i:=y) (by omega)
   have xr:0≤A.getD y 0∧A.getD y 0≤(i:Int)+1:=by
    rw[acM,acQ (by omega)]
    exact rA _ (ade _)
   have es:=AJ A y (A.getD y 0+1)
   change _=ints (BS A y)at es
   rw[hy]at b3
   rw[c0]at b4
   have yb:y≤255:=by omega
   have eA:DD [t] A=BS A y:=by rw[DD,if_pos c0,yt];rfl
   have eB:DU [t] B=B:=by rw[DU,if_pos c0];rfl
   rw[eA,eB]
   refine⟨h.set ia (ints (BS A y)), ?_,by rw[yM rfl,ga];rfl,by rw[yE hab.symm,gb],⟨by simp,by simp,fun j _ h2 _=>yE h2⟩⟩
   rw[n1]
   clear rd a1 a2 a3 hx rA rB ht b5 h2 h3 eA eB
   generalize A.getD y 0=z at *
   generalize ints (BS A y)=A2 at *
   generalize ints A=A0 at *
   generalize ints B=B0 at *
   simp (disch:=omega)only[go_sem,yH,AP.f13L4,ln,b1,b2,b20,b3,b4,ga,la,gx,es]
 · obtain⟨L,hL⟩:∃y:Nat,t.len=y:=acS (by omega)
   obtain⟨K,hK⟩:∃y:Nat,t.zm=y:=acS (by omega)
   have Lt:t.len.toNat=L:=by omega
   have Kt:t.zm.toNat=K:=by omega
   have kl:∀g:H,aV AP.A 28 [.int .i64 L] g=_:=fun g=>Mo g L (by omega) (by omega)
   have kd:∀g:H,aV AP.A 29 [.int .i64 K] g=_:=fun g=>Rc g K (by omega) (by omega)
   have sl:=Dm (k:=L) (by omega) (by omega)
   have sd:=De (k:=K) (by omega) (by omega)
   have slt:Au L<286:=by omega
   have sdt:AM K<30:=by omega
   obtain⟨h1',eh1⟩:∃g,g=(h.alloc [.int .i64 0,.int .i64 0,.int .i64 0]).set h.next [.int .i64 (Au L:Nat),.int .i64 (Dj L:Nat),.int .i64 (DW L:Nat)]:=⟨_,rfl⟩
   have kp1:∀j,j<h.next→h1'.get j=h.get j:=fun j hj=>by rw[eh1,yE (by omega),yN (by omega)]
   have x1:Ext h0 h1':=fun j c hj=>by
    have hj2:=h.lt _ _ (hx j c hj)
    rw[kp1 j hj2,hx j c hj]
   have g1:h1'.get h.next=some [.int .i64 (Au L:Nat),.int .i64 (Dj L:Nat),.int .i64 (DW L:Nat)]:=by rw[eh1,yM rfl,yG rfl];rfl
   have nx1:h1'.next=h.next+1:=by rw[eh1];simp
   have fx1:h1'.floor=h.floor:=by rw[eh1];simp
   obtain⟨_,_,b5',_⟩:=a3 h1' x1 _ _ ht
   obtain⟨h2',eh2⟩:∃g,g=(h1'.alloc [.int .i64 0,.int .i64 0,.int .i64 0]).set h1'.next [.int .i64 (AM K:Nat),.int .i64 (Dc K:Nat),.int .i64 (DV K:Nat)]:=⟨_,rfl⟩
   have kp2:∀j,j<h1'.next→h2'.get j=h1'.get j:=fun j hj=>by rw[eh2,yE (by omega),yN (by omega)]
   have g2:h2'.get h1'.next=some [.int .i64 (AM K:Nat),.int .i64 (Dc K:Nat),.int .i64 (DV K:Nat)]:=by rw[eh2,yM rfl,yG rfl];rfl
   have g21:h2'.get h.next=some [.int .i64 (Au L:Nat),.int .i64 (Dj L:Nat),.int .i64 (DW L:Nat)]:=by rw[kp2 _ (by omega),g1]
   have ga2:h2'.get ia=some (ints A):=by rw[kp2 ia (by omega),kp1 ia hian,ga]
   have gb2:h2'.get ib=some (ints B):=by rw[kp2 ib (by omega),kp1 ib hibn,gb]
   have fx2:h2'.floor=h.floor:=by rw[eh2];simp [fx1]
   have nx2:h2'.next=h.next+2:=by rw[eh2];simp [nx1]
   have gx:=FW (l:=A) (i:=Au L) (by omega)
   have gy:=FW (l:=B) (i:=AM K) (by omega)
   have xr:0≤A.getD (Au L) 0∧A.getD (Au L) 0≤(i:Int)+1:=by
    rw[acM,acQ (by omega)]
    exact rA _ (ade _)
   have yr:0≤B.getD (AM K) 0∧B.getD (AM K) 0≤(i:Int)+1:=by
    rw[acM,acQ (by omega)]
    exact rB _ (ade _)
   have es:=AJ A (Au L) (A.getD (Au L) 0+1)
   change _=ints (BS A (Au L))at es
   have et:=AJ B (AM K) (B.getD (AM K) 0+1)
   change _=ints (BS B (AM K))at et
   rw[hL]at b4
   rw[hK]at b5'
   have cL:¬(L:Int)=0:=by omega
   obtain⟨h3',eh3⟩:∃g,g=h2'.set ia (ints (BS A (Au L))):=⟨_,rfl⟩
   have gb3:h3'.get ib=some (ints B):=by rw[eh3,yE hab.symm,gb2]
   have g31:h3'.get h1'.next=some [.int .i64 (AM K:Nat),.int .i64 (Dc K:Nat),.int .i64 (DV K:Nat)]:=by rw[eh3,yE (by omega),g2]
   have eA:DD [t] A=BS A (Au L):=by rw[DD,if_neg (by omega),Lt];rfl
   have eB:DU [t] B=BS B (AM K):=by rw[DU,if_neg (by omega),Kt];rfl
   have fx3:h3'.floor=h.floor:=by rw[eh3];simp [fx2]
   rw[eA,eB]
   refine⟨h3'.set ib (ints (BS B (AM K))), ?_,by rw[yE hab,eh3,yM rfl,ga2];rfl,by rw[yM rfl,gb3];rfl,⟨by simp [fx3],by rw[eh3];simp [nx2],fun j h1 h2 h3=>by rw[yE h3,eh3,yE h2,kp2 j (by omega),kp1 j h1]⟩⟩
   rw[n1]
   clear rd a1 a2 a3 hx x1 rA rB ht b5 h2 h3 eA eB b3 h1 h4 sl sd kp1 kp2
   generalize Au L=S at *
   generalize Dj L=B1 at *
   generalize DW L=V at *
   generalize AM K=S' at *
   generalize Dc K=B' at *
   generalize DV K=V' at *
   generalize A.getD S 0=z at *
   generalize B.getD S' 0=z' at *
   generalize ints (BS A S)=A2 at *
   generalize ints (BS B S')=B2 at *
   generalize ints A=A0 at *
   generalize ints B=B0 at *
   simp (disch:=omega)only[go_sem,yH,AP.f13L4,ln,b1,b2,b22,b4,b5',kl,kd,cL,←eh1,←eh2,g1,g2,g21,ga2,gb2,la,lb,gx,gy,es,et,←eh3,gb3,g31]
theorem FG:∀(ts:List Tok) (A:List Int),(DD ts A).length=A.length
 |[],A=>rfl
 |t::r,A=>by rw[DD,FG r];split<;>rw[CO]
theorem FI:∀(ts:List Tok) (A:List Int),(DU ts A).length=A.length
 |[],A=>rfl
 | t :: r, A => by
   rw[DU,FI r]
   split
   · rfl
   · rw[CO]
theorem FH:∀(ts:List Tok) (A:List Int) (n:Int),0≤n→(∀y∈A,0≤y∧y≤n)→∀y∈DD ts A,0≤y∧y≤n+ts.length
 |[],A,n,hn,h=>by simpa [DD]using h
 | t :: r, A, n, hn, h => by
   intro y hy
   rw[DD]at hy
   have:=FH r _ (n+1) (by omega) (by split<;>exact FZ h hn) y hy
   simp only[acN];omega
theorem FJ:∀(ts:List Tok) (A:List Int) (n:Int),0≤n→(∀y∈A,0≤y∧y≤n)→∀y∈DU ts A,0≤y∧y≤n+ts.length
 |[],A,n,hn,h=>by simpa [DU]using h
 | t :: r, A, n, hn, h => by
   intro y hy
   rw[DU]at hy
   have:=FJ r _ (n+1) (by omega) (by
    split
    · intro z hz;have:=h z hz;omega
    · exact FZ h hn) y hy
   simp only[acN];omega
theorem GX {v:AV} {ts:List Tok} (hn:ts.length<1000000) (h0:H) (rd:zZ 3 h0 v ts.length (zS ts)) (ia ib:Nat) (ok:∀t∈ts,Ej t) (hab:ia≠ib) (hia:h0.next≤ia) (hib:h0.next≤ib):∀(q p:List Tok) (A B:List Int) (h:H),ts=p++q→Ext h0 h→h0.next≤h.next→h.get ia=some (ints A)→h.get ib=some (ints B)→A.length=286→B.length=30→(∀y∈A,0≤y∧y≤(p.length:Int)+1)→(∀y∈B,0≤y∧y≤(p.length:Int)+1)→h.floor≤ia→h.floor≤ib→h.floor≤h.next→
 ∃h',Lp AP.A [0,4,5,6] AP.f13L4 [(0,v),(4,.aI ia 0 286 1),(5,.aI ib 0 30 1),(6,.int .i64 p.length)] h=some (.exit 0,[(0,v),(4,.aI ia 0 286 1),(5,.aI ib 0 30 1),(6,.int .i64 ts.length),(43,.bool false)],h')∧h'.get ia=some (ints (DD q A))∧h'.get ib=some (ints (DU q B))∧SV h h' ia ib
 | [], p, A, B, h, hp, hx, hnx, ga, gb, hA, hB, rA, rB, fa, fb, hfl => by
   rw[acU]at hp;subst hp
   have ln:=rd.len
   refine⟨h,vW ?_,ga,gb,SV.refl h ia ib⟩
   simp (disch:=omega)only[go_sem,yH,AP.f13L4,ln]
 | t :: q, p, A, B, h, hp, hx, hnx, ga, gb, hA, hB, rA, rB, fa, fb, hfl => by
   have ht:ts[p.length]?=some t:=by rw[hp];simp
   have o:=ok t (xV ht)
   obtain⟨h1,s1,ga1,gb1,f1⟩:=LO hn h0 rd ia ib p.length t ht o hab hia hib hx ga gb hA hB rA rB fa fb hfl
   have n1:(((p++[t]).length:Nat):Int)=((p.length+1:Nat):Int):=by simp
   have hx1:Ext h0 h1:=fun j c hj=>by
    have:=h0.lt _ _ hj
    rw[f1.Ad j (by omega) (by omega) (by omega),hx j c hj]
   obtain⟨h',k,g1,g2,f2⟩:=GX hn h0 rd ia ib ok hab hia hib q (p++[t]) (DD [t] A) (DU [t] B) h1 (by rw[hp];simp) hx1 (yw hnx f1.next) ga1 gb1 (by rw[FG,hA]) (by rw[FI,hB]) (fun y hy=>by have:=FH [t] A _ (by omega) rA y hy;simp at this ⊢;omega) (fun y hy=>by have:=FJ [t] B _ (by omega) rB y hy;simp at this ⊢;omega) (by rw[f1.floor];exact fa) (by rw[f1.floor];exact fb) (by rw[f1.floor];exact yw hfl f1.next)
   rw[n1]at k
   exact⟨h',vX s1 k,g1,g2,f1.trans f2⟩
def Bg:List Int→List Int→List Int
 |[],C=>C
 |d::r,C=>Bg r (BS C d.toNat)
theorem FK:∀(ds C:List Int),(Bg ds C).length=C.length
 |[],C=>rfl
 |d::r,C=>by rw[Bg,FK r,CO]
theorem FM:∀(ds A:List Int) (n:Int),0≤n→(∀y∈A,0≤y∧y≤n)→∀y∈Bg ds A,0≤y∧y≤n+ds.length
 |[],A,n,hn,h=>by simpa [Bg]using h
 | t :: r, A, n, hn, h => by
   intro y hy
   rw[Bg]at hy
   have:=FM r _ (n+1) (by omega) (FZ h hn) y hy
   simp only[acN];omega
theorem GW {lv dv mv av:AV} {D:List Int} (hD:D.length<1000) (hr:∀d∈D,0≤d∧d<19) (ic:Nat) (hb:H) (rd:Rd hb av (ints D)) (hno:hb.get ic=none):∀(q p C:List Int) (h:H),D=p++q→Ext hb h→h.get ic=some (ints C)→C.length=19→(∀y∈C,0≤y∧y≤(p.length:Int))→h.floor≤ic→
 ∃h',Lp AP.A [0,11,13,15,16,17] AP.f13L3 [(0,lv),(11,dv),(13,mv),(15,av),(16,.aI ic 0 19 1),(17,.int .i64 p.length)] h=some (.exit 2,[(0,lv),(11,dv),(13,mv),(15,av),(16,.aI ic 0 19 1),(17,.int .i64 D.length),(122,.bool false)],h')∧h'.get ic=some (ints (Bg q C))∧h'.floor=h.floor∧h'.next=h.next∧(∀i,i≠ic→h'.get i=h.get i)
 | [], p, C, h, hp, hx, gc, hC, rC, fc => by
   rw[acU]at hp;subst hp
   have ln:=rd.len
   rw[rY]at ln
   simp only[I]at ln
   refine⟨h,vW ?_,gc,rfl,rfl,fun _ _=>rfl⟩
   simp (disch:=omega)only[go_sem,yH,AP.f13L3,ln]
 | d :: q, p, C, h, hp, hx, gc, hC, rC, fc => by
   have ln:=rd.len
   rw[rY]at ln
   simp only[I]at ln
   have hl:D.length=p.length+(q.length+1):=by rw[hp];simp
   obtain⟨ad,a1,a2⟩:=rd.zL
   have b1:=a1 p.length ⟨by omega,by omega⟩
   have hd:D[p.length]?=some d:=by rw[hp];simp
   have dr:=hr d (xV hd)
   obtain⟨y,rfl⟩:=acS dr.1
   have b2:=a2 h hx p.length _ hd
   have lc:(ints C).length=19:=by rw[rY,hC]
   have gx:=FW (l:=C) (i:=y) (by omega)
   have xr:0≤C.getD y 0∧C.getD y 0≤(p.length:Int):=by
    rw[acM,acQ (by omega)]
    exact rC _ (ade _)
   have es:=AJ C y (C.getD y 0+1)
   change _=ints (BS C y)at es
   have ty:((y:Nat):Int).toNat=y:=by omega
   have g2:(h.set ic (ints (BS C y))).get ic=some (ints (BS C y)):=by rw[yM rfl,gc];rfl
   obtain⟨h',k,g,f,n,t⟩:=GW (lv:=lv) (dv:=dv) (mv:=mv) hD hr ic hb rd hno q (p++[(y:Int)]) (BS C y) (h.set ic (ints (BS C y))) (by rw[hp];simp) (hx.K6 hno _) g2 (by rw[CO,hC]) (fun z hz=>by have:=FZ rC (by omega) z hz;simp;omega) (by simpa using fc)
   have n1:(((p++[(y:Int)]).length:Nat):Int)=(p.length:Int)+1:=by simp
   rw[Bg,ty]
   refine⟨h',vX ?_ k,g,by rw[f];simp,by rw[n];simp,fun i hi=>by rw[t i hi,yE hi]⟩
   rw[n1]
   clear k g f n t g2 rd a1 a2 hr hp hd hx rC
   generalize C.getD y 0=z at *
   generalize ints (BS C y)=C2 at *
   generalize ints C=C0 at *
   simp (disch:=omega)only[go_sem,yH,AP.f13L3,ln,b1,b2,gc,lc,gx,es]
theorem MN {a0 a1 a2 a3 lv ov:AV} {L:List Int} (hL:L.length=19) (ir:Nat) (hb:H) (rl:Rd hb lv (ints L)) (ro:Rd hb ov (ints yK)) (hno:hb.get ir=none):∀(m i:Nat) (h:H),i+m=19→Ext hb h→h.get ir=some (ints ((yK.take i).map (fun o=>L.getD o.toNat 0)++List.replicate m 0))→h.floor≤ir→
 ∃h',Lp AP.A [0,11,13,15,18,20,21,22] AP.f13L2 [(0,a0),(11,a1),(13,a2),(15,a3),(18,lv),(20,ov),(21,.aI ir 0 19 1),(22,.int .i64 i)] h=some (.exit 4,[(0,a0),(11,a1),(13,a2),(15,a3),(18,lv),(20,ov),(21,.aI ir 0 19 1),(22,.int .i64 19),(142,.bool false)],h')∧h'.get ir=some (ints (yK.map (fun o=>L.getD o.toNat 0)))∧h'.floor=h.floor∧h'.next=h.next∧(∀i,i≠ir→h'.get i=h.get i)
 | 0, i, h, hi, hx, gr, fr => by
   obtain rfl:i=19:=by omega
   have e:yK.take 19=yK:=rfl
   rw[e,List.replicate_zero,acU]at gr
   refine⟨h,vW ?_,gr,rfl,rfl,fun _ _=>rfl⟩
   simp (disch:=omega)only[go_sem,yH,AP.f13L2]
 | m + 1, i, h, hi, hx, gr, fr => by
   have hi19:i<yK.length:=by show i<19;omega
   obtain⟨ad,d1,d2⟩:=rl.zL
   obtain⟨ao,o1,o2⟩:=ro.zL
   have b1:=o1 i ⟨by omega,by omega⟩
   have ho:yK[i]?=some (yK[i]):=acQ hi19
   have orr:0≤yK[i]∧yK[i]<19:=Dp _ (ade hi19)
   have tk:yK.take (i+1)=yK.take i++[yK[i]]:=by rw[List.take_add_one,ho];rfl
   obtain⟨y,hy⟩:=acS orr.1
   have ho2:yK[i]?=some (y:Int):=by rw[ho,hy]
   have b2:=o2 h hx i _ ho2
   have c1:=d1 y ⟨by omega,by omega⟩
   have lgy:L[y]?=some (L.getD y 0):=by rw[acM,acQ (by omega)];rfl
   have c2:=d2 h hx y _ lgy
   have ty:((y:Nat):Int).toNat=y:=by omega
   have lr:(ints ((yK.take i).map (fun o=>L.getD o.toNat 0)++List.replicate (m+1) 0)).length=19:=by
    rw[rY,yy,acV,adl,acZ];show min i 19+(m+1)=19;omega
   have il:((yK.take i).map (fun o=>L.getD o.toNat 0)).length=i:=by rw[acV,adl];show min i 19=i;omega
   have es:(ints ((yK.take i).map (fun o=>L.getD o.toNat 0)++List.replicate (m+1) 0)).set i (.int .i64 (L.getD y 0))=ints ((yK.take (i+1)).map (fun o=>L.getD o.toNat 0)++List.replicate m 0):=by
    rw[AJ,List.set_append_right _ _ (by omega),il,Nat.sub_self,tk,adk,acY,hy]
    rfl
   have g2:(h.set ir (ints ((yK.take (i+1)).map (fun o=>L.getD o.toNat 0)++List.replicate m 0))).get ir=some (ints ((yK.take (i+1)).map (fun o=>L.getD o.toNat 0)++List.replicate m 0)):=by rw[yM rfl,gr];rfl
   obtain⟨h',k,g,f,n,t⟩:=MN (a0:=a0) (a1:=a1) (a2:=a2) (a3:=a3) hL ir hb rl ro hno m (i+1) _ (by omega) (hx.K6 hno _) g2 (by simpa using fr)
   have n1:((i+1:Nat):Int)=(i:Int)+1:=by omega
   refine⟨h',vX ?_ k,g,by rw[f];simp,by rw[n];simp,fun i hi=>by rw[t i hi,yE hi]⟩
   rw[n1]
   clear k g f n t g2 rl ro d1 d2 o1 o2 hx ho ho2 hy orr tk lgy il
   generalize L.getD y 0=z at *
   generalize ints ((yK.take (i+1)).map (fun o=>L.getD o.toNat 0)++List.replicate m 0)=R2 at *
   generalize ints ((yK.take i).map (fun o=>L.getD o.toNat 0)++List.replicate (m+1) 0)=R0 at *
   simp (disch:=omega)only[go_sem,yH,AP.f13L2,b1,b2,c1,c2,gr,lr,es]
def DY (R:List Int):List Nat:=R.flatMap fun y=>zf y.toNat 3
theorem IK:∀R:List Int,(DY R).length=3* R.length
 |[]=>rfl
 | y :: R => by
   have:=IK R
   unfold DY at *
   rw[acT,yy,this];simp [zf,zy];omega
theorem J8 {a0 a1 a2 a3 a4 rv:AV} {R:List Int} (h0:H) (rr:Rd h0 rv (ints R)) (k:Nat) (hk:k≤R.length) (hR:R.length=19) (w:Nat) (hr:∀y∈R,0≤y∧y<8):∀(m i:Nat) (bs:List Nat) (h:H) (ov:AV),i+m=k→WX h0 h w bs ov→bs.length+3* m≤65000→
 ∃e' h' ov',Lp AP.A [0,11,13,15,18,21,23,24,25] AP.f13L1 [(0,a0),(11,a1),(13,a2),(15,a3),(18,a4),(21,rv),(23,.int .i64 k),(24,.aH w 0),(25,.int .i64 i)] h=some (.exit 6,e',h')∧look e' 0=a0∧look e' 11=a1∧look e' 13=a2∧look e' 15=a3∧look e' 18=a4∧look e' 24=.aH w 0∧WX h0 h' w (bs++DY ((R.drop i).take m)) ov'
 | 0, i, bs, h, ov, hi, x, hb => by
   obtain rfl:i=k:=by omega
   refine⟨[(0,a0),(11,a1),(13,a2),(15,a3),(18,a4),(21,rv),(23,.int .i64 i),(24,.aH w 0),(25,.int .i64 i),(177,.bool false)],h,ov,vW ?_,rfl,rfl,rfl,rfl,rfl,rfl,by simpa [DY]using x⟩
   simp (disch:=omega)only[go_sem,yH,AP.f13L1]
 | m + 1, i, bs, h, ov, hi, x, hb => by
   obtain⟨ad,d1,d2⟩:=rr.zL
   have b1:=d1 i ⟨by omega,by omega⟩
   have hg:R[i]?=some (R.getD i 0):=by rw[acM,acQ (by omega)];rfl
   have yr:=hr _ (xV hg)
   obtain⟨y,hy⟩:=acS yr.1
   rw[hy]at hg yr
   have b2:=d2 h x.ext i _ hg
   have dr:R.drop i=(y:Int)::R.drop (i+1):=by
    rw[List.drop_eq_getElem_cons (by omega)]
    rw[acQ (by omega)]at hg
    rw[xF hg]
   obtain⟨h1,o1,k1,w1,f1⟩:=CU x.wr y 3 (by omega) (by omega) (by omega)
   have k1':aV AP.A 33 [.aH w 0,.int .i64 y,.int .i64 3] h=_:=k1
   have x1:=x.step w1 f1
   have hl1:(bs++zf y 3).length=bs.length+3:=by simp [zf,zy]
   obtain⟨e',h',ov',r1,r2,r3,r4,r5,r6,r7,x2⟩:=J8 (a0:=a0) (a1:=a1) (a2:=a2) (a3:=a3) (a4:=a4) h0 rr k hk hR w hr m (i+1) _ h1 o1 (by omega) x1 (by rw[hl1];omega)
   have n1:((i+1:Nat):Int)=(i:Int)+1:=by omega
   refine⟨e',h',ov',vX ?_ r1,r2,r3,r4,r5,r6,r7, ?_⟩
   · rw[n1]
     clear r1 r2 r3 r4 r5 r6 r7 x2 x1 w1 f1 x rr d1 d2 hr dr hy hg
     simp (disch:=omega)only[go_sem,yH,AP.f13L1,b1,b2,k1']
   · rw[dr,xY]
     have:DY ((y:Int)::(R.drop (i+1)).take m)=zf y 3++DY ((R.drop (i+1)).take m):=by unfold DY;rw[acT];rfl
     rw[this,←acY]
     exact x2
def C7 (E:List (Int×Int)) (D:List Int):List Nat:=D.flatMap fun y=>yW E y.toNat
theorem Li {E:List (Int×Int)}:∀{D:List Int},(∀y∈D,Iw E y.toNat)→(C7 E D).length≤15* D.length
 |[],_=>by simp [C7]
 | y :: D, h => by
   have:=Li (E:=E) (D:=D) fun z hz=>h z (by simp [hz])
   obtain⟨n,v,_,q1,q2,q3,q4⟩:=(h y (by simp)).bits
   unfold C7 at *
   rw[acT,yy,q4,zN,acN];omega
theorem IF {a0 a1 a2 av ev:AV} {D:List Int} {E:List (Int×Int)} (h0:H) (ra:Rd h0 av (ints D)) (re:zZ 2 h0 ev E.length (E.flatMap Ax)) (hD:D.length<1000) (hE:E.length=19) (w:Nat) (hr:∀y∈D,0≤y∧y<19) (ok:∀y∈D,Iw E y.toNat):∀(q p:List Int) (bs:List Nat) (h:H) (ov:AV),D=p++q→WX h0 h w bs ov→bs.length+15* q.length≤65000→
 ∃e' h' ov',Lp AP.A [0,11,13,15,24,26,28] AP.f13L0 [(0,a0),(11,a1),(13,a2),(15,av),(24,.aH w 0),(26,ev),(28,.int .i64 p.length)] h=some (.exit 8,e',h')∧look e' 0=a0∧look e' 11=a1∧look e' 13=a2∧look e' 24=.aH w 0∧WX h0 h' w (bs++C7 E q) ov'
 | [], p, bs, h, ov, hp, x, hb => by
   rw[acU]at hp;subst hp
   have ln:=ra.len
   rw[rY]at ln
   simp only[I]at ln
   refine⟨[(0,a0),(11,a1),(13,a2),(15,av),(24,.aH w 0),(26,ev),(28,.int .i64 D.length),(194,.bool false)],h,ov,vW ?_,rfl,rfl,rfl,rfl,by simpa [C7]using x⟩
   simp (disch:=omega)only[go_sem,yH,AP.f13L0,ln]
 | d :: q, p, bs, h, ov, hp, x, hb => by
   have ln:=ra.len
   rw[rY]at ln
   simp only[I]at ln
   have hl:D.length=p.length+(q.length+1):=by rw[hp];simp
   obtain⟨ad,d1,d2⟩:=ra.zL
   obtain⟨ae,e1,e2⟩:=re.O8
   have b1:=d1 p.length ⟨by omega,by omega⟩
   have hd:D[p.length]?=some d:=by rw[hp];simp
   have dr:=hr d (xV hd)
   have oc:=ok d (xV hd)
   obtain⟨y,rfl⟩:=acS dr.1
   have b2:=d2 h x.ext p.length _ hd
   have ty:((y:Nat):Int).toNat=y:=by omega
   rw[ty]at oc
   obtain⟨n,c,q0,q1,q2,q3,q4⟩:=oc.bits
   have yl:=oc.lt
   have c1:=e1 y ⟨by omega,by omega⟩
   have c2:=e2 h x.ext _ _ q0
   simp only[acN]at hb
   obtain⟨h1,o1,k1,w1,f1⟩:=Gu x.wr c n q1 q2 q3 (by omega)
   have x1:=x.step w1 f1
   have hl1:(bs++CK c n).length=bs.length+n:=by simp [zN]
   obtain⟨e',h',ov',r1,r2,r3,r4,r5,x2⟩:=IF (a0:=a0) (a1:=a1) (a2:=a2) h0 ra re hD hE w hr ok q (p++[(y:Int)]) _ h1 o1 (by rw[hp];simp) x1 (by rw[hl1];omega)
   have n1:(((p++[(y:Int)]).length:Nat):Int)=(p.length:Int)+1:=by simp
   refine⟨e',h',ov',vX ?_ r1,r2,r3,r4,r5, ?_⟩
   · rw[n1]
     clear r1 r2 r3 r4 r5 x2 x1 w1 f1 x ra re d1 d2 e1 e2 hr hp hd ok oc q4 q0 q3
     simp (disch:=omega)only[go_sem,yH,AP.f13L0,ln,b1,b2,c1,c2,k1]
   · have:C7 E ((y:Int)::q)=CK c n++C7 E q:=by unfold C7;rw[acT,ty,q4]
     rw[this,←acY]
     exact x2
theorem dy0 {v0:AV} {g:H}:aP (aV AP.A) bL (at_ 0 AP.f13.body) (params 0 [v0]) g=some (.normal,[(0,v0)],g):=by
 simp (disch:=omega)only[go_sem,yH,AP.f13,Ar,AA]
theorem dy1 {v0:AV} {g:H} (k:aV AP.A 27 [v0] g=some (.bool true,g)):aP (aV AP.A) bL (at_ 1 AP.f13.body) [(0,v0)] g=some (.normal,[(0,v0)],g):=by
 simp (disch:=omega)only[go_sem,yH,AP.f13,Ar,AA,k]
theorem dy5 {v0 v4 v5 v11:AV} {g:H} (k:aV AP.A 30 [v4,.int .i64 15] g=some (.cf [v11,.int .i64 0],g)):aP (aV AP.A) bL (at_ 5 AP.f13.body) [(0,v0),(4,v4),(5,v5)] g=some (.normal,[(0,v0),(5,v5),(11,v11)],g):=by
 simp (disch:=omega)only[go_sem,yH,AP.f13,Ar,AA,k]
theorem dy6 {v0 v5 v11 v13:AV} {g:H} (k:aV AP.A 30 [v5,.int .i64 15] g=some (.cf [v13,.int .i64 0],g)):aP (aV AP.A) bL (at_ 6 AP.f13.body) [(0,v0),(5,v5),(11,v11)] g=some (.normal,[(0,v0),(11,v11),(13,v13)],g):=by
 simp (disch:=omega)only[go_sem,yH,AP.f13,Ar,AA,k]
theorem abV {v0 v11 v13 v15 v16 v18:AV} {g:H} (k:aV AP.A 30 [v16,.int .i64 7] g=some (.cf [v18,.int .i64 0],g)):aP (aV AP.A) bL (at_ 13 AP.f13.body) [(0,v0),(11,v11),(13,v13),(15,v15),(16,v16)] g=some (.normal,[(0,v0),(11,v11),(13,v13),(15,v15),(18,v18)],g):=by
 simp (disch:=omega)only[go_sem,yH,AP.f13,Ar,AA,k]
theorem abW {v0 v11 v13 v15 v18 v20:AV} {g:H} (k:aV AP.A 32 [] g=some (v20,g)):aP (aV AP.A) bL (at_ 14 AP.f13.body) [(0,v0),(11,v11),(13,v13),(15,v15),(18,v18)] g=some (.normal,[(0,v0),(11,v11),(13,v13),(15,v15),(18,v18),(20,v20)],g):=by
 simp (disch:=omega)only[go_sem,yH,AP.f13,Ar,AA,k]
theorem abZ {v0 v11 v13 v15 v18 v21 v23:AV} {g:H} (k:aV AP.A 31 [v21,.int .i64 4] g=some (v23,g)):aP (aV AP.A) bL (at_ 17 AP.f13.body) [(0,v0),(11,v11),(13,v13),(15,v15),(18,v18),(21,v21)] g=some (.normal,[(0,v0),(11,v11),(13,v13),(15,v15),(18,v18),(21,v21),(23,v23)],g):=by
 simp (disch:=omega)only[go_sem,yH,AP.f13,Ar,AA,k]
theorem ab0 {v0 v11 v13 v15 v18 v21 v23:AV} {g:H}:aP (aV AP.A) bL (at_ 18 AP.f13.body) [(0,v0),(11,v11),(13,v13),(15,v15),(18,v18),(21,v21),(23,v23)] g=some (.normal,[(0,v0),(11,v11),(13,v13),(15,v15),(18,v18),(21,v21),(23,v23),(24,.aH g.next 0)],(g.alloc [.aT,.int .i64 0])):=by
 simp (disch:=omega)only[go_sem,yH,AP.f13,Ar,AA]
theorem ab1 {v0 v11 v13 v15 v18 v21 v23 v24:AV} {g g2:H} (k:aV AP.A 33 [v24,.int .i64 5,.int .i64 3] g=some (.int .i64 0,g2)):aP (aV AP.A) bL (at_ 19 AP.f13.body) [(0,v0),(11,v11),(13,v13),(15,v15),(18,v18),(21,v21),(23,v23),(24,v24)] g=some (.normal,[(0,v0),(11,v11),(13,v13),(15,v15),(18,v18),(21,v21),(23,v23),(24,v24)],g2):=by
 simp (disch:=omega)only[go_sem,yH,AP.f13,Ar,AA,k]
theorem ab2 {v0 v11 v13 v15 v18 v21 v23 v24:AV} {g g2:H} {n:Nat} (ln:jZ false v11=some (.int .i64 n)) (hn:n<1000) (k:aV AP.A 33 [v24,.int .i64 ((n:Int)-257),.int .i64 5] g=some (.int .i64 0,g2)):aP (aV AP.A) bL (at_ 20 AP.f13.body) [(0,v0),(11,v11),(13,v13),(15,v15),(18,v18),(21,v21),(23,v23),(24,v24)] g=some (.normal,[(0,v0),(11,v11),(13,v13),(15,v15),(18,v18),(21,v21),(23,v23),(24,v24)],g2):=by
 simp (disch:=omega)only[go_sem,yH,AP.f13,Ar,AA,ln,k]
theorem ab3 {v0 v11 v13 v15 v18 v21 v23 v24:AV} {g g2:H} {n:Nat} (ln:jZ false v13=some (.int .i64 n)) (hn:n<1000) (k:aV AP.A 33 [v24,.int .i64 ((n:Int)-1),.int .i64 5] g=some (.int .i64 0,g2)):aP (aV AP.A) bL (at_ 21 AP.f13.body) [(0,v0),(11,v11),(13,v13),(15,v15),(18,v18),(21,v21),(23,v23),(24,v24)] g=some (.normal,[(0,v0),(11,v11),(13,v13),(15,v15),(18,v18),(21,v21),(23,v23),(24,v24)],g2):=by
 simp (disch:=omega)only[go_sem,yH,AP.f13,Ar,AA,ln,k]
theorem ab4 {v0 v11 v13 v15 v18 v21 v24:AV} {g g2:H} {n:Nat} (hn:n<1000) (k:aV AP.A 33 [v24,.int .i64 ((n:Int)-4),.int .i64 4] g=some (.int .i64 0,g2)):aP (aV AP.A) bL (at_ 22 AP.f13.body) [(0,v0),(11,v11),(13,v13),(15,v15),(18,v18),(21,v21),(23,.int .i64 n),(24,v24)] g=some (.normal,[(0,v0),(11,v11),(13,v13),(15,v15),(18,v18),(21,v21),(23,.int .i64 n),(24,v24)],g2):=by
 simp (disch:=omega)only[go_sem,yH,AP.f13,Ar,AA,k]
theorem ab5 {v0 v11 v13 v15 v18 v21 v23 v24:AV} {g g2:H} {e:Env} (L:Lp AP.A [0,11,13,15,18,21,23,24,25] AP.f13L1 [(0,v0),(11,v11),(13,v13),(15,v15),(18,v18),(21,v21),(23,v23),(24,v24),(25,.int .i64 0)] g=some (.exit 6,e,g2)) (q0:look e 0=v0) (q11:look e 11=v11) (q13:look e 13=v13) (q15:look e 15=v15) (q18:look e 18=v18) (q24:look e 24=v24):aP (aV AP.A) bL (at_ 23 AP.f13.body) [(0,v0),(11,v11),(13,v13),(15,v15),(18,v18),(21,v21),(23,v23),(24,v24)] g=some (.normal,[(0,v0),(11,v11),(13,v13),(15,v15),(18,v18),(24,v24)],g2):=by
 simp (disch:=omega)only[go_sem,yH,AP.f13,Ar,AA,u9,L,q0,q11,q13,q15,q18,q24]
theorem ab6 {v0 v11 v13 v15 v18 v24 v26:AV} {g:H} (k:aV AP.A 34 [v18] g=some (.cf [v26,.int .i64 0],g)):aP (aV AP.A) bL (at_ 24 AP.f13.body) [(0,v0),(11,v11),(13,v13),(15,v15),(18,v18),(24,v24)] g=some (.normal,[(0,v0),(11,v11),(13,v13),(15,v15),(24,v24),(26,v26)],g):=by
 simp (disch:=omega)only[go_sem,yH,AP.f13,Ar,AA,k]
theorem ab7 {v0 v11 v13 v15 v24 v26:AV} {g g2:H} {e:Env} (L:Lp AP.A [0,11,13,15,24,26,28] AP.f13L0 [(0,v0),(11,v11),(13,v13),(15,v15),(24,v24),(26,v26),(28,.int .i64 0)] g=some (.exit 8,e,g2)) (q0:look e 0=v0) (q11:look e 11=v11) (q13:look e 13=v13) (q24:look e 24=v24):aP (aV AP.A) bL (at_ 25 AP.f13.body) [(0,v0),(11,v11),(13,v13),(15,v15),(24,v24),(26,v26)] g=some (.normal,[(0,v0),(11,v11),(13,v13),(24,v24)],g2):=by
 simp (disch:=omega)only[go_sem,yH,AP.f13,Ar,AA,u9,L,q0,q11,q13,q24]
theorem ab8 {v0 v11 v13 v24 v29:AV} {g:H} (k:aV AP.A 34 [v11] g=some (.cf [v29,.int .i64 0],g)):aP (aV AP.A) bL (at_ 26 AP.f13.body) [(0,v0),(11,v11),(13,v13),(24,v24)] g=some (.normal,[(0,v0),(13,v13),(24,v24),(29,v29)],g):=by
 simp (disch:=omega)only[go_sem,yH,AP.f13,Ar,AA,k]
theorem ab9 {v0 v13 v24 v29 v31:AV} {g:H} (k:aV AP.A 34 [v13] g=some (.cf [v31,.int .i64 0],g)):aP (aV AP.A) bL (at_ 27 AP.f13.body) [(0,v0),(13,v13),(24,v24),(29,v29)] g=some (.normal,[(0,v0),(24,v24),(29,v29),(31,v31)],g):=by
 simp (disch:=omega)only[go_sem,yH,AP.f13,Ar,AA,k]
theorem aca {v0 v24 v29 v31:AV} {g g2:H} (k:aV AP.A 36 [v24,v0,v29,v31] g=some (.cf [],g2)):aP (aV AP.A) bL (at_ 28 AP.f13.body) [(0,v0),(24,v24),(29,v29),(31,v31)] g=some (.normal,[(24,v24)],g2):=by
 simp (disch:=omega)only[go_sem,yH,AP.f13,Ar,AA,k]
theorem acb {v24:AV} {g:H} {t:ByteArray} (k:aV AP.A 37 [v24] g=some (.str t,g)):aP (aV AP.A) bL (QJ 29 AP.f13.body) [(24,v24)] g=some (.ret,[(2,.str t),(3,.int .i64 0)],g):=by
 simp (disch:=omega)only[go_sem,yH,AP.f13,Qu,Qt,k]
theorem QT {h:H} {cs:List AV} {N k:Nat} (hN:cs.length=N) (h0:0<N) (hk:k≤N):uZ h 1 (CD 1 N cs) none (some (.int .i64 k)) none=some (.aZ false cs 0 k 1):=by
 unfold CD
 rw[if_neg (by omega)]
 exact HF hN hk
theorem dy7 {v0 v11 v13:AV} {g:H} {cs:List AV} {N k:Nat} (hN:cs.length=N) (h0:0<N) (hk:k≤N) (e:v11=CD 1 N cs) (u:aV AP.A 31 [CD 1 N cs,.int .i64 257] g=some (.int .i64 k,g)):aP (aV AP.A) bL (at_ 7 AP.f13.body) [(0,v0),(11,v11),(13,v13)] g=some (.normal,[(0,v0),(11,.aZ false cs 0 k 1),(13,v13)],g):=by
 subst e
 have s:=QT (h:=g) hN h0 hk
 generalize CD 1 N cs=S at *
 simp (disch:=omega)only[go_sem,yH,AP.f13,Ar,AA,u,s]
theorem dy8 {v0 v11 v13:AV} {g:H} {cs:List AV} {N k:Nat} (hN:cs.length=N) (h0:0<N) (hk:k≤N) (e:v13=CD 1 N cs) (u:aV AP.A 31 [CD 1 N cs,.int .i64 1] g=some (.int .i64 k,g)):aP (aV AP.A) bL (at_ 8 AP.f13.body) [(0,v0),(11,v11),(13,v13)] g=some (.normal,[(0,v0),(11,v11),(13,.aZ false cs 0 k 1)],g):=by
 subst e
 have s:=QT (h:=g) hN h0 hk
 generalize CD 1 N cs=S at *
 simp (disch:=omega)only[go_sem,yH,AP.f13,Ar,AA,u,s]
theorem dy9 {v0 v11 v13 v15:AV} {g g2:H} (p:mR (g.alloc []) 1 8 (.aI g.next 0 0 1) v11=some (v15,g2)):aP (aV AP.A) bL (at_ 9 AP.f13.body) [(0,v0),(11,v11),(13,v13)] g=some (.normal,[(0,v0),(11,v11),(13,v13),(15,v15)],g2):=by
 simp (disch:=omega)only[go_sem,yH,AP.f13,Ar,AA,p]
theorem abS {v0 v11 v13 v15 v16:AV} {g g2:H} (p:mR g 1 8 v15 v13=some (v16,g2)):aP (aV AP.A) bL (at_ 10 AP.f13.body) [(0,v0),(11,v11),(13,v13),(15,v15)] g=some (.normal,[(0,v0),(11,v11),(13,v13),(15,v16)],g2):=by
 simp (disch:=omega)only[go_sem,yH,AP.f13,Ar,AA,p]
theorem abT {v0 v11 v13 v15:AV} {g:H}:aP (aV AP.A) bL (at_ 11 AP.f13.body) [(0,v0),(11,v11),(13,v13),(15,v15)] g=some (.normal,[(0,v0),(11,v11),(13,v13),(15,v15),(16,.aI g.next 0 19 1)],(g.alloc (A3 19 [.int .i64 0]))):=by
 simp (disch:=omega)only[go_sem,yH,AP.f13,Ar,AA]
theorem abX {v0 v11 v13 v15 v18 v20:AV} {g:H}:aP (aV AP.A) bL (at_ 15 AP.f13.body) [(0,v0),(11,v11),(13,v13),(15,v15),(18,v18),(20,v20)] g=some (.normal,[(0,v0),(11,v11),(13,v13),(15,v15),(18,v18),(20,v20),(21,.aI g.next 0 19 1)],(g.alloc (A3 19 [.int .i64 0]))):=by
 simp (disch:=omega)only[go_sem,yH,AP.f13,Ar,AA]
theorem abU {v0 v11 v13 v15 v16 x17 x122:AV} {g g2:H} (L:Lp AP.A [0,11,13,15,16,17] AP.f13L3 [(0,v0),(11,v11),(13,v13),(15,v15),(16,v16),(17,.int .i64 0)] g=some (.exit 2,[(0,v0),(11,v11),(13,v13),(15,v15),(16,v16),(17,x17),(122,x122)],g2)):aP (aV AP.A) bL (at_ 12 AP.f13.body) [(0,v0),(11,v11),(13,v13),(15,v15),(16,v16)] g=some (.normal,[(0,v0),(11,v11),(13,v13),(15,v15),(16,v16)],g2):=by
 simp (disch:=omega)only[go_sem,yH,AP.f13,Ar,AA,u9,L]
theorem abY {v0 v11 v13 v15 v18 v20 v21 x22 x142:AV} {g g2:H} (L:Lp AP.A [0,11,13,15,18,20,21,22] AP.f13L2 [(0,v0),(11,v11),(13,v13),(15,v15),(18,v18),(20,v20),(21,v21),(22,.int .i64 0)] g=some (.exit 4,[(0,v0),(11,v11),(13,v13),(15,v15),(18,v18),(20,v20),(21,v21),(22,x22),(142,x142)],g2)):aP (aV AP.A) bL (at_ 16 AP.f13.body) [(0,v0),(11,v11),(13,v13),(15,v15),(18,v18),(20,v20),(21,v21)] g=some (.normal,[(0,v0),(11,v11),(13,v13),(15,v15),(18,v18),(21,v21)],g2):=by
 simp (disch:=omega)only[go_sem,yH,AP.f13,Ar,AA,u9,L]
theorem dy4 {v0 v4 v5 x6 x43:AV} {g g2:H} (L:Lp AP.A [0,4,5,6] AP.f13L4 [(0,v0),(4,v4),(5,v5),(6,.int .i64 0)] g=some (.exit 0,[(0,v0),(4,v4),(5,v5),(6,x6),(43,x43)],g2)):aP (aV AP.A) bL (at_ 4 AP.f13.body) [(0,v0),(4,v4),(5,v5)] g=some (.normal,[(0,v0),(4,v4),(5,v5)],g2):=by
 simp (disch:=omega)only[go_sem,yH,AP.f13,Ar,AA,u9,L]
theorem dy2 {v0:AV} {g:H}:aP (aV AP.A) bL (at_ 2 AP.f13.body) [(0,v0)] g=some (.normal,[(0,v0),(4,.aI g.next 0 286 1),(5,.aI (g.next+1) 0 30 1)],(g.alloc (A3 286 [.int .i64 0])).alloc (A3 30 [.int .i64 0])):=by
 simp (disch:=first|omega|(simp only[zX,acN,acP,xW,Nat.reduceAdd];first|done|omega|fail)|(simp (disch:=first|omega|(simp only[zX,acN,acP,xW,Nat.reduceAdd];first|done|omega|fail)|fail)only[zX,ES,acR,acN,acP,xW,Nat.reduceAdd];done)|fail)only[go_sem,yH,Fl,AP.f13,Ar,AA]
theorem dy3 {v0 v5:AV} {g:H} {ia:Nat} {A:List AV} (ga:g.get ia=some A) (hA:A.length=286) (fa:g.floor≤ia):aP (aV AP.A) bL (at_ 3 AP.f13.body) [(0,v0),(4,.aI ia 0 286 1),(5,v5)] g=some (.normal,[(0,v0),(4,.aI ia 0 286 1),(5,v5)],g.set ia (A.set 256 (.int .i64 1))):=by
 simp (disch:=omega)only[go_sem,yH,AP.f13,Ar,AA,ga,hA]
theorem To:AP.f13.body=.seq (at_ 0 AP.f13.body) (.seq (at_ 1 AP.f13.body) (.seq (at_ 2 AP.f13.body) (.seq (at_ 3 AP.f13.body) (.seq (at_ 4 AP.f13.body) (.seq (at_ 5 AP.f13.body) (.seq (at_ 6 AP.f13.body) (.seq (at_ 7 AP.f13.body) (.seq (at_ 8 AP.f13.body) (.seq (at_ 9 AP.f13.body) (.seq (at_ 10 AP.f13.body) (.seq (at_ 11 AP.f13.body) (.seq (at_ 12 AP.f13.body) (.seq (at_ 13 AP.f13.body) (.seq (at_ 14 AP.f13.body) (.seq (at_ 15 AP.f13.body) (.seq (at_ 16 AP.f13.body) (.seq (at_ 17 AP.f13.body) (.seq (at_ 18 AP.f13.body) (.seq (at_ 19 AP.f13.body) (.seq (at_ 20 AP.f13.body) (.seq (at_ 21 AP.f13.body) (.seq (at_ 22 AP.f13.body) (.seq (at_ 23 AP.f13.body) (.seq (at_ 24 AP.f13.body) (.seq (at_ 25 AP.f13.body) (.seq (at_ 26 AP.f13.body) (.seq (at_ 27 AP.f13.body) (.seq (at_ 28 AP.f13.body) ((QJ 29 AP.f13.body)))))))))))))))))))))))))))))):=rfl
theorem Cj (l:List Int) (k:Nat):∀n,k≤zJ l k n∧zJ l k n≤max k n
 |0=>⟨xQ _,by rw[zJ];omega⟩
 | n + 1 => by
   rw[zJ]
   have:=Cj l k n
   split
   · omega
   · split
     · omega
     · omega
theorem JU:∀(K:Nat) (S W O:List Int),(EP S K W O).length=O.length
 |0,S,W,O=>by rw[EP,AF]
 |K+1,S,W,O=>by rw[EP,JU K,AF]
theorem EB (C:List Int) (K:Nat):(zW C K).length=C.length:=by unfold zW;rw[JU];simp
theorem Pb (h:H) (l:List Int) {k:Nat} (hk:k≤l.length):Rd h (.aZ false (ints l) 0 k 1) (ints (l.take k)):=by
 refine⟨?_,by intro s e;cases e⟩
 have:(ints (l.take k)).length=k:=by rw[rY,adl];omega
 rw[this]
 simp [aW,ints,hk,List.map_take]
def dA (ts:List Tok):List Int:=DD ts ((List.replicate 286 0).set 256 1)
def dB (ts:List Tok):List Int:=DU ts (List.replicate 30 0)
def FR (l:List Int) (k:Nat):List Int:=l.take (zJ l k l.length)
theorem HU (l:List Int) {k:Nat} (h:k≤l.length):(FR l k).length=zJ l k l.length:=by
 have:=Cj l k l.length
 unfold FR;rw[adl];omega
def Aa (ts:List Tok) (la lb Lc:List Int):List Nat:=
 let all:=la++lb
 let row:=yK.map (fun o=>Lc.getD o.toNat 0)
 let k:=zJ row 4 19
 zf 5 3++(zf (la.length-257) 5++(zf (lb.length-1) 5++(zf (k-4) 4++(DY (row.take k)++(C7 (yF Lc) all++(Az (yF la) (yF lb) ts++yW (yF la) 256))))))
structure Lf (ts:List Tok) (KA KB KC:Nat) (la lb Lc:List Int):Prop where
 WE:PU ts=true
 n:ts.length≤300
 tok:∀t∈ts,Ej t
 ra:BV 15 KA (Am (dA ts))
 rb:BV 15 KB (Am (dB ts))
 ea:la=FR (zW (dA ts) KA) 257
 eb:lb=FR (zW (dB ts) KB) 1
 all:∀y∈la++lb,0≤y∧y<19
 rc:BV 7 KC (Am (Bg (la++lb) (List.replicate 19 0)))
 ec:Lc=zW (Bg (la++lb) (List.replicate 19 0)) KC
 row:∀y∈Lc,0≤y∧y<8
 ca:yV la=0∨yV la=302
 cb:yV lb=0∨yV lb=302
 cc:yV Lc=0∨yV Lc=302
 J3:∀y∈la++lb,Iw (yF Lc) y.toNat
 UI:∀t∈ts,QH (yF la) (yF lb) t
 Mx:Iw (yF la) 256
theorem DG (l:List Int):(yF l).length=l.length:=by simp [yF]
theorem Ef (h:H) (l:List Int):zZ 2 h (HP l) (yF l).length ((yF l).flatMap Ax):=by
 have:=IG (n:=2) (k:=l.length) (h:=h) (cs:=(yF l).flatMap Ax) (by rw[E3 Dq,DG])
 rw[DG];exact this
theorem K4 (h:H) (l:List Int):Rd h (CD 1 l.length (ints l)) (ints l):=by
 have:=IG (n:=1) (k:=l.length) (h:=h) (cs:=ints l) (by rw[rY];omega)
 exact⟨by have:=this.1;rw[rY];exact this,this.2.2⟩
theorem Dk {C:List Int} (h:2≤C.length):(zI C).length≤C.length:=Hc h (C5 0 C)
theorem NJ (h:H) (v:AV) (ts:List Tok) (KA KB KC:Nat) (la lb Lc:List Int) (ok:Lf ts KA KB KC la lb Lc) (rd:zZ 3 h v ts.length (zS ts)):
 aV AP.A 13 [v] h=some (.cf [.str (bytesOf (zO (Aa ts la lb Lc))),.int .i64 0],h):=by
 obtain⟨WE,hn,tok,ra,rb,ea,eb,hall,rc,ec,hrow,ca,cb,cc,J3,UI,Mx⟩:=ok
 have rd0:zZ 3 h.eV v ts.length (zS ts):=rd.mono fun i c q=>q
 obtain⟨h2',eh2⟩:∃g,g=(h.eV.alloc (A3 286 [.int .i64 0])).alloc (A3 30 [.int .i64 0]):=⟨_,rfl⟩
 have d2:=dy2 (v0:=v) (g:=h.eV)
 rw[←eh2]at d2
 change aP (aV AP.A) bL (at_ 2 AP.f13.body) [(0,v)] h.eV=some (.normal,[(0,v),(4,.aI h.next 0 286 1),(5,.aI (h.next+1) 0 30 1)],h2')at d2
 have gA2:h2'.get h.next=some (ints (List.replicate 286 0)):=by rw[eh2,yN (by simp),yG (by simp),CQ]
 have gB2:h2'.get (h.next+1)=some (ints (List.replicate 30 0)):=by rw[eh2,yG (by simp),CQ]
 have fl2:h2'.floor=h.next:=by rw[eh2];simp
 have nx2:h2'.next=h.next+2:=by rw[eh2];simp
 have x2:Ext h.eV h2':=by rw[eh2];exact((Ext.refl _).alloc _).alloc _
 have d3:=dy3 (v0:=v) (v5:=.aI (h.next+1) 0 30 1) gA2 (by rw[rY];simp) (by omega)
 rw[show(ints (List.replicate 286 0)).set 256 (.int .i64 1)=ints ((List.replicate 286 0).set 256 1)from AJ _ _ _]at d3
 obtain⟨h3',eh3⟩:∃g,g=h2'.set h.next (ints ((List.replicate 286 0).set 256 1)):=⟨_,rfl⟩
 rw[←eh3]at d3
 have gA3:h3'.get h.next=some (ints ((List.replicate 286 0).set 256 1)):=by rw[eh3,yM rfl,gA2];rfl
 have gB3:h3'.get (h.next+1)=some (ints (List.replicate 30 0)):=by rw[eh3,yE (by omega),gB2]
 have fl3:h3'.floor=h.next:=by rw[eh3];simp [fl2]
 have nx3:h3'.next=h.next+2:=by rw[eh3];simp [nx2]
 have x3:Ext h.eV h3':=by rw[eh3];exact x2.set (by simp) _
 obtain⟨h4,L4,gA4,gB4,f4⟩:=GX (by omega) h.eV rd0 h.next (h.next+1) tok (by omega) (by simp) (by simp) ts [] _ _ h3' rfl x3 (by simp;omega) gA3 gB3 (by simp) (by simp) (fun y hy=>by
  rcases adj hy with q|q
  · have:=adb q;omega
  · omega) (fun y hy=>by have:=adb hy;omega) (by omega) (by omega) (by omega)
 change h4.get h.next=some (ints (dA ts))at gA4
 change h4.get (h.next+1)=some (ints (dB ts))at gB4
 have d4:=dy4 L4
 have fl4:h4.floor=h.next:=by rw[f4.floor,fl3]
 have nx4:h.next+2≤h4.next:=by have:=f4.next;omega
 have x4:Ext h.eV h4:=fun i c q=>by
  have:=h.eV.lt _ _ q
  simp at this
  rw[f4.Ad i (by omega) (by omega) (by omega),x3 i c q]
 have lA:(dA ts).length=286:=by unfold dA;rw[FG];simp
 have lB:(dB ts).length=30:=by unfold dB;rw[FI];simp
 have rgA:∀y∈dA ts,0≤y∧y≤2147483647:=fun y hy=>by
  have:=FH ts ((List.replicate 286 0).set 256 1) 1 (by omega) (fun y hy=>by
   rcases adj hy with q|q
   · have:=adb q;omega
   · omega) y hy
  omega
 have rgB:∀y∈dB ts,0≤y∧y≤2147483647:=fun y hy=>by
  have:=FJ ts (List.replicate 30 0) 0 (by omega) (fun y hy=>by have:=adb hy;omega) y hy
  omega
 have rdA:Rd h4 (.aI h.next 0 286 1) (ints (dA ts)):=by
  have:yS 1 h4 (.aI h.next 0 286 1) (dA ts).length (ints (dA ts)):=by rw[lA];exact⟨by rw[rY,lA],.inr ⟨h.next,rfl,gA4,by omega,by omega⟩⟩
  exact this.UK
 have rdB:Rd h4 (.aI (h.next+1) 0 30 1) (ints (dB ts)):=by
  have:yS 1 h4 (.aI (h.next+1) 0 30 1) (dB ts).length (ints (dB ts)):=by rw[lB];exact⟨by rw[rY,lB],.inr ⟨h.next+1,rfl,gB4,by omega,by omega⟩⟩
  exact this.UK
 have sA:=Dk (C:=dA ts) (by omega)
 have sB:=Dk (C:=dB ts) (by omega)
 have kA:=E9 h4 _ (dA ts) 15 KA (by omega) (by omega) rdA (by omega) rgA (by omega) ra
 have kB:=E9 h4 _ (dB ts) 15 KB (by omega) (by omega) rdB (by omega) rgB (by omega) rb
 have lLA:=EB (dA ts) KA
 have lLB:=EB (dB ts) KB
 generalize zW (dA ts) KA=LA at *
 generalize zW (dB ts) KB=LB at *
 rw[lA]at lLA
 rw[lB]at lLB
 have kA':aV AP.A 30 [.aI h.next 0 286 1,.int .i64 15] h4=some (.cf [CD 1 LA.length (ints LA),.int .i64 0],h4):=by rw[lLA];rw[lA]at kA;exact kA
 have kB':aV AP.A 30 [.aI (h.next+1) 0 30 1,.int .i64 15] h4=some (.cf [CD 1 LB.length (ints LB),.int .i64 0],h4):=by rw[lLB];rw[lB]at kB;exact kB
 have d5:=dy5 (v0:=v) (v5:=.aI (h.next+1) 0 30 1) kA'
 have d6:=dy6 (v0:=v) (v11:=CD 1 LA.length (ints LA)) kB'
 have uA:=Od h4 _ LA (by omega) (K4 h4 LA) 257 (by omega)
 have uB:=Od h4 _ LB (by omega) (K4 h4 LB) 1 (by omega)
 have ugA:=Cj LA 257 LA.length
 have ugB:=Cj LB 1 LB.length
 have d7:=dy7 (v0:=v) (v13:=CD 1 LB.length (ints LB)) (rY LA) (by omega) (by omega) rfl uA
 have d8:=dy8 (v0:=v) (v11:=.aZ false (ints LA) 0 (zJ LA 257 LA.length) 1) (rY LB) (by omega) (by omega) rfl uB
 have r11:∀g:H,Rd g (.aZ false (ints LA) 0 (zJ LA 257 LA.length) 1) (ints la):=fun g=>by rw[ea];exact Pb g LA (by omega)
 have r13:∀g:H,Rd g (.aZ false (ints LB) 0 (zJ LB 1 LB.length) 1) (ints lb):=fun g=>by rw[eb];exact Pb g LB (by omega)
 have lla:la.length=zJ LA 257 LA.length:=by rw[ea];exact HU LA (by omega)
 have llb:lb.length=zJ LB 1 LB.length:=by rw[eb];exact HU LB (by omega)
 generalize hv11:AV.aZ false (ints LA) 0 (zJ LA 257 LA.length) 1=v11 at *
 generalize hv13:AV.aZ false (ints LB) 0 (zJ LB 1 LB.length) 1=v13 at *
 have la1:257≤la.length∧la.length≤286:=by omega
 have lb1:1≤lb.length∧lb.length≤30:=by omega
 clear uA uB kA kB kA' kB' ugA ugB rdA rdB rgA rgB sA sB
 have a1:=En (z:=8) (r11 h4).T8 (by omega) (by omega) (by rw[rY];omega) (A9 (by rw[rY];omega)) (kX la)
 obtain⟨h5,eh5⟩:∃g,g=((h4.alloc []).del h4.next).alloc (ints la):=⟨_,rfl⟩
 rw[←eh5]at a1
 rw[rY]at a1
 have d9:=dy9 (v0:=v) (v13:=v13) a1
 have ow5:yS 1 h5 (.aI (h4.next+1) 0 la.length 1) la.length (ints la):=⟨by rw[rY];omega,.inr ⟨h4.next+1,rfl,by rw[eh5,yG (by simp)],by rw[eh5];simp;omega,by omega⟩⟩
 have fl5:h5.floor=h.next:=by rw[eh5];simp [fl4]
 have nx5:h4.next≤h5.next:=by rw[eh5];simp;omega
 have k5:∀i,i<h4.next→h5.get i=h4.get i:=fun i hi=>by rw[eh5,yN (by simp;omega),Dd (by omega),yN (by omega)]
 obtain⟨v15,h6,p1,ow6,fl6,nx6,k6,id6⟩:=ow5.app (by omega) (z:=8) (m:=lb.length) (by omega) (by omega) (ints lb) (by rw[rY];omega) (kX lb) (A9 (by omega))
 have a2:mR h5 1 8 (.aI (h4.next+1) 0 la.length 1) v13=some (v15,h6):=by
  unfold mR
  rw[(r13 h5).1,xM,rY]
  exact p1
 have d10:=abS (v0:=v) (v11:=v11) a2
 rw[←rX,←yy]at ow6
 have k6':∀i,i<h4.next→h6.get i=h4.get i:=fun i hi=>by
  rw[k6 i (fun e=>by have:=xF e;omega) (by omega),k5 i hi]
 have id6':v15.id?=some h5.next:=id6
 generalize hal:la++lb=all at *
 have lal:all.length≤316∧0<all.length:=by rw[←hal,yy];omega
 have d11:=abT (v0:=v) (v11:=v11) (v13:=v13) (v15:=v15) (g:=h6)
 obtain⟨h7,eh7⟩:∃g,g=h6.alloc (A3 19 [.int .i64 0]):=⟨_,rfl⟩
 rw[←eh7]at d11
 have gC7:h7.get h6.next=some (ints (List.replicate 19 0)):=by rw[eh7,yG rfl,CQ]
 have h6n:h6.get h6.next=none:=by
  cases e:h6.get h6.next with
  |none=>rfl
  |some c=>have:=h6.lt _ _ e;omega
 have x7:Ext h6 h7:=by rw[eh7];exact(Ext.refl _).alloc _
 obtain⟨h8,L8,gC8,fl8,nx8,k8⟩:=GW (lv:=v) (dv:=v11) (mv:=v13) (by omega) hall h6.next h6 ow6.UK h6n all [] _ h7 rfl x7 gC7 (by simp) (fun y hy=>by have:=adb hy;simp;omega) (by rw[eh7];simp;have:=(ow6.lt id6').2;omega)
 have d12:=abU L8
 have lC:(Bg all (List.replicate 19 0)).length=19:=by rw[FK];simp
 have rgC:∀y∈Bg all (List.replicate 19 0),0≤y∧y≤2147483647:=fun y hy=>by
  have:=FM all (List.replicate 19 0) 0 (by omega) (fun y hy=>by have:=adb hy;omega) y hy
  omega
 have fl7:h7.floor=h.next:=by rw[eh7];simp;omega
 have rdC:Rd h8 (.aI h6.next 0 19 1) (ints (Bg all (List.replicate 19 0))):=by
  have:yS 1 h8 (.aI h6.next 0 19 1) (Bg all (List.replicate 19 0)).length (ints (Bg all (List.replicate 19 0))):=by
   rw[lC];exact⟨by rw[rY,lC],.inr ⟨h6.next,rfl,gC8,by rw[fl8,fl7];have:=(ow6.lt id6');omega,by omega⟩⟩
  exact this.UK
 have sC:=Dk (C:=Bg all (List.replicate 19 0)) (by omega)
 have kC:=E9 h8 _ (Bg all (List.replicate 19 0)) 7 KC (by omega) (by omega) rdC (by omega) rgC (by omega) rc
 have lLc:Lc.length=19:=by rw[ec,EB,lC]
 have kC':aV AP.A 30 [.aI h6.next 0 19 1,.int .i64 7] h8=some (.cf [CD 1 Lc.length (ints Lc),.int .i64 0],h8):=by rw[lLc];rw[←ec,lC]at kC;exact kC
 have d13:=abV (v0:=v) (v11:=v11) (v13:=v13) (v15:=v15) kC'
 have d14:=abW (v0:=v) (v11:=v11) (v13:=v13) (v15:=v15) (v18:=CD 1 Lc.length (ints Lc)) (MA h8)
 have d15:=abX (v0:=v) (v11:=v11) (v13:=v13) (v15:=v15) (v18:=CD 1 Lc.length (ints Lc)) (v20:=zj yK) (g:=h8)
 obtain⟨h9,eh9⟩:∃g,g=h8.alloc (A3 19 [.int .i64 0]):=⟨_,rfl⟩
 rw[←eh9]at d15
 have gR9:h9.get h8.next=some (ints (List.replicate 19 0)):=by rw[eh9,yG rfl,CQ]
 have h8n:h8.get h8.next=none:=by
  cases e:h8.get h8.next with
  |none=>rfl
  |some c=>have:=h8.lt _ _ e;omega
 have x9:Ext h8 h9:=by rw[eh9];exact(Ext.refl _).alloc _
 have fl8':h8.floor=h.next:=by rw[fl8,fl7]
 have nx8':h6.next+1=h8.next:=by rw[nx8,eh7];simp
 have nx6':h.next+2≤h6.next:=by omega
 obtain⟨h10,L10,gR10,fl10,nx10,k10⟩:=MN (a0:=v) (a1:=v11) (a2:=v13) (a3:=v15) lLc h8.next h8 (K4 h8 Lc) (Bf h8 yK) h8n 19 0 h9 (by omega) x9 gR9 (by rw[eh9];simp;omega)
 have d16:=abY L10
 obtain⟨R,hR⟩:∃R,R=yK.map (fun o=>Lc.getD o.toNat 0):=⟨_,rfl⟩
 rw[←hR]at gR10
 have lR:R.length=19:=by rw[hR];rfl
 have rR:∀y∈R,0≤y∧y<8:=by
  intro y hy
  rw[hR]at hy
  obtain⟨o,ho,rfl⟩:=ac2.1 hy
  have:=Dp o ho
  have hol:o.toNat<Lc.length:=by omega
  rw[acM,acQ hol]
  exact hrow _ (ade hol)
 have fl10':h10.floor=h.next:=by rw[fl10,eh9];simp [fl8']
 have nx10':h8.next+1=h10.next:=by rw[nx10,eh9];simp
 have rdR:Rd h10 (.aI h8.next 0 19 1) (ints R):=by
  have:yS 1 h10 (.aI h8.next 0 19 1) R.length (ints R):=by
   rw[lR];exact⟨by rw[rY,lR],.inr ⟨h8.next,rfl,gR10,by omega,by omega⟩⟩
  exact this.UK
 have kU:=Od h10 _ R (by omega) rdR 4 (by omega)
 have uk:=Cj R 4 R.length
 rw[lR]at uk
 have d17:=abZ (v0:=v) (v11:=v11) (v13:=v13) (v15:=v15) (v18:=CD 1 Lc.length (ints Lc)) kU
 rw[lR]at d17
 obtain⟨k,hk⟩:∃k,k=zJ R 4 19:=⟨_,rfl⟩
 rw[←hk]at d17 uk
 have b10:∀i,i<h6.next→h10.get i=h6.get i:=fun i hi=>by
  rw[k10 i (by omega),eh9,yN (by omega),k8 i (by omega),eh7,yN (by omega)]
 have x10:Ext h.eV h10:=fun i c q=>by
  have hi:=h.eV.lt _ _ q
  simp at hi
  rw[b10 i (by omega),k6' i (by omega),x4 i c q]
 have rdv:zZ 3 h10 v ts.length (zS ts):=rd0.mono x10
 have rda:Rd h10 v15 (ints all):=(ow6.mono (by omega) fun i hi=>b10 i (ow6.lt hi).2).UK
 have d18:=ab0 (v0:=v) (v11:=v11) (v13:=v13) (v15:=v15) (v18:=CD 1 Lc.length (ints Lc)) (v21:=.aI h8.next 0 19 1) (v23:=.int .i64 (k:Nat)) (g:=h10)
 obtain⟨h11,eh11⟩:∃g,g=h10.alloc [.aT,.int .i64 0]:=⟨_,rfl⟩
 rw[←eh11]at d18
 have wx0:WX h10 h11 h10.next [] .aT:=by
  refine⟨⟨by rw[eh11,yG rfl];rfl,yS.nil,by rw[eh11];simp;omega,by rw[eh11];simp;omega,by simp [AV.id?],fun b hb=>by simp [zO,BD]at hb⟩,by rw[eh11];exact(Ext.refl _).alloc _,xQ _,by rw[eh11];simp,fun j hj=>by simp [AV.id?]at hj⟩
 obtain⟨h12,o12,p12,w12,f12⟩:=CU wx0.wr 5 3 (by omega) (by omega) (by simp)
 have wx1:=wx0.step w12 f12
 have l1:([]++zf 5 3).length=3:=by simp [zf,zy]
 obtain⟨h13,o13,p13,w13,f13⟩:=CU wx1.wr (la.length-257) 5 (by omega) (by omega) (by omega)
 have wx2:=wx1.step w13 f13
 have l2:([]++zf 5 3++zf (la.length-257) 5).length=8:=by simp [zf,zy]
 obtain⟨h14,o14,p14,w14,f14⟩:=CU wx2.wr (lb.length-1) 5 (by omega) (by omega) (by omega)
 have wx3:=wx2.step w14 f14
 have l3:([]++zf 5 3++zf (la.length-257) 5++zf (lb.length-1) 5).length=13:=by simp [zf,zy]
 obtain⟨h15,o15,p15,w15,f15⟩:=CU wx3.wr (k-4) 4 (by omega) (by omega) (by omega)
 have wx4:=wx3.step w15 f15
 have l4:([]++zf 5 3++zf (la.length-257) 5++zf (lb.length-1) 5++zf (k-4) 4).length=17:=by simp [zf,zy]
 have p12':aV AP.A 33 [.aH h10.next 0,.int .i64 5,.int .i64 3] h11=some (.int .i64 0,h12):=p12
 have p13':aV AP.A 33 [.aH h10.next 0,.int .i64 ((la.length:Int)-257),.int .i64 5] h12=some (.int .i64 0,h13):=by
  have e:((la.length-257:Nat):Int)=(la.length:Int)-257:=by omega
  rw[e]at p13;exact p13
 have p14':aV AP.A 33 [.aH h10.next 0,.int .i64 ((lb.length:Int)-1),.int .i64 5] h13=some (.int .i64 0,h14):=by
  have e:((lb.length-1:Nat):Int)=(lb.length:Int)-1:=by omega
  rw[e]at p14;exact p14
 have p15':aV AP.A 33 [.aH h10.next 0,.int .i64 ((k:Int)-4),.int .i64 4] h14=some (.int .i64 0,h15):=by
  have e:((k-4:Nat):Int)=(k:Int)-4:=by omega
  rw[e]at p15;exact p15
 have ln11:jZ false v11=some (.int .i64 la.length):=by have:=(r11 h10).len;rw[rY]at this;exact this
 have ln13:jZ false v13=some (.int .i64 lb.length):=by have:=(r13 h10).len;rw[rY]at this;exact this
 have d19:=ab1 (v0:=v) (v11:=v11) (v13:=v13) (v15:=v15) (v18:=CD 1 Lc.length (ints Lc)) (v21:=.aI h8.next 0 19 1) (v23:=.int .i64 (k:Nat)) p12'
 have d20:=ab2 (v0:=v) (v13:=v13) (v15:=v15) (v18:=CD 1 Lc.length (ints Lc)) (v21:=.aI h8.next 0 19 1) (v23:=.int .i64 (k:Nat)) ln11 (by omega) p13'
 have d21:=ab3 (v0:=v) (v11:=v11) (v15:=v15) (v18:=CD 1 Lc.length (ints Lc)) (v21:=.aI h8.next 0 19 1) (v23:=.int .i64 (k:Nat)) ln13 (by omega) p14'
 have d22:=ab4 (v0:=v) (v11:=v11) (v13:=v13) (v15:=v15) (v18:=CD 1 Lc.length (ints Lc)) (v21:=.aI h8.next 0 19 1) (n:=k) (by omega) p15'
 obtain⟨e16,h16,o16,L16,q0,q11,q13,q15,q18,q24,wx5⟩:=J8 (a0:=v) (a1:=v11) (a2:=v13) (a3:=v15) (a4:=CD 1 Lc.length (ints Lc)) h10 rdR k (by omega) lR h10.next rR k 0 _ h15 o15 (by omega) wx4 (by omega)
 have d23:=ab5 L16 q0 q11 q13 q15 q18 q24
 have k24:=FN h16 _ Lc (by omega) (by omega) (K4 h16 Lc) cc
 have d24:=ab6 (v0:=v) (v11:=v11) (v13:=v13) (v15:=v15) (v24:=.aH h10.next 0) k24
 have l5:([]++zf 5 3++zf (la.length-257) 5++zf (lb.length-1) 5++zf (k-4) 4++DY ((R.drop 0).take k)).length≤17+57:=by
  rw[yy,l4,IK,adl];omega
 obtain⟨e17,h17,o17,L17,q0',q11',q13',q24',wx6⟩:=IF (a0:=v) (a1:=v11) (a2:=v13) h10 rda (Ef h10 Lc) (by omega) (by rw[DG];exact lLc) h10.next hall J3 all [] _ h16 o16 rfl wx5 (by omega)
 have d25:=ab7 L17 q0' q11' q13' q24'
 have k26:=FN h17 v11 la (by omega) (by omega) (r11 h17) ca
 have k27:=FN h17 v13 lb (by omega) (by omega) (r13 h17) cb
 have d26:=ab8 (v0:=v) (v13:=v13) (v24:=.aH h10.next 0) k26
 have d27:=ab9 (v0:=v) (v24:=.aH h10.next 0) (v29:=HP la) k27
 have l6:=Li J3
 obtain⟨h18,o18,k28,wx7⟩:=SF (by omega) h10 rdv (Ef h10 la) (Ef h10 lb) UI Mx h10.next _ h17 o17 wx6 (by rw[yy];omega)
 have d28:=aca k28
 have k29:=Lb wx7.wr
 have d29:=acb k29
 have eB:[]++zf 5 3++zf (la.length-257) 5++zf (lb.length-1) 5++zf (k-4) 4++DY ((R.drop 0).take k)++C7 (yF Lc) all++(Az (yF la) (yF lb) ts++yW (yF la) 256)=Aa ts la lb Lc:=by
  unfold Aa
  simp only[adt,acY,ac8,hk,hR,hal]
 rw[eB]at d29
 have k1:=UA h.eV v ts (by omega) rd0
 rw[WE]at k1
 have d0:=dy0 (v0:=v) (g:=h.eV)
 have d1:=dy1 k1
 refine wN (fn:=AP.f13) (h2:=h18) (e:=[(2,.str (bytesOf (zO (Aa ts la lb Lc)))),(3,.int .i64 0)]) rfl rfl rfl ?_ rfl rfl
 rw[To,uT,d0,vB,uT,d1,vB,uT,d2,vB,uT,d3,vB,uT,d4,vB,uT,d5,vB,uT,d6,vB,uT,d7,vB]
 rw[uT,d8,vB,uT,d9,vB,uT,d10,vB,uT,d11,vB,uT,d12,vB,uT,d13,vB,uT,d14,vB,uT,d15,vB,uT,d16,vB]
 rw[uT,d17,vB,uT,d18,vB,uT,d19,vB,uT,d20,vB,uT,d21,vB,uT,d22,vB,uT,d23,vB,uT,d24,vB,uT,d25,vB]
 rw[uT,d26,vB,uT,d27,vB,uT,d28,vB,d29]
theorem UJ (c:Int):∀k:Nat,c* 2^k<3^k→0≤c→∀m:Nat,c* 2^(k+m)<3^(k+m)
 |k,h,hc,0=>h
 | k, h, hc, m + 1 => by
   have ih:=UJ c k h hc m
   rw[←xO,Int.pow_succ,Int.pow_succ,←Int.mul_assoc]
   have p:(0:Int)≤c* 2^(k+m):=Int.mul_nonneg hc (Int.pow_nonneg (by omega))
   omega
theorem KT:∀(ds:List Int) (a m:Int),(∀d∈ds,d≤m)→a≤m→DX ds a≤m
 |[],a,m,_,h=>h
 | d :: ds, a, m, hd, h => by
   rw[DX]
   refine KT ds _ m (fun x hx=>hd x (by simp [hx])) ?_
   have:=hd d (by simp)
   unfold KS;split<;>omega
theorem OX:∀(ds:List Int) (a:Int),a≤DX ds a∧∀d∈ds,d≤DX ds a
 |[],a=>⟨Int.le_refl _,by simp⟩
 | d :: ds, a => by
   have⟨h1,h2⟩:=OX ds (KS a d)
   have:a≤KS a d∧d≤KS a d:=by unfold KS;split<;>omega
   rw[DX]
   refine⟨by omega,fun x hx=> ?_⟩
   rcases yu.1 hx with q|q
   · subst q;omega
   · exact h2 x q
theorem Mz:∀ws:List Int,(∀y∈ws,y=1)→ws.sum=ws.length
 |[],_=>rfl
 | y :: ws, h => by
   have:=Mz ws fun z hz=>h z (by simp [hz])
   have:=h y (by simp)
   rw[ado,acN];omega
theorem K0:∀ws:List Int,(∀y∈ws,1≤y)→(ws.length:Int)≤ws.sum
 |[],_=>by simp
 | y :: ws, h => by
   have:=K0 ws fun z hz=>h z (by simp [hz])
   have:=h y (by simp)
   rw[ado,acN];omega
theorem GI:∀ws:List Int,(∀y∈ws,1≤y)→(zV ws).sum≤ws.sum∧((∃y∈ws,y≠1)→(zV ws).sum<ws.sum)
 |[],_=>⟨Int.le_refl _,by simp⟩
 | y :: ws, h => by
   obtain⟨h1,h2⟩:=GI ws fun z hz=>h z (by simp [hz])
   have hy:=h y (by simp)
   have e:(zV (y::ws)).sum=EO y+(zV ws).sum:=by simp [zV]
   rw[e,ado]
   have a:EO y≤y:=by unfold EO;omega
   refine⟨by omega,fun ⟨z,hz,hz1⟩=> ?_⟩
   rcases yu.1 hz with q|q
   · subst q
     have:EO z<z:=by unfold EO;omega
     omega
   · have:=h2 ⟨z,q,hz1⟩;omega
theorem JK {ws:List Int} (h:∀y∈ws,1≤y):∀y∈zV ws,1≤y:=by
 intro y hy
 obtain⟨z,hz,rfl⟩:=ac2.1 hy
 have:=h z hz
 unfold EO;omega
theorem Ix {ws:List Int} (h1:1≤ws.length) (ho:∀y∈ws,y=1) {c:Int} {k:Nat} (hc:(ws.length:Int)≤c) (hk:c* 2^(k+1)<3^(k+1)) (hs:ws.length≤288):∀d∈yX ws,d≤k:=by
 intro d hd
 have sm:=Mz ws ho
 obtain⟨_,_,_,_,hb,_⟩:=Yl ws true h1 (fun y hy=>by have:=ho y hy;omega) (by omega) (fun _=>ho)
 have b:=hb rfl d hd
 apply adh
 intro q
 obtain⟨m,hm⟩:∃m:Nat,d.toNat=k+1+m:=⟨d.toNat-(k+1),by omega⟩
 rw[hm]at b
 have:=UJ c (k+1) hk (by omega) m
 have p:(0:Int)<2^(k+1+m):=Int.pow_pos (by omega)
 have:ws.sum* 2^(k+1+m)≤c* 2^(k+1+m):=Int.mul_le_mul_of_nonneg_right (by omega) (by omega)
 omega
theorem My {ws:List Int} (hl:ws.length≤288) (pos:∀y∈ws,1≤y) (hs:ws.sum<1000000000000000):J2 ws:=by
 by_cases e:ws=[]
 · exact .inl e
 · have h1:1≤ws.length:=adx.2 e
   obtain⟨a,b,c,_⟩:=Yl ws false h1 pos hs (fun h=>by cases h)
   exact .inr ⟨h1,hl,a,b,c⟩
theorem Qr {most : Int} (hm : 0 ≤ most) : ∀ (f : Nat) (ws : List Int), ws.sum ≤ f → (∀ y ∈ ws, 1 ≤ y) → ws.sum < 1000000000000000 → ((13 ≤ most ∧ ws.length ≤ 288) ∨ (7 ≤ most ∧ ws.length ≤ 19)) → ∃ K, BV most K ws := by
 intro f
 induction f with
 | zero =>
   intro ws hf pos hs hl
   have:=K0 ws pos
   have:ws=[]:=List.length_eq_zero_iff.1 (by omega)
   subst this
   exact⟨0,.last (.inl rfl) hm⟩
 | succ f ih =>
   intro ws hf pos hs hl
   have o:=My (by omega) pos hs
   by_cases c:DX (yX ws) 0≤most
   · exact⟨0,.last o c⟩
   · have hne:ws≠[]:=fun e=>by subst e;exact c hm
     have h1:1≤ws.length:=adx.2 hne
     have ho:∃y∈ws,y≠1:=by
      apply adh
      intro q
      have all1:∀y∈ws,y=1:=fun y hy=>adh fun r=>q ⟨y,hy,r⟩
      rcases hl with ⟨a,b⟩|⟨a,b⟩
      · have:=Ix (c:=288) (k:=13) h1 all1 (by omega) (by decide) (by omega)
        exact c (KT _ _ _ (fun d hd=>by have:=this d hd;omega) hm)
      · have:=Ix (c:=19) (k:=7) h1 all1 (by omega) (by decide) (by omega)
        exact c (KT _ _ _ (fun d hd=>by have:=this d hd;omega) hm)
     have hh:=(GI ws pos).2 ho
     obtain⟨K,r⟩:=ih (zV ws) (by omega) (JK pos) (by omega) (by rw[CF];exact hl)
     exact⟨K+1,.more o (by omega) hne r⟩
theorem Cg:∀(S D O:List Int) (p:Nat),(∀s∈S,s.toNat≠p)→(zH S D O)[p]?=O[p]?
 |[],D,O,p,h=>by simp [zH]
 |s::S,[],O,p,h=>by simp [zH]
 | s :: S, d :: D, O, p, h => by
   rw[zH,Cg S D _ p fun t ht=>h t (by simp [ht]),ac3,if_neg (h s (by simp))]
theorem EH:∀(S D O:List Int) (j:Nat) (s d:Int),(S.map Int.toNat).Nodup→S[j]?=some s→D[j]?=some d→s.toNat<O.length→(zH S D O)[s.toNat]?=some d
 |[],D,O,j,s,d,nd,h1,h2,h3=>by simp at h1
 |t::S,[],O,j,s,d,nd,h1,h2,h3=>by simp at h2
 | t :: S, e :: D, O, 0, s, d, nd, h1, h2, h3 => by
   simp at h1 h2
   subst h1;subst h2
   rw[acW,List.nodup_cons]at nd
   rw[zH,Cg S D _ _ fun u hu q=>nd.1 (ac2.2 ⟨u,hu,q⟩),ac3,if_pos rfl,if_pos h3]
 | t :: S, e :: D, O, j + 1, s, d, nd, h1, h2, h3 => by
   rw[acW,List.nodup_cons]at nd
   rw[zH]
   exact EH S D _ j s d nd.2 (by simpa using h1) (by simpa using h2) (by rw[ac0];exact h3)
theorem MR {S D O:List Int} {n:Nat} (hl:D.length=S.length) (nd:(S.map Int.toNat).Nodup) (hO:O.length=n) (hr:∀s∈S,s.toNat<n) (hz:∀p,p<n→(∀s∈S,s.toNat≠p)→O[p]?=some 0):zH S D O=zH S D (List.replicate n 0):=by
 apply List.ext_getElem?
 intro p
 by_cases hp:p<n
 · by_cases c:∃s∈S,s.toNat=p
   · obtain⟨s,hs,rfl⟩:=c
     obtain⟨j,hj,ej⟩:=List.mem_iff_getElem.1 hs
     have h1:S[j]?=some s:=by rw[acQ hj,ej]
     have h2:D[j]?=some (D[j]'(by omega)):=acQ (by omega)
     rw[EH S D O j s _ nd h1 h2 (by omega),EH S D _ j s _ nd h1 h2 (by simpa using hp)]
   · have c':∀s∈S,s.toNat≠p:=fun s hs q=>c ⟨s,hs,q⟩
     rw[Cg _ _ _ _ c',Cg _ _ _ _ c',hz p hp c',List.getElem?_replicate,if_pos hp]
 · rw[ac1 (by rw[AF];omega),ac1 (by rw[AF];simp;omega)]
theorem Iq {most:Int} {S:List Int} {n:Nat} (nd:(S.map Int.toNat).Nodup) (hr:∀s∈S,s.toNat<n):∀(K:Nat) (W O:List Int),BV most K W→W.length=S.length→(∀y∈W,1≤y)→W.sum<1000000000000000→O.length=n→(∀p,p<n→(∀s∈S,s.toNat≠p)→O[p]?=some 0)→
 ∃W',W'.length=S.length∧(∀y∈W',1≤y)∧W'.sum<1000000000000000∧DX (yX W') 0≤most∧EP S K W O=zH S (yX W') (List.replicate n 0)
 | 0, W, O, r, hl, pos, hs, hO, hz => by
   cases r with
   |last o c=>exact⟨W,hl,pos,hs,c,MR (by rw[D8,hl]) nd hO hr hz⟩
 | K + 1, W, O, r, hl, pos, hs, hO, hz => by
   cases r with
   | more o c hne r =>
     have:=(GI W pos).1
     exact Iq nd hr K (zV W) _ r (by rw[CF,hl]) (JK pos) (by omega) (by rw[AF,hO]) (fun p hp hq=>by rw[Cg _ _ _ _ hq];exact hz p hp hq)
theorem Po (f:Int→Nat):∀(O:List Int) (i:Nat) (d:Int),i<O.length→((O.set i d).map f).sum+f (O.getD i 0)=(O.map f).sum+f d
 |[],i,d,h=>by simp at h
 |x::O,0,d,h=>by simp;omega
 | x :: O, i + 1, d, h => by
   have:=Po f O i d (by simpa using h)
   simp only[List.set_cons_succ,acW,ado,List.getD_cons_succ];omega
theorem IQ (f:Int→Nat):∀(S D O:List Int),D.length=S.length→(S.map Int.toNat).Nodup→(∀s∈S,s.toNat<O.length)→((zH S D O).map f).sum+(S.map fun s=>f (O.getD s.toNat 0)).sum=(O.map f).sum+(D.map f).sum
 | [], D, O, hl, nd, hr => by
   have:D=[]:=List.length_eq_zero_iff.1 (by simpa using hl)
   subst this
   simp [zH]
 |s::S,[],O,hl,nd,hr=>by simp at hl
 | s :: S, d :: D, O, hl, nd, hr => by
   rw[acW,List.nodup_cons]at nd
   have ih:=IQ f S D (O.set s.toNat d) (by simpa using hl) nd.2 (fun t ht=>by rw[ac0];exact hr t (by simp [ht]))
   have e:(S.map fun t=>f ((O.set s.toNat d).getD t.toNat 0))=S.map fun t=>f (O.getD t.toNat 0):=adm fun t ht=>by
    rw[getD_set_ne (fun q=>nd.1 (ac2.2 ⟨t,ht,q.symm⟩))]
   rw[e]at ih
   have ss:=Po f O s.toNat d (hr s (by simp))
   simp only[zH,acW,ado]
   omega
def f15 (n:Nat) (x:Int):Nat:=if 1≤x∧x≤n then 2^(n-x.toNat)else 0
theorem JR:∀n,yU [] n=2^n
 |0=>rfl
 | n + 1 => by
   have c:Ah [] (n+1)=0:=KJ _
   rw[yU,JR n,c,Int.pow_succ];omega
theorem JP (n:Nat):∀(q p:List Int),yU (p++q) n=yU p n-((q.map (f15 n)).sum:Nat)
 |[],p=>by simp
 | x :: q, p => by
   have e:p++x::q=(p++[x])++q:=by simp
   rw[e,JP n q (p++[x]),E6,acW,ado]
   unfold f15
   split
   · push_cast;omega
   · push_cast;omega
theorem EA (l:List Int) (n:Nat):yU l n=2^n-((l.map (f15 n)).sum:Nat):=by
 have:=JP n l []
 rwa [adt,JR]at this
theorem JQ (l:List Int):∀n,yJ l n+Ah l n+yU l n=2^n
 |0=>by simp [yJ,yU,Ah]
 | n + 1 => by
   have:=JQ l n
   rw[yJ,yU,Int.pow_succ];omega
theorem NX {l : List Int} {n : Nat} (h : 0 ≤ yU l n) : ∀ m, m ≤ n → 0 ≤ yU l m := by
 have:∀k m,m+k=n→0≤yU l m:=by
  intro k
  induction k with
  | zero => intro m hm; have : m = n := by omega
            subst this;exact h
  | succ k ih =>
    intro m hm
    have:=ih (m+1) (by omega)
    rw[yU]at this
    omega
 exact fun m hm=>this (n-m) m (by omega)
theorem LJ {l:List Int} {s:Nat} (hs:s<l.length) {n:Nat} (hn:1≤n) (e:l.getD s 0=(n:Int)):Ah (l.take s) n<Ah l n:=by
 have a:=EL hs n hn
 rw[if_pos e]at a
 have:∀(p q:List Int),Ah p n≤Ah (p++q) n:=fun p q=>by
  unfold Ah;split
  · exact xQ _
  · rw[List.countP_append];omega
 have b:=this (l.take (s+1)) (l.drop (s+1))
 rw[List.take_append_drop]at b
 omega
theorem KX {l:List Int} (hl:0≤yU l 15) (hr:∀y∈l,0≤y∧y<16) {s:Nat} (hs:s<l.length) (h1:1≤l.getD s 0):Iw (yF l) s:=by
 have hm:l.getD s 0∈l:=by rw[acM,acQ hs];exact ade hs
 have r:=hr _ hm
 obtain⟨n,hn⟩:=acS r.1
 have n1:1≤n:=by omega
 have lt:=LJ hs n1 hn
 have f:=JQ l n
 have m:=NX hl n (by omega)
 have fb:=(show 0≤yJ l n from by
  have:∀n,0≤yJ l n:=by
   intro n
   induction n with
   |zero=>simp [yJ]
   |succ n ih=>rw[yJ];omega
  exact this n)
 have tn:((n:Nat):Int).toNat=n:=by omega
 refine⟨n,(yJ l n+Ah (l.take s) n).toNat, ?_,n1,by omega, ?_⟩
 · unfold yF
   rw[ya,adw hs,acR]
   unfold EM
   rw[if_pos h1,hn,tn]
   congr 2
   omega
 · have e2:((2^n:Nat):Int)=(2:Int)^n:=by push_cast;rfl
   omega
theorem Kj:∀(C:List Int) (i:Nat),((zR i C).map Int.toNat).Nodup
 |[],i=>by simp [zR]
 | c :: r, i => by
   have ih:=Kj r (i+1)
   rw[zR]
   split
   · rw[acW,List.nodup_cons]
     refine⟨fun h=> ?_,ih⟩
     obtain⟨s,hs,e⟩:=ac2.1 h
     have:=Ch (i+1) r s hs
     omega
   · exact ih
theorem Fi:∀(C:List Int) (i p:Nat),0<C.getD p 0→((i+p:Nat):Int)∈zR i C
 |[],i,p,h=>by simp at h
 | c :: r, i, 0, h => by
   rw[zR,if_pos (by simpa using h)]
   simp
 | c :: r, i, p + 1, h => by
   have ih:=Fi r (i+1) p (by simpa using h)
   have e:i+1+p=i+(p+1):=by omega
   rw[e]at ih
   rw[zR]
   split
   · exact List.mem_cons_of_mem _ ih
   · exact ih
theorem I8:∀(C:List Int) (i:Nat),(∀y∈C,¬0<y)→zR i C=[]
 |[],i,h=>rfl
 | c :: r, i, h => by
   rw[zR,if_neg (h c (by simp))]
   exact I8 r (i+1) fun y hy=>h y (by simp [hy])
theorem MG {S:List Int} {s:Int} (h:s∈S):s∈C4 S:=by
 unfold C4
 split
 · rename_i h1
   match S,h1 with
   | [t], _ =>
     simp at h;subst h
     split<;>simp
 · exact h
theorem TV {S : List Int} (h : (S.map Int.toNat).Nodup) (hp : ∀ s ∈ S, 0 ≤ s) : ((C4 S).map Int.toNat).Nodup := by
 unfold C4
 split
 · rename_i h1
   match S,h1 with
   | [t], _ =>
     have:=hp t (by simp)
     split
     · rename_i c
       simp at c ⊢
       omega
     · rename_i c
       simp at c ⊢
       omega
 · exact h
theorem RZ {S:List Int} (h:S≠[]):2≤(C4 S).length:=by
 unfold C4
 split
 · rename_i h1
   split
   · simp
   · simp [h1]
 · rename_i h1
   have:=adx.2 h
   omega
theorem R1 {S W:List Int} (hl:W.length=S.length) (h:∀y∈W,1≤y):∀y∈EK S W,1≤y:=by
 intro s hs
 unfold EK at hs
 split at hs
 · rename_i h1
   rw[←hl]at h1
   match W,h1 with
   | [t], _ =>
     have:=h t (by simp)
     split at hs
     · simp at hs;omega
     · simp at hs;omega
 · exact h s hs
theorem MY {α:Type}:∀l:List α,(l.map fun _=>(0:Nat)).sum=0
 |[]=>rfl
 |x::l=>by rw[acW,ado,MY l]
theorem Qc {C:List Int} (h:∀y∈C,¬0<y):zI C=[]:=by
 unfold zI;rw[I8 C 0 h];rfl
theorem I5:∀(l:List Int) (b:Int),(∀y∈l,y≤b)→l.sum≤b* l.length
 |[],b,_=>by simp
 | y :: l, b, h => by
   have:=I5 l b fun z hz=>h z (by simp [hz])
   have hy:=h y (by simp)
   rw[ado,acN]
   have e:b* ((l.length+1:Nat):Int)=b* l.length+b:=by rw[Int.natCast_add,Int.mul_add];simp
   omega
theorem Mp {C : List Int} (hC : ∀ y ∈ C, 0 ≤ y ∧ y ≤ 2147483647) (h2 : 2 ≤ C.length) (hl : C.length ≤ 288) : (∀ y ∈ Am C, 1 ≤ y) ∧ (Am C).sum < 1000000000000000 := by
 have pos:∀y∈Am C,1≤y:=R1 (BG 0 C).symm fun y hy=>by have:=(DC C y hy).2;omega
 refine⟨pos, ?_⟩
 have up:∀y∈Am C,y≤2147483647:=by
  intro y hy
  have w:∀z∈CV C,z≤2147483647:=fun z hz=>(hC z (DC C z hz).1).2
  unfold Am EK at hy
  split at hy
  · rename_i h1
    rw[BG]at h1
    match hW:CV C,h1 with
    | [t], _ =>
      rw[hW]at w hy
      have:=w t (by simp)
      split at hy
      · simp at hy;omega
      · simp at hy;omega
  · exact w y hy
 have:=I5 (Am C) 2147483647 up
 have l1:(Am C).length=(zI C).length:=KR C
 have l2:=Dk h2
 omega
theorem Ed {C:List Int} {most:Int} (hC:∀y∈C,0≤y∧y≤2147483647) (h2:2≤C.length) (hm:0≤most) (hl:(13≤most∧C.length≤288)∨(7≤most∧C.length≤19)):∃K,BV most K (Am C):=by
 obtain⟨a,b⟩:=Mp hC h2 (by omega)
 have l1:(Am C).length=(zI C).length:=KR C
 have l2:=Dk h2
 exact Qr hm (Am C).sum.toNat (Am C) (by have:=K0 _ a;omega) a b (by omega)
theorem EC {C : List Int} {most : Int} {K : Nat} (hC : ∀ y ∈ C, 0 ≤ y ∧ y ≤ 2147483647) (h2 : 2 ≤ C.length) (hl : C.length ≤ 288) (hm : 0 ≤ most ∧ most ≤ 15) (r : BV most K (Am C)) :
 (zW C K).length=C.length∧(∀y∈zW C K,0≤y∧y≤most)∧(∀p,0<C.getD p 0→1≤(zW C K).getD p 0)∧((∃y∈C,0<y)→yU (zW C K) 15=0)∧((∀y∈C,¬0<y)→zW C K=List.replicate C.length 0):=by
 obtain⟨a,b⟩:=Mp hC h2 hl
 have nd:((zI C).map Int.toNat).Nodup:=TV (Kj C 0) fun s hs=>by have:=Ch 0 C s hs;omega
 have rg:∀s∈zI C,0≤s∧s<C.length:=MH h2 fun s hs=>by have:=Ch 0 C s hs;omega
 have rg':∀s∈zI C,s.toNat<C.length:=fun s hs=>by have:=rg s hs;omega
 obtain⟨W',w1,w2,w3,w4,w5⟩:=Iq nd rg' K (Am C) (List.replicate C.length 0) r (KR C) a b (by simp) (fun p hp _=>by rw[List.getElem?_replicate,if_pos hp])
 have e:zW C K=zH (zI C) (yX W') (List.replicate C.length 0):=w5
 have dl:(yX W').length=(zI C).length:=by rw[D8,w1]
 have dm:∀d∈yX W',d≤most:=fun d hd=>by have:=(OX (yX W') 0).2 d hd;omega
 have o:=My (ws:=W') (by have:=Dk h2;omega) w2 w3
 have d0:=GY o
 have gin:∀(j:Nat) (s d:Int),(zI C)[j]?=some s→(yX W')[j]?=some d→(zW C K)[s.toNat]?=some d:=fun j s d h1 h2=>by
  rw[e];exact EH _ _ _ j s d nd h1 h2 (by simpa using rg' s (xV h1))
 have gout:∀p:Nat,(∀s∈zI C,s.toNat≠p)→(zW C K)[p]?=(List.replicate C.length (0:Int))[p]?:=fun p hp=>by rw[e,Cg _ _ _ _ hp]
 have hu:zI C≠[]→2≤(zI C).length:=fun hne=>by
  refine RZ fun q=>hne ?_
  unfold zI;rw[q];rfl
 have h1w:zI C≠[]→_:=fun hne=>Yl W' false (by have:=hu hne;omega) w2 w3 (fun h=>by cases h)
 refine⟨EB C K, ?_, ?_, ?_, ?_⟩
 · intro y hy
   obtain⟨p,hp⟩:=yg.1 hy
   by_cases c:∃s∈zI C,s.toNat=p
   · obtain⟨s,hs,rfl⟩:=c
     obtain⟨j,hj⟩:=yg.1 hs
     have jl:=(xL.1 hj).1
     have hd:(yX W')[j]?=some ((yX W')[j]'(by omega)):=acQ (by omega)
     rw[gin j s _ hj hd]at hp
     obtain rfl:=xF hp
     have m:=ade (l:=yX W') (n:=j) (by omega)
     exact⟨(d0 _ m).1,dm _ m⟩
   · rw[gout p fun s hs q=>c ⟨s,hs,q⟩,List.getElem?_replicate]at hp
     split at hp
     · obtain rfl:=xF hp;omega
     · cases hp
 · intro p hp
   have sm:=Fi C 0 p hp
   rw[xW]at sm
   have hs:(p:Int)∈zI C:=MG sm
   obtain⟨j,hj⟩:=yg.1 hs
   have jl:=(xL.1 hj).1
   have hd:(yX W')[j]?=some ((yX W')[j]'(by omega)):=acQ (by omega)
   have g:=gin j _ _ hj hd
   have tp:((p:Nat):Int).toNat=p:=by omega
   rw[tp]at g
   rw[acM,g]
   have hne:zI C≠[]:=fun q=>by rw[q]at hs;simp at hs
   exact(h1w hne).2.2.2.2.2 (by have:=hu hne;omega) _ (ade _)
 · rintro ⟨y,hy,hpos⟩
   obtain⟨p,hp⟩:=yg.1 hy
   have sm:=Fi C 0 p (by rw[acM,hp];exact hpos)
   have hs:((0+p:Nat):Int)∈zI C:=MG sm
   have hne:zI C≠[]:=fun q=>by rw[q]at hs;simp at hs
   have H:=h1w hne
   have kr:=H.2.2.2.1 15 (fun d hd=>by have:=dm d hd;omega)
   have one:=H.2.2.2.2.2 (by have:=hu hne;omega)
   have ss:=IQ (f15 15) (zI C) (yX W') (List.replicate C.length 0) dl nd (fun s hs=>by simpa using rg' s hs)
   rw[←e]at ss
   have z1:((zI C).map fun s=>f15 15 ((List.replicate C.length (0:Int)).getD s.toNat 0)).sum=0:=by
    have:(zI C).map (fun s=>f15 15 ((List.replicate C.length (0:Int)).getD s.toNat 0))=(zI C).map fun _=>0:=adm fun s hs=>by
     rw[EG (rg' s hs)];rfl
    rw[this,MY]
   have z2:((List.replicate C.length (0:Int)).map (f15 15)).sum=0:=by
    rw[List.map_replicate]
    have:f15 15 0=0:=rfl
    rw[this];simp
   have z3:(yX W').map (f15 15)=(yX W').map fun d=>2^(15-d.toNat):=adm fun d hd=>by
    unfold f15
    rw[if_pos ⟨one d hd,by have:=dm d hd;omega⟩]
   rw[z1,z2,z3,kr]at ss
   rw[EA,show((zW C K).map (f15 15)).sum=2^15 by omega]
   rfl
 · intro h
   rw[e,Qc h]
   simp [zH]
theorem DO (l : List Int) (k : Nat) : ∀ n p, zJ l k n ≤ p → p < n → ¬ 0 < l.getD p 0
 |0,p,h1,h2=>by omega
 | n + 1, p, h1, h2 => by
   rw[zJ]at h1
   split at h1
   · omega
   · split at h1
     · omega
     · by_cases e:p=n
       · subst e;assumption
       · exact DO l k n p h1 (by omega)
theorem Oy {l : List Int} (hr : ∀ y ∈ l, 0 ≤ y) (k n : Nat) : yU (FR l k) n = yU l n := by
 have e:l=FR l k++l.drop (zJ l k l.length):=(List.take_append_drop _ _).symm
 have z:((l.drop (zJ l k l.length)).map (f15 n)).sum=0:=by
  have:∀q:List Int,(∀y∈q,y=0)→(q.map (f15 n)).sum=0:=by
   intro q
   induction q with
   |nil=>intro _;rfl
   | cons x q ih =>
     intro h
     rw[acW,ado,ih fun y hy=>h y (by simp [hy]),h x (by simp)]
     unfold f15;simp
  refine this _ fun y hy=> ?_
  obtain⟨j,hj⟩:=yg.1 hy
  rw[yd]at hj
  have hl:=(xL.1 hj).1
  have:=DO l k l.length (zJ l k l.length+j) (by omega) hl
  rw[acM,hj]at this
  have:=hr y (List.mem_of_mem_drop hy)
  simp at *
  omega
 rw[EA,EA]
 have:(l.map (f15 n)).sum=((FR l k).map (f15 n)).sum:=by
  conv=>lhs;rw[e]
  rw[adk,List.sum_append,z,adC]
 rw[this]
theorem Tl {l:List Int} (k:Nat) {p:Nat} (h:0<l.getD p 0):p<(FR l k).length∧(FR l k).getD p 0=l.getD p 0:=by
 have hp:p<l.length:=by
  apply adh
  intro c
  rw[acM,ac1 (by omega)]at h
  simp at h
 have:p<zJ l k l.length:=by
  apply adh
  intro c
  exact DO l k l.length p (by omega) hp h
 unfold FR
 refine⟨by rw[adl];omega, ?_⟩
 rw[acM,yx,if_pos this,←acM]
theorem C9 {l:List Int} (h1:1≤l.length) (h2:l.length≤288) (hr:∀y∈l,0≤y∧y<16) (h:0≤yU l 15):yV l=if yU l 15=0 then 0 else 302:=by
 have hm:Fc l=true:=by
  unfold Fc
  have:(ints l).any DT=false:=by
   rw[List.any_eq_false]
   intro x hx
   obtain⟨y,hy,rfl⟩:=ac2.1 hx
   have:=hr y hy
   simp [DT,I];omega
  rw[this];simp;omega
 unfold yV
 rw[if_neg (by rw[hm];simp),if_neg (by omega)]
 split
 · rw[if_neg (by omega)]
 · rw[if_pos (by omega)]
theorem MO (s:ByteArray) (i j:Nat):∀f k,(∀m,m<k→AX s (i+m)=AX s (j+m))→∀m,m<CR s i j f k→AX s (i+m)=AX s (j+m)
 |0,k,h=>by simpa [CR]using h
 | f + 1, k, h => by
   unfold CR
   split
   · rename_i q
     refine MO s i j f (k+1) fun m hm=> ?_
     by_cases e:m=k
     · subst e;exact q.2.2
     · exact h m (by omega)
   · exact h
theorem HH (s:ByteArray) (i:Nat) (hi:i≤s.size):∀(n:Nat) (b:Nat×Nat),n≤i→(b.1=0∨(b.1≤258∧1≤b.2∧b.2≤i∧i+b.1≤s.size∧∀m,m<b.1→AX s (i+m)=AX s (i-b.2+m)))→
 ((AN s i n b).1=0∨((AN s i n b).1≤258∧1≤(AN s i n b).2∧(AN s i n b).2≤i∧i+(AN s i n b).1≤s.size∧∀m,m<(AN s i n b).1→AX s (i+m)=AX s (i-(AN s i n b).2+m)))
 |0,b,hn,h=>h
 | n + 1, b, hn, h => by
   unfold AN
   refine HH s i hi n _ (by omega) ?_
   split
   · right
     refine⟨Pe s i n,by show 1≤i-n;omega,by show i-n≤i;omega,Kg s i n hi,fun m hm=> ?_⟩
     have:=MO s i n 258 0 (fun m hm=>by omega) m hm
     have e:i-(i-n)=n:=by omega
     show AX s (i+m)=AX s (i-(i-n)+m)
     rw[e];exact this
   · exact h
def preB (s:ByteArray) (i:Nat):List Nat:=(List.range i).map (AX s)
theorem Cs (s:ByteArray) (i:Nat):(preB s i).length=i:=by simp [preB]
theorem J5 (s:ByteArray) (i:Nat):preB s (i+1)=preB s i++[AX s i]:=by simp [preB,List.range_succ]
theorem MI (s:ByteArray) {i j:Nat} (h:j<i):(preB s i).getD j 0=AX s j:=by
 rw[acM,preB,ya,adw h];rfl
theorem Ow (s:ByteArray) {d:Nat} (hd:1≤d):∀(n i:Nat),d≤i→(∀m,m<n→AX s (i+m)=AX s (i-d+m))→Nj d n (preB s i)=preB s (i+n)
 |0,i,h,_=>rfl
 | n + 1, i, h, hm => by
   have e0:=hm 0 (by omega)
   simp only[adC]at e0
   rw[Nj,Cs,MI s (by omega),←e0,←J5,Ow s hd n (i+1) (by omega) fun m h2=>by
    have:=hm (m+1) (by omega)
    have a1:i+(m+1)=i+1+m:=by omega
    have a2:i-d+(m+1)=i+1-d+m:=by omega
    rw[a1,a2]at this;exact this]
   congr 1;omega
theorem Oa (s:ByteArray) {i:Nat} (hi:i<s.size):((Ay s i).1.len=0∧(Ay s i).1.lit=AX s i∧(Ay s i).1.zm=0∧(Ay s i).2=i+1)∨
 (∃L D:Nat,(Ay s i).1.len=L∧(Ay s i).1.zm=D∧(Ay s i).1.lit=0∧3≤L∧L≤258∧1≤D∧D≤i∧(Ay s i).2=i+L∧i+L≤s.size∧∀m,m<L→AX s (i+m)=AX s (i-D+m)):=by
 unfold Ay
 split
 · exact .inl ⟨rfl,rfl,rfl,rfl⟩
 · rename_i c
   right
   rcases HH s i (by omega) i (0,0) (xQ _) (.inl rfl)with h|⟨h1,h2,h3,h4,h5⟩
   · omega
   · exact⟨_,_,rfl,rfl,rfl,by omega,h1,h2,h3,rfl,h4,h5⟩
theorem DA (s : ByteArray) (hs : s.size ≤ 300) : ∀ (f i : Nat), s.size - i ≤ f → i ≤ s.size → (Fj s f i).length ≤ s.size - i ∧ (∀ t ∈ Fj s f i, Ej t) ∧ zh i (Fj s f i) = true ∧ CA (Fj s f i) (preB s i) = preB s s.size
 | 0, i, hf, hi => by
   have:i=s.size:=by omega
   subst this
   simp [Fj,zh,CA]
 | f + 1, i, hf, hi => by
   rw[Fj]
   split
   · rename_i c
     have lt:=Nd s i
     have le:=Nc s i c
     obtain⟨i1,i2,i3,i4⟩:=DA s hs f (Ay s i).2 (by omega) le
     have sp:=Oa s c
     refine⟨by rw[acN];omega, ?_, ?_, ?_⟩
     · intro t ht
       rcases yu.1 ht with q|q
       · subst q
         rcases sp with ⟨a,b,_,_⟩|⟨L,D,a,b,_,c1,c2,c3,c4,_,_,_⟩
         · have:=CJ s i
           exact .inl ⟨a,by omega,by omega⟩
         · exact .inr ⟨by omega,by omega,by omega,by omega⟩
       · exact i2 t q
     · rw [zh]
       rcases sp with ⟨a,b,c0,d⟩|⟨L,D,a,b,c0,c1,c2,c3,c4,d,e,_⟩
       · have hb:=CJ s i
         have st:AG (i:Int) (Ay s i).1=some ((i:Int)+1):=by
          unfold AG
          rw[if_pos a,if_neg (by omega)]
         rw[st]
         simp only
         rw[if_neg (by omega)]
         have e:(((Ay s i).2:Nat):Int)=(i:Int)+1:=by omega
         rw[←e];exact i3
       · have st:AG (i:Int) (Ay s i).1=some ((i:Int)+L):=by
          unfold AG
          rw[if_neg (by omega),if_neg (by omega),a]
         rw[st]
         simp only
         rw[if_neg (by omega)]
         have e':(((Ay s i).2:Nat):Int)=(i:Int)+L:=by omega
         rw[←e'];exact i3
     · rw [CA]
       rcases sp with ⟨a,b,c0,d⟩|⟨L,D,a,b,c0,c1,c2,c3,c4,d,e,g⟩
       · have:zK (preB s i) (Ay s i).1=preB s (Ay s i).2:=by
          unfold zK
          rw[if_pos a,b,d,J5];rfl
         rw[this];exact i4
       · have:zK (preB s i) (Ay s i).1=preB s (Ay s i).2:=by
          unfold zK
          rw[if_neg (by omega),a,b,d]
          exact Ow s c3 L i c4 g
         rw[this];exact i4
   · have:i=s.size:=by omega
     subst this
     simp [zh,CA]
theorem HY (s:ByteArray) (hs:s.size≤300):PU (tokens s)=true:=by
 obtain⟨_,_,h3,h4⟩:=DA s hs s.size 0 (by omega) (by omega)
 unfold PU Ep tokens
 have h3':zh 0 (Fj s s.size 0)=true:=h3
 rw[if_pos h3']
 have:CA (Fj s s.size 0) []=preB s s.size:=h4
 rw[this]
 simp only[ze,Cs]
 simpa using hs
theorem Ih (l:List Int) (i p:Nat):l.getD p 0≤(BS l i).getD p 0:=by
 unfold BS
 by_cases e:i=p
 · subst e
   by_cases h:i<l.length
   · rw[acM (l:=l.set i _),ac3,if_pos rfl,if_pos h]
     show l.getD i 0≤l.getD i 0+1
     omega
   · rw[List.set_eq_of_length_le (by omega)];exact Int.le_refl _
 · rw[getD_set_ne e];exact Int.le_refl _
theorem FY {l:List Int} {i:Nat} (h:i<l.length):(BS l i).getD i 0=l.getD i 0+1:=by
 unfold BS
 rw[acM (l:=l.set i _),ac3,if_pos rfl,if_pos h];rfl
theorem FE:∀(ts:List Tok) (A:List Int) (p:Nat),A.getD p 0≤(DD ts A).getD p 0
 |[],A,p=>Int.le_refl _
 | t :: r, A, p => by
   rw[DD]
   refine Int.le_trans ?_ (FE r _ p)
   split<;>exact Ih _ _ _
theorem LG:∀(ts:List Tok) (A:List Int) (p:Nat),A.getD p 0≤(DU ts A).getD p 0
 |[],A,p=>Int.le_refl _
 | t :: r, A, p => by
   rw[DU]
   refine Int.le_trans ?_ (LG r _ p)
   split
   · exact Int.le_refl _
   · exact Ih _ _ _
theorem LI:∀(ts:List Int) (A:List Int) (p:Nat),A.getD p 0≤(Bg ts A).getD p 0
 |[],A,p=>Int.le_refl _
 | t :: r, A, p => by
   rw[Bg]
   exact Int.le_trans (Ih _ _ _) (LI r _ p)
theorem Gi {A:List Int} (h:∀y∈A,0≤y) (p:Nat):0≤A.getD p 0:=by
 rw[acM]
 cases e:A[p]? with
 |none=>simp
 |some y=>exact h y (xV e)
theorem NZ {A:List Int} (h:∀y∈A,0≤y) (i:Nat):∀y∈BS A i,0≤y:=by
 intro y hy
 rcases adj hy with q|q
 · exact h y q
 · have:=Gi h i;omega
theorem LF : ∀ (ts : List Tok) (A : List Int), (∀ y ∈ A, 0 ≤ y) → A.length = 286 → ∀ t ∈ ts, Ej t → (t.len = 0 → 1 ≤ (DD ts A).getD t.lit.toNat 0) ∧ (t.len ≠ 0 → 1 ≤ (DD ts A).getD (Au t.len.toNat) 0)
 |[],A,_,_,t,h,_=>by simp at h
 | u :: r, A, hA, hl, t, h, o => by
   rw[DD]
   rcases yu.1 h with q|q
   · subst q
     refine⟨fun h0=> ?_,fun h0=> ?_⟩
     · rw[if_pos h0]
       refine Int.le_trans ?_ (FE r _ _)
       rcases o with ⟨_,b,c⟩|⟨a,_⟩
       · rw[FY (by omega)]
         have:=Gi hA t.lit.toNat;omega
       · omega
     · rw[if_neg h0]
       refine Int.le_trans ?_ (FE r _ _)
       rcases o with ⟨a,_⟩|⟨a,b,_⟩
       · exact absurd a h0
       · have:=Dm (k:=t.len.toNat) (by omega) (by omega)
         rw[FY (by omega)]
         have:=Gi hA (Au t.len.toNat);omega
   · exact LF r _ (by split<;>exact NZ hA _) (by split<;>rw[CO,hl]) t q o
theorem LH : ∀ (ts : List Tok) (A : List Int), (∀ y ∈ A, 0 ≤ y) → A.length = 30 → ∀ t ∈ ts, Ej t → t.len ≠ 0 → 1 ≤ (DU ts A).getD (AM t.zm.toNat) 0
 |[],A,_,_,t,h,_,_=>by simp at h
 | u :: r, A, hA, hl, t, h, o, h0 => by
   rw[DU]
   rcases yu.1 h with q|q
   · subst q
     rw[if_neg h0]
     refine Int.le_trans ?_ (LG r _ _)
     rcases o with ⟨a,_⟩|⟨a,b,c,d⟩
     · exact absurd a h0
     · have:=De (k:=t.zm.toNat) (by omega) (by omega)
       rw[FY (by omega)]
       have:=Gi hA (AM t.zm.toNat);omega
   · refine LH r _ ?_ ?_ t q o h0
     · split
       · exact hA
       · exact NZ hA _
     · split
       · exact hl
       · rw[CO,hl]
theorem HN:∀(ds:List Int) (A:List Int),(∀y∈A,0≤y)→A.length=19→∀y∈ds,0≤y∧y<19→1≤(Bg ds A).getD y.toNat 0
 |[],A,_,_,t,h,_=>by simp at h
 | u :: r, A, hA, hl, t, h, o => by
   rw[Bg]
   rcases yu.1 h with q|q
   · subst q
     refine Int.le_trans ?_ (LI r _ _)
     rw[FY (by omega)]
     have:=Gi hA t.toNat;omega
   · exact HN r _ (NZ hA _) (by rw[CO,hl]) t q o
theorem EF (n:Nat):∀y∈List.replicate n (0:Int),0≤y∧y≤0:=fun y hy=>by have:=adb hy;omega
theorem Uw (ts:List Tok) (hn:ts.length≤300):(dA ts).length=286∧(∀y∈dA ts,0≤y∧y≤2147483647)∧1≤(dA ts).getD 256 0:=by
 have z:∀y∈(List.replicate 286 (0:Int)).set 256 1,0≤y∧y≤1:=fun y hy=>by
  rcases adj hy with q|q
  · have:=adb q;omega
  · omega
 refine⟨by unfold dA;rw[FG,ac0,acZ],fun y hy=> ?_, ?_⟩
 · have:=FH ts _ 1 (by omega) z y hy;omega
 · have h:((List.replicate 286 (0:Int)).set 256 1).getD 256 0=1:=by decide
   have:=FE ts ((List.replicate 286 0).set 256 1) 256
   rw[h]at this
   exact this
theorem Ux (ts:List Tok) (hn:ts.length≤300):(dB ts).length=30∧(∀y∈dB ts,0≤y∧y≤2147483647):=by
 refine⟨by unfold dB;rw[FI,acZ],fun y hy=> ?_⟩
 have:=FJ ts _ 0 (by omega) (EF 30) y hy;omega
theorem RS {ts:List Tok} {la lb:List Int} {t:Tok} (o:Ej t) (hA:t.len=0→Iw (yF la) t.lit.toNat) (hL:t.len≠0→Iw (yF la) (Au t.len.toNat)) (hB:t.len≠0→Iw (yF lb) (AM t.zm.toNat)):QH (yF la) (yF lb) t:=by
 rcases o with ⟨a,b,c⟩|⟨a,b,c,d⟩
 · exact .inl ⟨a,b,hA a⟩
 · exact .inr ⟨a,b,c,d,hL (by omega),hB (by omega)⟩
theorem HV {C l:List Int} {K k m:Nat} (hC:∀y∈C,0≤y∧y≤2147483647) (h2:2≤C.length) (hl:C.length≤288) (hk:k≤C.length) (hk1:1≤k) (r:BV 15 K (Am C)) (e:l=FR (zW C K) k):
 (k≤l.length∧l.length≤C.length)∧(∀y∈l,0≤y∧y<16)∧(yV l=0∨yV l=302)∧(∀p,0<C.getD p 0→Iw (yF l) p)∧0≤yU l 15:=by
 obtain⟨f1,f2,f3,f4,f5⟩:=EC hC h2 hl (by omega) r
 have ug:=Cj (zW C K) k (zW C K).length
 have ll:l.length=zJ (zW C K) k (zW C K).length:=by rw[e];exact HU _ (by omega)
 have hr:∀y∈l,0≤y∧y<16:=fun y hy=>by
  rw[e]at hy
  have:=f2 y (ads hy)
  omega
 have lc:yU l 15=yU (zW C K) 15:=by rw[e];exact Oy (fun y hy=>(f2 y hy).1) k 15
 have l0:0≤yU l 15:=by
  rw[lc]
  by_cases c:∃y∈C,0<y
  · rw[f4 c];omega
  · rw[f5 fun y hy q=>c ⟨y,hy,q⟩]
    rw[EA,List.map_replicate]
    have:f15 15 0=0:=rfl
    rw[this];simp
 have ck:=C9 (l:=l) (by omega) (by omega) hr l0
 refine⟨by omega,hr, ?_,fun p hp=> ?_,l0⟩
 · rw[ck];split
   · exact .inl rfl
   · exact .inr rfl
 · have g:=f3 p hp
   obtain⟨c1,c2⟩:=Tl k (show 0<(zW C K).getD p 0 by omega)
   rw[←e]at c1 c2
   exact KX l0 hr c1 (by omega)
theorem Wy (s:ByteArray) (hs:s.size≤300):∃KA KB KC la lb Lc,Lf (tokens s) KA KB KC la lb Lc:=by
 obtain⟨t1,t2,t3,t4⟩:=DA s hs s.size 0 (by omega) (by omega)
 change (tokens s).length≤s.size-0 at t1
 change∀t∈tokens s,Ej t at t2
 have hn:(tokens s).length≤300:=by omega
 have WE:=HY s hs
 generalize tokens s=ts at *
 obtain⟨a1,a2,a3⟩:=Uw ts hn
 obtain⟨b1,b2⟩:=Ux ts hn
 obtain⟨KA,rA⟩:=Ed (most:=15) a2 (by omega) (by omega) (.inl (by omega))
 obtain⟨KB,rB⟩:=Ed (most:=15) b2 (by omega) (by omega) (.inl (by omega))
 obtain⟨la,ea⟩:∃l,l=FR (zW (dA ts) KA) 257:=⟨_,rfl⟩
 obtain⟨lb,eb⟩:∃l,l=FR (zW (dB ts) KB) 1:=⟨_,rfl⟩
 obtain⟨x1,x2,x3,x4,x5⟩:=HV (m:=0) a2 (by omega) (by omega) (by omega) (by omega) rA ea
 obtain⟨y1,y2,y3,y4,y5⟩:=HV (m:=0) b2 (by omega) (by omega) (by omega) (by omega) rB eb
 have hall:∀y∈la++lb,0≤y∧y<19:=fun y hy=>by
  rcases ac9.1 hy with q|q
  · have:=x2 y q;omega
  · have:=y2 y q;omega
 have c1:(Bg (la++lb) (List.replicate 19 0)).length=19:=by rw[FK,acZ]
 have c2:∀y∈Bg (la++lb) (List.replicate 19 0),0≤y∧y≤2147483647:=fun y hy=>by
  have:=FM (la++lb) _ 0 (by omega) (EF 19) y hy
  rw[yy]at this
  omega
 obtain⟨KC,rC⟩:=Ed (most:=7) c2 (by omega) (by omega) (.inr (by omega))
 obtain⟨f1,f2,f3,f4,f5⟩:=EC c2 (by omega) (by omega) (by omega) rC
 have hit:=HN (la++lb) (List.replicate 19 0) (fun y hy=>(EF 19 y hy).1) (by rw[acZ])
 have ex:∃y∈Bg (la++lb) (List.replicate 19 0),0<y:=by
  obtain⟨z,hz⟩:=List.exists_mem_of_ne_nil (la++lb) (fun q=>by
   have:=adu List.length q
   rw[yy,acP]at this
   omega)
  have h:=hit z hz (hall z hz)
  refine⟨_, ?_,show 0<(Bg (la++lb) (List.replicate 19 0)).getD z.toNat 0 by omega⟩
  have zl:z.toNat<(Bg (la++lb) (List.replicate 19 0)).length:=by have:=hall z hz;omega
  rw[acM,acQ zl]
  exact ade zl
 have l0:=f4 ex
 have r16:∀y∈zW (Bg (la++lb) (List.replicate 19 0)) KC,0≤y∧y<16:=fun y hy=>by have:=f2 y hy;omega
 refine⟨KA,KB,KC,la,lb,_,⟨WE,hn,t2,rA,rB,ea,eb,hall,rC,rfl,fun y hy=>by have:=f2 y hy;omega,x3,y3, ?_, ?_, ?_, ?_⟩⟩
 · have:=C9 (by omega) (by omega) r16 (by omega)
   rw[this,if_pos l0];exact .inl rfl
 · intro y hy
   have h:=hit y hy (hall y hy)
   have g:=f3 y.toNat (by omega)
   exact KX (by omega) r16 (by have:=hall y hy;omega) g
 · intro t ht
   have o:=t2 t ht
   have zA:∀y∈(List.replicate 286 (0:Int)).set 256 1,0≤y:=fun y hy=>by
    rcases adj hy with q|q
    · have:=adb q;omega
    · omega
   have hA:=LF ts _ zA (by rw[ac0,acZ]) t ht o
   have hB:=LH ts (List.replicate 30 0) (fun y hy=>(EF 30 y hy).1) (by rw[acZ]) t ht o
   exact RS (ts:=ts) o (fun h0=>x4 _ (by have:=hA.1 h0;unfold dA;omega)) (fun h0=>x4 _ (by have:=hA.2 h0;unfold dA;omega)) (fun h0=>y4 _ (by have:=hB h0;unfold dB;omega))
 · exact x4 256 (by omega)
theorem Ql:∀bs:List Nat,(∀b∈bs,b≤1)→Oe (zO bs):=by
 have:∀(l:List Nat) (i:Nat) (out:List Nat),(∀b∈l,b≤1)→Oe out→Oe (BD l i out):=by
  intro l
  induction l with
  |nil=>intro i out _ h;exact h
  |cons x l ih=>intro i out hl h;exact ih (i+1) _ (fun b hb=>hl b (by simp [hb])) (Ha (hl x (by simp)) h)
 exact fun bs h=>this bs 0 [] h fun _ q=>by simp at q
theorem Cb (v:Nat):∀m,∀b∈CK v m,b≤1
 |0,b,h=>by simp [CK]at h
 | m + 1, b, h => by
   rw[CK]at h
   rcases yu.1 h with q|q
   · omega
   · exact Cb v m b q
theorem BX (v:Nat):∀m i,∀b∈ID v i m,b≤1
 |0,i,b,h=>by simp [ID]at h
 | m + 1, i, b, h => by
   rw[ID]at h
   rcases yu.1 h with q|q
   · omega
   · exact BX v m (i+1) b q
theorem Hm (E D:List (Int×Int)) (t:Tok):∀b∈zC E D t,b≤1:=by
 intro b h
 unfold zC yW zf at h
 split at h
 · exact Cb _ _ b h
 · simp only[ac9]at h
   rcases h with h|h|h|h
   · exact Cb _ _ b h
   · exact BX _ _ _ b h
   · exact Cb _ _ b h
   · exact BX _ _ _ b h
theorem Tq (ts:List Tok) (la lb Lc:List Int):∀b∈Aa ts la lb Lc,b≤1:=by
 intro b h
 unfold Aa at h
 simp only[ac9]at h
 rcases h with h|h|h|h|h|h|h|h
 · exact BX _ _ _ b h
 · exact BX _ _ _ b h
 · exact BX _ _ _ b h
 · exact BX _ _ _ b h
 · obtain⟨y,_,hy⟩:=List.mem_flatMap.1 h
   exact BX _ _ _ b hy
 · obtain⟨y,_,hy⟩:=List.mem_flatMap.1 h
   exact Cb _ _ b hy
 · obtain⟨y,_,hy⟩:=List.mem_flatMap.1 h
   exact Hm _ _ y b hy
 · exact Cb _ _ b h
def DS (t:ByteArray) (p:Nat) (bs:List Nat):Prop:=p+bs.length≤8* t.size∧∀i,i<bs.length→zM t (p+i)=bs.getD i 0
theorem DS.app {t:ByteArray} {p:Nat} {a b:List Nat} (h:DS t p (a++b)):DS t p a∧DS t (p+a.length) b:=by
 obtain⟨h1,h2⟩:=h
 rw[yy]at h1 h2
 refine⟨⟨by omega,fun i hi=> ?_⟩,⟨by omega,fun i hi=> ?_⟩⟩
 · have:=h2 i (by omega)
   rw[this,acM,acM,adi hi]
 · have:=h2 (a.length+i) (by omega)
   rw[xO,this,acM,acM,ac4 (by omega),Nat.add_sub_cancel_left]
theorem Jv (l:List Nat) (h:Oe l) (i:Nat):(((bytesOf l)[i]?).map (·.toNat)).getD 0=l.getD i 0:=by
 have e:(bytesOf l)[i]?=(l.map UInt8.ofNat)[i]?:=by
  show(l.map UInt8.ofNat).toArray[i]?=_
  simp
 rw[e,ya,acM]
 cases hx:l[i]? with
 |none=>rfl
 | some x =>
   have:=h x (xV hx)
   simp [UInt8.toNat_ofNat_of_lt' this]
theorem QX {x b k j:Nat} (hb:b≤1) (hx:x<2^k):(x|||b* 2^k)/2^j%2=if j=k then b else x/2^j%2:=by
 rw[←Nat.toNat_testBit,←Nat.toNat_testBit,Nat.testBit_or]
 have hb':b=0∨b=1:=by omega
 rcases hb' with rfl|rfl
 · rw[Nat.zero_mul,Nat.zero_testBit,Bool.or_false]
   split
   · rename_i e;subst e
     rw[Nat.testBit_lt_two_pow hx];rfl
   · rfl
 · rw[Nat.one_mul,Nat.testBit_two_pow]
   split
   · rename_i e;subst e;simp
   · rename_i e
     have:decide (k=j)=false:=by simp;omega
     rw[this,Bool.or_false]
structure PF (out:List Nat) (bs:List Nat):Prop where
 len:out.length=(bs.length+7)/8
 bit:∀j,j<bs.length→out.getD (j/8) 0/2^(j%8)%2=bs.getD j 0
 top:bs.length%8≠0→out.getD (bs.length/8) 0<2^(bs.length%8)
theorem PF.step {out bs : List Nat} {b : Nat} (hb : b ≤ 1) (v : PF out bs) : PF (AE out bs.length b) (bs ++ [b]) := by
 obtain⟨len,bit,top⟩:=v
 obtain⟨n,hn⟩:∃n,n=bs.length:=⟨_,rfl⟩
 rw[←hn]at len bit top ⊢
 obtain⟨o,ho⟩:∃o,o=if n%8=0 then out++[0]else out:=⟨_,rfl⟩
 have es:AE out n b=o.set (n/8) (o.getD (n/8) 0|||b* 2^(n%8)):=by rw[ho];rfl
 have ol:n/8<o.length:=by
  rw[ho];split
  · rw[yy,len];simp;omega
  · rw[len];omega
 have og:∀j,j<n→o.getD (j/8) 0=out.getD (j/8) 0:=fun j hj=>by
  rw[ho];split
  · rw[acM,adi (by omega),←acM]
  · rfl
 have ox:o.getD (n/8) 0<2^(n%8):=by
  by_cases c:n%8=0
  · rw[ho,if_pos c,acM,ac4 (by omega),c]
    have:n/8-out.length=0:=by omega
    rw[this];simp
  · rw[ho,if_neg c];exact top c
 have gn:∀m,(AE out n b).getD m 0=if m=n/8 then o.getD (n/8) 0|||b* 2^(n%8)else o.getD m 0:=fun m=>by
  rw[es]
  by_cases e:m=n/8
  · subst e
    rw[if_pos rfl,acM,ac3,if_pos rfl,if_pos ol];rfl
  · rw[if_neg e,getD_set_ne (fun q=>e q.symm)]
 have bl:(bs++[b]).length=n+1:=by simp [hn]
 refine⟨by rw[bl,Hb len],fun j hj=> ?_,fun hc=> ?_⟩
 · rw [bl] at hj
   rw[gn]
   by_cases e:j=n
   · subst e
     rw[if_pos rfl,QX hb ox,if_pos rfl,acM,hn,ac4 (xQ _)];simp
   · have hjn:j<n:=by omega
     have gb:(bs++[b]).getD j 0=bs.getD j 0:=by rw[acM,adi (by omega),←acM]
     rw[gb,←bit j hjn,←og j hjn]
     split
     · rename_i e2
       rw[QX hb ox,if_neg (by omega),e2]
     · rfl
 · rw[bl]at hc ⊢
   have e8:(n+1)/8=n/8:=by omega
   have m8:(n+1)%8=n%8+1:=by omega
   rw[gn,e8,if_pos rfl,m8,N0 ox,Nat.pow_succ]
   have:b* 2^(n%8)≤1* 2^(n%8):=xU _ hb
   omega
theorem Qm:∀bs:List Nat,(∀b∈bs,b≤1)→PF (zO bs) bs:=by
 have key:∀(q p:List Nat) (out:List Nat),(∀b∈q,b≤1)→PF out p→PF (BD q p.length out) (p++q):=by
  intro q
  induction q with
  |nil=>intro p out _ h;simpa [BD]using h
  | cons x q ih =>
    intro p out hb h
    have:=ih (p++[x]) (AE out p.length x) (fun b q=>hb b (by simp [q])) (h.step (hb x (by simp)))
    rw[yy,acY]at this
    exact this
 intro bs hb
 exact key bs [] [] hb ⟨rfl,fun j hj=>by simp at hj,fun h=>by simp at h⟩
theorem Jr (bs:List Nat) (hb:∀b∈bs,b≤1):DS (bytesOf (zO bs)) 0 bs:=by
 have v:=Qm bs hb
 have y:=Ql bs hb
 refine⟨by rw[ze,v.len];omega,fun i hi=> ?_⟩
 rw[xW]
 unfold zM
 rw[Jv _ y]
 exact v.bit i hi
theorem Pr {t:ByteArray} {p:Nat} {v:Nat}:∀(n:Nat),(∀i,i<n→zM t (p+i)=v/2^i%2)→yI t p n=v%2^n
 |0,h=>by simp [yI,Nat.mod_one]
 | n + 1, h => by
   rw[yI,Pr n fun i hi=>h i (by omega),h n (by omega),Nat.pow_succ,Nat.mod_mul,Nat.mul_comm]
theorem MJ (v:Nat):∀m i j,j<m→(ID v i m).getD j 0=v/2^(i+j)%2
 |0,i,j,h=>by omega
 |m+1,i,0,h=>rfl
 | m + 1, i, j + 1, h => by
   show(ID v (i+1) m).getD j 0=_
   rw[MJ v m (i+1) j (by omega)]
   congr 3;omega
theorem DS.put {t:ByteArray} {p v n:Nat} (h:DS t p (zf v n)) (hv:v<2^n):yI t p n=v∧p+n≤8* t.size:=by
 obtain⟨h1,h2⟩:=h
 unfold zf at h1 h2
 rw[zy]at h1 h2
 refine⟨?_,h1⟩
 rw[Pr n fun i hi=>by rw[h2 i hi,MJ v n 0 i hi,xW],Nat.mod_eq_of_lt hv]
theorem M9 (n:Nat):∀(q p:List Int),∃r,syms (p++q) n=syms p n++r
 |[],p=>⟨[],by simp⟩
 | x :: q, p => by
   obtain⟨r,hr⟩:=M9 n q (p++[x])
   rw[acY,Dx]at hr
   exact⟨_,by rw[show p++x::q=p++([x]++q)by simp,hr,acY]⟩
theorem Ui {l:List Int} {s n:Nat} (hs:s<l.length) (hn:1≤n) (e:l.getD s 0=(n:Int)):(syms l n)[Ah (l.take s) n]?=some (s:Int):=by
 have e2:l.take (s+1)=l.take s++[l.getD s 0]:=by
  rw[List.take_add_one,acQ hs,acM,acQ hs];rfl
 obtain⟨r,hr⟩:=M9 n (l.drop (s+1)) (l.take (s+1))
 rw[List.take_append_drop,e2,Dx,if_pos ⟨by omega,e⟩]at hr
 have ls:=Gq (l.take s) n
 have lt:(l.take s).length=s:=by rw[adl];omega
 rw[hr,acY,ac4 (by omega),ls,Nat.sub_self,lt];rfl
theorem GZ (l:List Int) (n:Nat):∀m,(yJ l n+Ah l n)* 2^(m+1)≤yJ l (n+m+1)
 |0=>by rw[yJ];simp
 | m + 1 => by
   have ih:=GZ l n m
   rw[show n+(m+1)+1=(n+m+1)+1 by omega,yJ,Int.pow_succ,←Int.mul_assoc]
   omega
theorem Tu {l:List Int} {n m:Nat} {c:Nat} (hc:yJ l (n+m+1)≤(c:Int)):Bc l n ((c/2^(m+1):Nat):Int)=none:=by
 have g:=GZ l n m
 have h1:yJ l n+Ah l n≤((c/2^(m+1):Nat):Int):=by
  have p2:((2^(m+1):Nat):Int)=(2:Int)^(m+1):=by push_cast;rfl
  have:(yJ l n+Ah l n)* ((2^(m+1):Nat):Int)≤(c:Int):=by rw[p2];omega
  rw[Int.natCast_ediv]
  exact(Int.le_ediv_iff_mul_le (by have:=Nat.pow_pos (n:=m+1) (show 0<2 by omega);omega)).2 this
 unfold Bc
 split
 · rw[ac1]
   rw[Gq];omega
 · rfl
theorem MZ {t : ByteArray} {l : List Int} {s N c : Nat} (hs : s < l.length) (hN : 1 ≤ N) (e : l.getD s 0 = (N : Int)) (hc : (c : Int) = yJ l N + Ah (l.take s) N) : ∀ (m n k p : Nat), n + m = N → m + 1 ≤ k → DS t p (CK c (m + 1)) → Bm t l k n (c / 2 ^ (m + 1)) p = some ((s : Int), p + (m + 1))
 |m,n,0,p,hn,hk,hb=>by omega
 | m, n, k + 1, p, hn, hk, hb => by
   have hb1:DS t p ([c/2^m%2]++CK c m):=hb
   obtain⟨b1,b2⟩:=hb1.app
   have v1:yI t p 1=c/2^m%2:=by
    have:=b1.2 0 (by simp)
    simp only[adC,List.getD_cons_zero]at this
    simp [yI,this]
   have pl:p+1≤8* t.size:=b1.1
   have vv:c/2^(m+1)* 2+c/2^m%2=c/2^m:=by
    rw[Nat.pow_succ,←Nat.div_div_eq_div_mul];omega
   rw[Bm,if_pos pl,v1,vv]
   cases m with
   | zero =>
     have:Bc l n ((c/2^0:Nat):Int)=some (s:Int):=by
      have hn':n=N:=by omega
      subst hn'
      unfold Bc
      rw[Nat.pow_zero,Nat.div_one,if_pos (by omega)]
      have:((c:Int)-yJ l n).toNat=Ah (l.take s) n:=by omega
      rw[this]
      exact Ui hs hN e
     rw[this]
   | succ m =>
     have:Bc l n ((c/2^(m+1):Nat):Int)=none:=Tu (by rw[show n+m+1=N by omega];omega)
     rw[this]
     have r:=MZ hs hN e hc m (n+1) k (p+1) (by omega) (by omega) b2
     rw[r]
     simp only[xI,xK,true_and];omega
theorem Su {t:ByteArray} {l:List Int} (hl:0≤yU l 15) (hr:∀y∈l,0≤y∧y<16) {s p:Nat} (hs:s<l.length) (h1:1≤l.getD s 0) (hb:DS t p (yW (yF l) s)):Bm t l 15 1 0 p=some ((s:Int),p+(yW (yF l) s).length):=by
 obtain⟨n,v,g,n1,n2,n3,n4⟩:=(KX hl hr hs h1).bits
 have g2:(yF l)[s]?=some (EM l s):=by
  unfold yF
  rw[ya,adw hs];rfl
 rw[g2]at g
 have g3:=xF g
 unfold EM at g3
 rw[if_pos h1]at g3
 have e1:l.getD s 0=(n:Int):=adu Prod.fst g3
 have e2:yJ l (l.getD s 0).toNat+Ah (l.take s) (l.getD s 0).toNat=(v:Int):=adu Prod.snd g3
 have tn:((n:Nat):Int).toNat=n:=by omega
 rw[e1,tn]at e2
 rw[n4]at hb ⊢
 rw[zN]
 obtain⟨m,rfl⟩:∃m,n=m+1:=⟨n-1,by omega⟩
 have:=MZ hs n1 e1 e2.symm m 1 15 p (by omega) (by omega) hb
 rw[Nat.div_eq_of_lt n3]at this
 exact this
theorem KW {l:List Int} {s:Nat} (o:Iw (yF l) s):s<l.length∧1≤l.getD s 0:=by
 have hs:s<l.length:=by have:=o.lt;rwa [DG]at this
 obtain⟨n,v,g,n1,_⟩:=o
 have g2:(yF l)[s]?=some (EM l s):=by
  unfold yF
  rw[ya,adw hs];rfl
 rw[g2]at g
 have g3:=xF g
 unfold EM at g3
 refine⟨hs, ?_⟩
 apply adh
 intro c
 rw[if_neg c]at g3
 have:=adu Prod.fst g3
 simp at this
 omega
theorem Jw {most:Int} (d:Nat):∀(n:Nat) (out:List Nat),(out.length:Int)+n≤most→CW most d n out=.ok (Nj d n out)
 |0,out,h=>rfl
 | n + 1, out, h => by
   rw[CW,if_neg (by omega),Nj]
   exact Jw d n _ (by simp;omega)
structure Gv (l:List Int):Prop where
 left:0≤yU l 15
 rng:∀y∈l,0≤y∧y<16
theorem Gv.sym {l:List Int} (b:Gv l) {t:ByteArray} {s p:Nat} (o:Iw (yF l) s) (hb:DS t p (yW (yF l) s)):Bm t l 15 1 0 p=some ((s:Int),p+(yW (yF l) s).length):=
 Su b.left b.rng (KW o).1 (KW o).2 hb
theorem LX (o:List Nat) (t:Tok):o.length≤(zK o t).length:=by
 unfold zK
 split
 · simp
 · rw[Hu];omega
theorem LY:∀(ts:List Tok) (o:List Nat),o.length≤(CA ts o).length
 |[],o=>xQ _
 |t::r,o=>yw (LX o t) (LY r _)
theorem EX {t : ByteArray} {la lb : List Int} (bA : Gv la) (bB : Gv lb) (o256 : Iw (yF la) 256) {most : Int} : ∀ (ts : List Tok) (k p : Nat) (out : List Nat), DS t p (Az (yF la) (yF lb) ts ++ yW (yF la) 256) → (∀ x ∈ ts, QH (yF la) (yF lb) x) → zh out.length ts = true → ((CA ts out).length : Int) ≤ most → ts.length < k →
 Ak t most la lb k p out=.ok (p+(Az (yF la) (yF lb) ts++yW (yF la) 256).length,CA ts out)
 |ts,0,p,out,hb,ok,hm,hl,hk=>by omega
 | [], k + 1, p, out, hb, ok, hm, hl, hk => by
   have hb':DS t p (yW (yF la) 256):=hb
   have s:=bA.sym o256 hb'
   rw[Ak,s]
   simp only
   rw[if_neg (by omega),if_pos (by omega)]
   rfl
 | x :: r, k + 1, p, out, hb, ok, hm, hl, hk => by
   have ox:=ok x (by simp)
   have e:Az (yF la) (yF lb) (x::r)++yW (yF la) 256=zC (yF la) (yF lb) x++(Az (yF la) (yF lb) r++yW (yF la) 256):=by
    unfold Az;rw[acT,acY]
   rw[e]at hb ⊢
   obtain⟨h1,h2⟩:=hb.app
   have gl:=LY r (zK out x)
   have hl':((CA r (zK out x)).length:Int)≤most:=hl
   rw[zh]at hm
   cases hst:AG out.length x with
   |none=>rw[hst]at hm;cases hm
   | some s' =>
     rw[hst]at hm
     simp only at hm
     by_cases k8:8192<s'
     · rw[if_pos k8]at hm;cases hm
     rw[if_neg k8]at hm
     unfold AG at hst
     have rec_:s'=((zK out x).length:Nat)→Ak t most la lb k (p+(zC (yF la) (yF lb) x).length) (zK out x)=.ok (p+(zC (yF la) (yF lb) x++(Az (yF la) (yF lb) r++yW (yF la) 256)).length,CA r (zK out x)):=fun es=>by
      have:=EX bA bB o256 r k _ (zK out x) h2 (fun y hy=>ok y (by simp [hy])) (by rw[←es];exact hm) hl' (by simp at hk;omega)
      rw[this,yy (as:=zC _ _ _),xO]
     rw[CA]
     by_cases c0:x.len=0
     · rw[if_pos c0]at hst
       by_cases c:x.lit<0∨255<x.lit∨x.zm≠0
       · rw[if_pos c]at hst;cases hst
       rw[if_neg c]at hst
       obtain rfl:=xF hst
       have tb:zC (yF la) (yF lb) x=yW (yF la) x.lit.toNat:=by rw[zC,if_pos c0]
       rcases ox with ⟨_,q2,q3⟩|⟨q,_⟩
       · have es:zK out x=out++[x.lit.toNat]:=by unfold zK;rw[if_pos c0]
         rw[es]at gl hl' rec_ ⊢
         rw[yy,List.length_singleton]at gl rec_
         rw[tb]at h1 rec_ ⊢
         have s:=bA.sym q3 h1
         rw[Ak,s]
         simp only
         have tl:((x.lit.toNat:Nat):Int)<256:=by omega
         rw[if_pos tl,if_neg (by omega)]
         have tn:(((x.lit.toNat:Nat):Int)).toNat=x.lit.toNat:=by omega
         rw[tn]
         exact rec_ (by push_cast;rfl)
       · omega
     · rw[if_neg c0]at hst
       by_cases c:x.len<3∨258<x.len∨x.zm<1∨32768<x.zm∨(out.length:Int)<x.zm∨x.lit≠0
       · rw[if_pos c]at hst;cases hst
       rw[if_neg c]at hst
       obtain rfl:=xF hst
       obtain⟨L,hL⟩:∃y:Nat,x.len=y:=acS (by omega)
       obtain⟨D,hD⟩:∃y:Nat,x.zm=y:=acS (by omega)
       have Lt:x.len.toNat=L:=by omega
       have Dt:x.zm.toNat=D:=by omega
       rcases ox with ⟨q,_⟩|⟨_,_,_,_,q5,q6⟩
       · exact absurd q c0
       rw[Lt]at q5
       rw[Dt]at q6
       have es:zK out x=Nj D L out:=by unfold zK;rw[if_neg c0,Lt,Dt]
       have cl:=Hu D L out
       have tb:zC (yF la) (yF lb) x=yW (yF la) (Au L)++(zf (DW L) (Dj L)++(yW (yF lb) (AM D)++zf (DV D) (Dc D))):=by rw[zC,if_neg c0,Lt,Dt]
       rw[es]at gl hl' rec_ ⊢
       rw[tb]at h1 rec_ ⊢
       obtain⟨i1,i2⟩:=h1.app
       obtain⟨i3,i4⟩:=i2.app
       obtain⟨i5,i6⟩:=i4.app
       have s1:=bA.sym q5 i1
       have lb_:=KQ (k:=L) (by omega) (by omega)
       have db_:=KK (k:=D) (by omega) (by omega)
       have ls:=Dm (k:=L) (by omega) (by omega)
       have ds:=De (k:=D) (by omega) (by omega)
       obtain⟨a,b,hab⟩:=E8 ls.1 ls.2.1
       obtain⟨a',b',hab'⟩:=D9 ds.1
       have ea:y8 (lenOf (Au L))=a:=by rw[hab];rfl
       have eb:Dj L=b:=by unfold Dj;rw[hab];rfl
       have ea':y8 (yZ (AM D))=a':=by rw[hab'];rfl
       have eb':Dc D=b':=by unfold Dc;rw[hab'];rfl
       have v1:=i3.put lb_.2
       have v2:=i6.put db_.2
       have pl:∀v n,(zf v n).length=n:=fun v n=>by unfold zf;exact zy v n 0
       rw[pl]at i5 v2
       have s2:=bB.sym q6 i5
       have eL:a+DW L=L:=by unfold DW;rw[ea];omega
       have eD:a'+DV D=D:=by unfold DV;rw[ea'];omega
       rw[Ak,s1]
       simp only
       rw[if_neg (by omega),if_neg (by omega)]
       have tn:(((Au L:Nat):Int)).toNat=Au L:=by omega
       have tn2:(((AM D:Nat):Int)).toNat=AM D:=by omega
       have cp:D7 t most lb (Au L) (p+(yW (yF la) (Au L)).length) out=.ok (p+(yW (yF la) (Au L)++(zf (DW L) (Dj L)++(yW (yF lb) (AM D)++zf (DV D) (Dc D)))).length,Nj D L out):=by
        unfold D7
        rw[hab]
        simp only
        rw[←eb,if_pos v1.2,s2]
        simp only
        rw[tn2,hab']
        simp only
        rw[←eb',v2.1,v1.1,eL,eD,if_pos ⟨v2.2,by omega⟩,Jw D L out (by omega)]
        simp only[yy,pl,Except.ok.injEq,xK,and_true]
        omega
       rw[tn,cp]
       simp only
       exact rec_ (by rw[cl,hL];push_cast;rfl)
theorem Gv.RR {C l:List Int} {K k:Nat} (hC:∀y∈C,0≤y∧y≤2147483647) (h2:2≤C.length) (hl:C.length≤288) (hk:k≤C.length) (hk1:1≤k) (r:BV 15 K (Am C)) (e:l=FR (zW C K) k):Gv l∧((∃y∈C,0<y)→yV l=0)∧((∀y∈C,¬0<y)→∀y∈l,y=0):=by
 obtain⟨a,b,c,d,l0⟩:=HV (m:=0) hC h2 hl hk hk1 r e
 obtain⟨f1,f2,f3,f4,f5⟩:=EC hC h2 hl (by omega) r
 refine⟨⟨l0,b⟩,fun ex=> ?_,fun nn y hy=> ?_⟩
 · rw[C9 (by omega) (by omega) b l0,if_pos]
   rw[e,Oy (fun y hy=>(f2 y hy).1) k 15]
   exact f4 ex
 · rw[e,f5 nn]at hy
   exact adb (ads hy)
theorem GR:∀(l:List Int) (a:Int),(∀y∈l,y=0)→K9 l a=a
 |[],a,h=>rfl
 | y :: l, a, h => by
   have:=h y (by simp)
   subst this
   rw[K9]
   first
    |exact GR l a fun z hz=>h z (by simp [hz])
    |(simp;exact GR l a fun z hz=>h z (by simp [hz]))
theorem F9 {t:ByteArray} {Lc:List Int} (bk:Gv Lc) (many:Nat):∀(q acc:List Int) (f p:Nat),DS t p (C7 (yF Lc) q)→(∀y∈q,Iw (yF Lc) y.toNat)→(∀y∈q,0≤y∧y<16)→acc.length+q.length=many→q.length<f→zg t Lc many f acc p=some (acc++q,p+(C7 (yF Lc) q).length)
 |q,acc,0,p,hb,ok,hr,hm,hf=>by omega
 | [], acc, f + 1, p, hb, ok, hr, hm, hf => by
   simp at hm
   rw[zg,if_neg (by omega),if_neg (by omega)]
   simp [C7]
 | y :: q, acc, f + 1, p, hb, ok, hr, hm, hf => by
   have e:C7 (yF Lc) (y::q)=yW (yF Lc) y.toNat++C7 (yF Lc) q:=by unfold C7;rw[acT]
   rw[e]at hb ⊢
   obtain⟨h1,h2⟩:=hb.app
   have s:=bk.sym (ok y (by simp)) h1
   have yr:=hr y (by simp)
   have ty:((y.toNat:Nat):Int)=y:=by omega
   simp only[acN]at hm hf
   rw[zg,if_pos (by omega),s]
   simp only
   rw[ty]
   have ag:zE t y acc (p+(yW (yF Lc) y.toNat).length)=some (y,1,p+(yW (yF Lc) y.toNat).length):=by
    unfold zE
    rw[if_neg (by omega),if_neg (by omega),if_neg (by omega)]
   rw[ag]
   simp only
   have r:=F9 bk many q (acc++[y]) f _ h2 (fun z hz=>ok z (by simp [hz])) (fun z hz=>hr z (by simp [hz])) (by simp;omega) (by omega)
   have e1:List.replicate 1 y=[y]:=rfl
   rw[e1,r,yy,←xO,acY];rfl
def Jj (L:List Int):List Int→List Int→List Int
 |[],o=>o
 |s::r,o=>Jj L r (o.set s.toNat (L.getD s.toNat 0))
theorem ME {t:ByteArray} {L:List Int} (hr:∀y∈L,0≤y∧y<8):∀(os:List Int) (p:Nat) (o:List Int),DS t p (DY (os.map fun s=>L.getD s.toNat 0))→(∀s∈os,s.toNat<L.length)→Hp t os p o=Jj L os o
 |[],p,o,hb,hs=>rfl
 | s :: os, p, o, hb, hs => by
   have e:DY ((s::os).map fun s=>L.getD s.toNat 0)=zf (L.getD s.toNat 0).toNat 3++DY (os.map fun s=>L.getD s.toNat 0):=by unfold DY;rw[acW,acT]
   rw[e]at hb
   obtain⟨h1,h2⟩:=hb.app
   have hl:=hs s (by simp)
   have yr:0≤L.getD s.toNat 0∧L.getD s.toNat 0<8:=hr _ (by rw[acM,acQ hl];exact ade hl)
   have v:=h1.put (by omega)
   have pl:(zf (L.getD s.toNat 0).toNat 3).length=3:=by unfold zf;exact zy _ _ _
   rw[pl]at h2
   rw[Hp,Jj,v.1,ME hr os _ _ h2 (fun z hz=>hs z (by simp [hz]))]
   congr 2;omega
theorem MC (L:List Int):∀(os o:List Int),(Jj L os o).length=o.length
 |[],o=>rfl
 |s::os,o=>by rw[Jj,MC L os,ac0]
theorem MB (L : List Int) : ∀ (os o : List Int) (j : Nat), j < o.length → (Jj L os o).getD j 0 = if (∃ s ∈ os, s.toNat = j) then L.getD j 0 else o.getD j 0
 |[],o,j,hj=>by simp [Jj]
 | s :: os, o, j, hj => by
   rw[Jj,MB L os _ j (by rw[ac0];exact hj)]
   by_cases c:∃s∈os,s.toNat=j
   · rw[if_pos c,if_pos (by obtain⟨u,hu,e⟩:=c;exact⟨u,by simp [hu],e⟩)]
   · rw[if_neg c]
     by_cases e:s.toNat=j
     · subst e
       rw[if_pos ⟨s,by simp,rfl⟩,acM,ac3,if_pos rfl,if_pos hj];rfl
     · rw[getD_set_ne e,if_neg]
       rintro ⟨u,hu,e2⟩
       rcases yu.1 hu with q|q
       · subst q;exact e e2
       · exact c ⟨u,q,e2⟩
theorem Qj:∀j:Nat,j<19→∃i:Nat,i<19∧yK[i]?=some (j:Int):=by
 intro j hj
 have:∀j:Nat,j<19→∃i:Nat,i<19∧yK[i]?=some (j:Int):=by decide
 exact this j hj
theorem RY {L : List Int} (hl : L.length = 19) (h0 : ∀ y ∈ L, 0 ≤ y) : Jj L (yK.take (zJ (yK.map fun s => L.getD s.toNat 0) 4 19)) (List.replicate 19 0) = L := by
 apply List.ext_getElem?
 intro j
 have fl:=MC L (yK.take (zJ (yK.map fun s=>L.getD s.toNat 0) 4 19)) (List.replicate 19 0)
 rw[acZ]at fl
 by_cases hj:j<19
 · have g:=MB L (yK.take (zJ (yK.map fun s=>L.getD s.toNat 0) 4 19)) (List.replicate 19 0) j (by simpa using hj)
   rw[acQ (by omega),acQ (by omega)]
   rw[acM,acQ (by omega)]at g
   congr 1
   have g':(Jj L (yK.take (zJ (yK.map fun s=>L.getD s.toNat 0) 4 19)) (List.replicate 19 0))[j]'(by omega)=_:=g
   rw[g']
   have e:L.getD j 0=L[j]'(by omega):=by rw[acM,acQ (by omega)];rfl
   split
   · exact e
   · rename_i c
     rw[EG hj]
     obtain⟨i,hi,oi⟩:=Qj j hj
     have hk:zJ (yK.map fun s=>L.getD s.toNat 0) 4 19≤i:=by
      apply adh
      intro q
      refine c ⟨(j:Int), ?_,by omega⟩
      refine xV (i:=i) ?_
      rw[yx,if_pos (by omega),oi]
     have z:=DO (yK.map fun s=>L.getD s.toNat 0) 4 19 i hk hi
     have tj:((j:Nat):Int).toNat=j:=by omega
     rw[acM,ya,oi]at z
     simp only[acR,Option.getD_some,tj]at z
     have nn:=h0 _ (ade (l:=L) (n:=j) (by omega))
     omega
 · rw[ac1 (by omega),ac1 (by omega)]
theorem Tp {t : ByteArray} {ts : List Tok} {KA KB KC : Nat} {la lb Lc : List Int} (ok : Lf ts KA KB KC la lb Lc) (hb : DS t 0 (Aa ts la lb Lc)) (hm : zh 0 ts = true) {most : Int} (hl : ((CA ts []).length : Int) ≤ most) : Ho t most 3 [] = .ok ((Aa ts la lb Lc).length, CA ts []) ∧ yI t 0 1 = 1 ∧ yI t 1 2 = 2 ∧ 3 ≤ 8 * t.size := by
 obtain⟨WE,hn,tok,ra,rb,ea,eb,hall,rc,ec,hrow,ca,cb,cc,J3,UI,Mx⟩:=ok
 obtain⟨a1,a2,a3⟩:=Uw ts hn
 obtain⟨b1,b2⟩:=Ux ts hn
 obtain⟨x1,x2,x3,x4,x5⟩:=HV (m:=0) a2 (by omega) (by omega) (by omega) (by omega) ra ea
 obtain⟨y1,y2,y3,y4,y5⟩:=HV (m:=0) b2 (by omega) (by omega) (by omega) (by omega) rb eb
 obtain⟨bkA,chA,_⟩:=Gv.RR a2 (by omega) (by omega) (by omega) (by omega) ra ea
 obtain⟨bkB,chB,zB⟩:=Gv.RR b2 (by omega) (by omega) (by omega) (by omega) rb eb
 have c1:(Bg (la++lb) (List.replicate 19 0)).length=19:=by rw[FK,acZ]
 have c2:∀y∈Bg (la++lb) (List.replicate 19 0),0≤y∧y≤2147483647:=fun y hy=>by
  have:=FM (la++lb) _ 0 (by omega) (EF 19) y hy
  rw[yy]at this
  omega
 obtain⟨f1,f2,f3,f4,f5⟩:=EC c2 (by omega) (by omega) (by omega) rc
 rw[←ec]at f1 f2 f3 f4 f5
 have lLc:Lc.length=19:=by omega
 have hit:=HN (la++lb) (List.replicate 19 0) (fun y hy=>(EF 19 y hy).1) (by rw[acZ])
 have exC:∃y∈Bg (la++lb) (List.replicate 19 0),0<y:=by
  obtain⟨z,hz⟩:=List.exists_mem_of_ne_nil (la++lb) (fun q=>by
   have:=adu List.length q
   rw[yy,acP]at this
   omega)
  have h:=hit z hz (hall z hz)
  refine⟨_, ?_,show 0<(Bg (la++lb) (List.replicate 19 0)).getD z.toNat 0 by omega⟩
  have zl:z.toNat<(Bg (la++lb) (List.replicate 19 0)).length:=by have:=hall z hz;omega
  rw[acM,acQ zl]
  exact ade zl
 have l0:=f4 exC
 have r16:∀y∈Lc,0≤y∧y<16:=fun y hy=>by have:=f2 y hy;omega
 have bkC:Gv Lc:=⟨by omega,r16⟩
 have chC:yV Lc=0:=by rw[C9 (by omega) (by omega) r16 (by omega),if_pos l0]
 have exA:∃y∈dA ts,0<y:=by
  have zl:256<(dA ts).length:=by omega
  refine⟨(dA ts).getD 256 0, ?_,by omega⟩
  rw[acM,acQ zl]
  exact ade zl
 have chA':=chA exA
 have chB':¬(yV lb≠0∧zY lb=false):=by
  rintro ⟨q1,q2⟩
  by_cases c:∃y∈dB ts,0<y
  · exact q1 (chB c)
  · have:=GR lb 0 (zB fun y hy q=>c ⟨y,hy,q⟩)
    unfold zY at q2
    rw[this]at q2
    simp at q2
 obtain⟨R,hR⟩:∃R,R=yK.map (fun o=>Lc.getD o.toNat 0):=⟨_,rfl⟩
 obtain⟨k,hk⟩:∃k,k=zJ R 4 19:=⟨_,rfl⟩
 have uk:=Cj R 4 19
 rw[←hk]at uk
 have eD:Aa ts la lb Lc=zf 5 3++(zf (la.length-257) 5++(zf (lb.length-1) 5++(zf (k-4) 4++(DY (R.take k)++(C7 (yF Lc) (la++lb)++(Az (yF la) (yF lb) ts++yW (yF la) 256)))))):=by rw[hk,hR];rfl
 rw[eD]at hb ⊢
 have pl:∀v n,(zf v n).length=n:=fun v n=>by unfold zf;exact zy v n 0
 obtain⟨h1,g1⟩:=hb.app
 rw[pl]at g1
 obtain⟨h2,g2⟩:=g1.app
 rw[pl]at g2
 obtain⟨h3,g3⟩:=g2.app
 rw[pl]at g3
 obtain⟨h4,g4⟩:=g3.app
 rw[pl]at g4
 obtain⟨h5,g5⟩:=g4.app
 obtain⟨h6,g6⟩:=g5.app
 have v2:=h2.put (by omega)
 have v3:=h3.put (by omega)
 have v4:=h4.put (by omega)
 have rl:(DY (R.take k)).length=3* k:=by rw[IK,adl,hR,acV];show 3* min k 19=_;omega
 rw[rl]at g5 g6 h6
 have rb5:DY (R.take k)=DY ((yK.take k).map fun s=>Lc.getD s.toNat 0):=by rw[hR,List.map_take]
 have h5':=h5
 rw[rb5]at h5'
 have own:=ME hrow (yK.take k) _ (List.replicate 19 0) h5' (fun s hs=>by have:=Dp s (ads hs);omega)
 have back:=RY lLc (fun y hy=>(hrow y hy).1)
 rw[←hR,←hk]at back
 rw[back]at own
 have okr:∀y∈la++lb,0≤y∧y<16:=fun y hy=>by
  rcases ac9.1 hy with q|q
  · exact x2 y q
  · exact y2 y q
 have h5l:=h5.1
 rw[rl]at h5l
 have h6l:=h6.1
 have g6l:=g6.1
 have ll:(la++lb).length=la.length+lb.length:=yy
 have all:=F9 bkC (la.length+lb.length) (la++lb) [] (8* t.size+1) _ h6 J3 okr (by simp) (by
  have:∀D:List Int,(∀y∈D,Iw (yF Lc) y.toNat)→D.length≤(C7 (yF Lc) D).length:=by
   intro D
   induction D with
   |nil=>intro _;simp
   | cons y D ih =>
     intro h
     have:=ih fun z hz=>h z (by simp [hz])
     obtain⟨n,v,_,q1,q2,q3,q4⟩:=(h y (by simp)).bits
     unfold C7 at *
     rw[acT,yy,q4,zN,acN];omega
  have:=this _ J3
  omega)
 have cod:=EX bkA bkB Mx ts (8* t.size+1) _ [] g6 UI hm hl (by
  have:∀T:List Tok,(∀x∈T,QH (yF la) (yF lb) x)→T.length≤(Az (yF la) (yF lb) T).length:=by
   intro T
   induction T with
   |nil=>intro _;simp
   | cons x T ih =>
     intro h
     have:=ih fun z hz=>h z (by simp [hz])
     have o:=h x (by simp)
     have one:1≤(zC (yF la) (yF lb) x).length:=by
      rcases o with ⟨h1,h2,h3⟩|⟨h1,h2,h3,h4,h5,h6⟩
      · obtain⟨n,v,_,q1,q2,q3,q4⟩:=h3.bits
        rw[zC,if_pos h1,q4,zN];omega
      · obtain⟨n,v,_,q1,q2,q3,q4⟩:=h5.bits
        rw[zC,if_neg (by omega),q4,yy,zN];omega
     unfold Az at *
     rw[acT,yy,acN];omega
  have:=this _ UI
  rw[yy]at g6l
  omega)
 have v1:=h1.put (by omega)
 simp only[xW,Nat.reduceAdd,adt]at v1 v2 v3 v4 own all cod h5l
 have n1:yI t 3 5+257=la.length:=by rw[v2.1];omega
 have n2:yI t 8 5+1=lb.length:=by rw[v3.1];omega
 have n3:yI t 13 4+4=k:=by rw[v4.1];omega
 have lens:B9 t (la.length+lb.length) 13=some (la++lb,17+3* k+(C7 (yF Lc) (la++lb)).length):=by
  unfold B9
  simp only[Nat.reduceAdd,n3]
  rw[if_pos (by omega),if_pos (by omega),own,if_pos chC,all]
 have tk:(la++lb).take la.length=la:=List.take_left' rfl
 have dr:(la++lb).drop la.length=lb:=List.drop_left' rfl
 have g256:la.getD 256 0≠0:=by have:=(KW Mx).2;omega
 refine⟨?_, ?_, ?_,by omega⟩
 · unfold Ho
   simp only[Nat.reduceAdd,n1,n2]
   rw[if_pos (by omega),if_neg (by omega),lens]
   simp only[tk,dr]
   rw[if_neg (by rintro (q|q|q);exact q chA';exact g256 q;exact chB' q),cod]
   simp only[yy,pl,rl,Except.ok.injEq,xK,and_true]
   omega
 · have b0:=h1.2 0 (by rw[pl];omega)
   have e0:(zf 5 3).getD 0 0=1:=by decide
   rw[e0]at b0
   simp [yI,b0]
 · have b1:=h1.2 1 (by rw[pl];omega)
   have b2:=h1.2 2 (by rw[pl];omega)
   have e1:(zf 5 3).getD 1 0=0:=by decide
   have e2:(zf 5 3).getD 2 0=1:=by decide
   rw[e1]at b1
   rw[e2]at b2
   simp only[xW]at b1 b2
   simp [yI,b1,b2]
theorem Mj {s:ByteArray} (hs:s.size≤300) {KA KB KC:Nat} {la lb Lc:List Int} (ok:Lf (tokens s) KA KB KC la lb Lc) {most:Int} (hm1:(s.size:Int)≤most) (hm2:most≤8192):zF (bytesOf (zO (Aa (tokens s) la lb Lc))) most=.ok (preB s s.size,(bytesOf (zO (Aa (tokens s) la lb Lc))).size):=by
 obtain⟨t1,t2,t3,t4⟩:=DA s hs s.size 0 (by omega) (by omega)
 have t3':zh 0 (tokens s)=true:=t3
 have t4':CA (tokens s) []=preB s s.size:=t4
 have hb:=Jr (Aa (tokens s) la lb Lc) (Tq _ _ _ _)
 obtain⟨d,v1,v2,sz⟩:=Tp ok hb t3' (most:=most) (by rw[t4',Cs];omega)
 rw[t4']at d
 have psz:(bytesOf (zO (Aa (tokens s) la lb Lc))).size=((Aa (tokens s) la lb Lc).length+7)/8:=by rw[ze,ED]
 generalize bytesOf (zO (Aa (tokens s) la lb Lc))=T at *
 unfold zF
 rw[if_neg (by omega)]
 have bl:Bs T most 0 []=.ok (true,(Aa (tokens s) la lb Lc).length,preB s s.size):=by
  unfold Bs
  simp only[xW]
  rw[if_pos sz,v2]
  simp only[Nat.reduceEqDiff,yz,if_true,reduceIte]
  rw[d]
  simp [v1]
 rw[AR,bl]
 simp only[if_true,psz]
theorem N2 (s:ByteArray):bytesOf (preB s s.size)=s:=by
 have:preB s s.size=Hl s:=by
  apply List.ext_getElem?
  intro i
  by_cases h:i<s.size
  · have g:=Jv (Hl s) (N9 s) i
    rw[D4]at g
    have l1:=HB s
    rw[acQ (by rw[Cs];exact h),acQ (by omega)]
    congr 1
    have a:=MI s h
    rw[acM,acQ (by rw[Cs];exact h)]at a
    rw[acM,acQ (by omega)]at g
    exact a.trans g
  · rw[ac1 (by rw[Cs];omega),ac1 (by rw[HB];omega)]
 rw[this,D4]
theorem HC {w:Nat}:∀(m:Nat) (h:H) (bs:List Nat) (ov:AV),(bs.length+m)%8=0→m<8→Wr h w bs ov→bs.length+m<1000→
 ∃e' h' ov',Lp AP.A [0] AP.f174L0 [(0,.aH w 0)] h=some (.exit 0,e',h')∧Wr h' w (bs++List.replicate m 0) ov'∧Lh h w ov h' ov'
 | 0, h, bs, ov, hm, h8, wr, hb => by
   have gw:=wr.get
   have c:((bs.length%8:Nat):Int)=0:=by omega
   have rm:bH .rem (.int .i64 (bs.length:Int)) (.int .i64 8)=some (.int .i64 0):=by
    have:=Uj (a:=bs.length) (n:=8) (by omega)
    rw[c]at this;exact this
   refine⟨[(0,.aH w 0),(7,.bool false)],h,ov,vW ?_,by simpa using wr,Lh.refl h w ov⟩
   simp (disch:=omega)only[go_sem,yH,AP.f174L0,gw,rm]
 | m + 1, h, bs, ov, hm, h8, wr, hb => by
   have gw:=wr.get
   have rm:bH .rem (.int .i64 (bs.length:Int)) (.int .i64 8)=some (.int .i64 ((bs.length%8:Nat):Int)):=Uj (a:=bs.length) (n:=8) (by omega)
   have c:¬((bs.length%8:Nat):Int)=0:=by omega
   obtain⟨h1,o1,k1,wr1,f1⟩:=RT wr (b:=0) (by omega) (by omega)
   have k1':aV AP.A 57 [.aH w 0,.int .i64 0] h=_:=k1
   obtain⟨e',h',ov',r1,r2,r3⟩:=HC m h1 (bs++[0]) o1 (by rw[yy,List.length_singleton];omega) (by omega) wr1 (by rw[yy,List.length_singleton];omega)
   have e:bs++List.replicate (m+1) 0=bs++[0]++List.replicate m 0:=by rw[List.replicate_succ,acY];rfl
   rw[e]
   refine⟨e',h',ov',vX ?_ r1,r2,f1.trans r3⟩
   clear r1 r2 r3 wr wr1
   generalize ((bs.length%8:Nat):Int)=q at *
   simp (disch:=omega)only[go_sem,yH,AP.f174L0,gw,rm,c,k1']
theorem SI {h:H} {w:Nat} {bs:List Nat} {ov:AV} (wr:Wr h w bs ov) (m:Nat) (hm:(bs.length+m)%8=0) (h8:m<8) (hb:bs.length+m<1000):
 ∃h' ov',aV AP.A 174 [.aH w 0] h=some (.cf [],h')∧Wr h' w (bs++List.replicate m 0) ov'∧Lh h w ov h' ov':=by
 obtain⟨e',h',ov',r1,r2,r3⟩:=HC m h bs ov hm h8 wr hb
 obtain⟨e2,he⟩:∃e2,aP (aV AP.A) bL AP.f174.body (params 0 [.aH w 0]) h=some (.normal,e2,h'):=by
  refine⟨?_, ?_⟩
  rotate_left
  · simp (disch:=omega)only[go_sem,yH,AP.f174,u9,r1]
    rfl
 exact⟨h',ov',zr (fn:=AP.f174) (e:=e2) (vs:=[]) rfl rfl rfl he rfl,r2,r3⟩
theorem SL {h:H} (hf:h.floor≤h.next):WX h (h.alloc [.aT,.int .i64 0]) h.next [] .aT:=by
 refine⟨⟨by rw[yG rfl];rfl,yS.nil,by simpa using hf,by simp;omega,by simp [AV.id?],fun b hb=>by simp [zO,BD]at hb⟩,(Ext.refl _).alloc _,xQ _,by simp,fun j hj=>by simp [AV.id?]at hj⟩
def BE (n:Nat):List Nat:=zf 1 3++(List.replicate 5 0++(zf n 16++zf (65535-n) 16))
def B5 (s:ByteArray):ByteArray:=bytesOf (zO (BE s.size))++s
theorem Gp (s:ByteArray):(B5 s).size=s.size+5:=by
 unfold B5
 rw[ByteArray.size_append,ze,ED]
 simp [BE,zf,zy];omega
theorem Qs (h:H) (s:ByteArray) (hs:s.size≤300):aV AP.A 170 [.str s] h=some (.cf [.str (B5 s),.int .i64 0],h):=by
 obtain⟨h1,eh1⟩:∃g,g=h.eV.alloc [.aT,.int .i64 0]:=⟨_,rfl⟩
 have x0:=SL (h:=h.eV) (by simp)
 rw[←eh1]at x0
 obtain⟨h2,o2,k2,w2,f2⟩:=CU x0.wr 1 3 (by omega) (by omega) (by simp)
 obtain⟨h3,o3,k3,w3,f3⟩:=SI w2 5 (by simp [zf,zy]) (by omega) (by simp [zf,zy])
 obtain⟨h4,o4,k4,w4,f4⟩:=CU w3 s.size 16 (by omega) (by omega) (by simp [zf,zy])
 obtain⟨h5,o5,k5,w5,f5⟩:=CU w4 (65535-s.size) 16 (by omega) (by omega) (by simp [zf,zy])
 have k6:=Lb w5
 have e:[]++zf 1 3++List.replicate 5 0++zf s.size 16++zf (65535-s.size) 16=BE s.size:=by
  unfold BE;simp only[adt,acY]
 rw[e]at k6
 have hn:h.eV.next=h.next:=rfl
 have k2':aV AP.A 33 [.aH h.next 0,.int .i64 1,.int .i64 3] h1=some (.int .i64 0,h2):=k2
 have k4':aV AP.A 33 [.aH h.next 0,.int .i64 s.size,.int .i64 16] h3=some (.int .i64 0,h4):=k4
 have k5':aV AP.A 33 [.aH h.next 0,.int .i64 (65535-(s.size:Int)),.int .i64 16] h4=some (.int .i64 0,h5):=by
  have e:((65535-s.size:Nat):Int)=65535-(s.size:Int):=by omega
  rw[e]at k5;exact k5
 have bz:(bytesOf (zO (BE s.size))).size=5:=by
  have:=Gp s
  unfold B5 at this
  rw[ByteArray.size_append]at this;omega
 have ad:bH .add (.str (bytesOf (zO (BE s.size)))) (.str s)=some (.str (B5 s)):=GS (by omega)
 rw[hn]at k3 k6
 refine wN (fn:=AP.f170) (h2:=h5) (e:=[(2,.str (B5 s)),(3,.int .i64 0)]) rfl rfl rfl ?_ rfl rfl
 clear x0 w2 w3 w4 w5 f2 f3 f4 f5 k2 k4 k5 e bz
 generalize bytesOf (zO (BE s.size))=SB at *
 generalize B5 s=ST at *
 simp (disch:=omega)only[go_sem,yH,AP.f170,hn,←eh1,k2',k3,k4',k5',k6,ad]
def BM:List Int:=List.replicate 30 5
theorem H0:yU y7 15=0:=by decide+kernel
theorem JD:yU BM 15=2048:=by decide+kernel
theorem BN:y7.length=288:=by decide+kernel
theorem Dh:∀y∈y7,1≤y∧y<16:=by
 have:y7.all (fun y=>decide (1≤y∧y<16))=true:=by decide+kernel
 intro y hy
 simpa using adp.1 this y hy
theorem L7:∀y∈BM,1≤y∧y<16:=fun y hy=>by have:=adb hy;omega
theorem Bz:Gv y7:=⟨by rw[H0];omega,fun y hy=>by have:=Dh y hy;omega⟩
theorem Es:Gv BM:=⟨by rw[JD];omega,fun y hy=>by have:=L7 y hy;omega⟩
theorem Fs {l:List Int} (b:Gv l) (hr:∀y∈l,1≤y∧y<16) {s:Nat} (hs:s<l.length):Iw (yF l) s:=by
 refine KX b.left b.rng hs ?_
 rw[acM,acQ hs]
 exact(hr _ (ade hs)).1
theorem JE {t:Tok} (o:Ej t):QH (yF y7) (yF BM) t:=by
 refine RS (ts:=[]) o (fun h=> ?_) (fun h=> ?_) (fun h=> ?_)
 · rcases o with ⟨_,b,c⟩|⟨a,_⟩
   · exact Fs Bz Dh (by rw[BN];omega)
   · omega
 · rcases o with ⟨a,_⟩|⟨a,b,_⟩
   · exact absurd a h
   · have:=Dm (k:=t.len.toNat) (by omega) (by omega)
     exact Fs Bz Dh (by rw[BN];omega)
 · rcases o with ⟨a,_⟩|⟨a,b,c,d⟩
   · exact absurd a h
   · have:=De (k:=t.zm.toNat) (by omega) (by omega)
     have l:BM.length=30:=by simp [BM]
     exact Fs Es L7 (by rw[l];omega)
def AD (ts:List Tok):List Nat:=zf 3 3++(Az (yF y7) (yF BM) ts++yW (yF y7) 256)
theorem NN (h:H) (v:AV) (ts:List Tok) (WE:PU ts=true) (hn:ts.length≤300) (tok:∀t∈ts,Ej t) (rd:zZ 3 h v ts.length (zS ts)):aV AP.A 171 [v] h=some (.cf [.str (bytesOf (zO (AD ts))),.int .i64 0],h):=by
 have rd0:zZ 3 h.eV v ts.length (zS ts):=rd.mono fun i c q=>q
 have k1:=UA h.eV v ts (by omega) rd0
 rw[WE]at k1
 obtain⟨h1,eh1⟩:∃g,g=h.eV.alloc [.aT,.int .i64 0]:=⟨_,rfl⟩
 have x0:=SL (h:=h.eV) (by simp)
 rw[←eh1]at x0
 obtain⟨h2,o2,k2,w2,f2⟩:=CU x0.wr 3 3 (by omega) (by omega) (by simp)
 have x2:=x0.step w2 f2
 have kf:=L9 h2
 have kc:=FN h2 (zj y7) y7 (by rw[BN];omega) (by rw[BN];omega) (Bf h2 y7) (.inl (by rw[C9 (by rw[BN];omega) (by rw[BN];omega) Bz.rng Bz.left,if_pos H0]))
 have k5:=OH h2
 have l5:BM.length=30:=by simp [BM]
 have kc5:=FN h2 (zj BM) BM (by omega) (by omega) (Bf h2 BM) (.inr (by rw[C9 (by omega) (by omega) Es.rng Es.left,if_neg (by rw[JD];omega)]))
 obtain⟨h3,o3,k3,x3⟩:=SF (by omega) h.eV rd0 (Ef h.eV y7) (Ef h.eV BM) (fun t ht=>JE (tok t ht)) (Fs Bz Dh (by rw[BN];omega)) h.eV.next _ h2 o2 x2 (by simp [zf,zy];omega)
 have k6:=Lb x3.wr
 have e:[]++zf 3 3++(Az (yF y7) (yF BM) ts++yW (yF y7) 256)=AD ts:=by unfold AD;rw[adt]
 rw[e]at k6
 have hn':h.eV.next=h.next:=rfl
 have k2':aV AP.A 33 [.aH h.next 0,.int .i64 3,.int .i64 3] h1=some (.int .i64 0,h2):=k2
 rw[hn']at k3 k6
 change aV AP.A 23 [] h2=some (zj BM,h2)at k5
 refine wN (fn:=AP.f171) (h2:=h3) (e:=[(2,.str (bytesOf (zO (AD ts)))),(3,.int .i64 0)]) rfl rfl rfl ?_ rfl rfl
 clear x0 w2 f2 x2 x3 k2 e rd rd0
 generalize bytesOf (zO (AD ts))=SB at *
 generalize zj y7=I1 at *
 generalize zj BM=I2 at *
 generalize HP y7=C1 at *
 generalize HP BM=C2 at *
 simp (disch:=omega)only[go_sem,yH,AP.f171,hn',k1,←eh1,k2',kf,kc,k5,kc5,k3,k6]
theorem KH {bs:List Nat}:(bytesOf (zO bs)).size=(bs.length+7)/8:=by rw[ze,ED]
def shorter (a b:ByteArray):ByteArray:=if a.size<b.size then a else b
def NI (s:ByteArray) (la lb Lc:List Int):ByteArray:=bytesOf (zO (Aa (tokens s) la lb Lc))
def FU (s:ByteArray):ByteArray:=bytesOf (zO (AD (tokens s)))
def Bh (s:ByteArray) (la lb Lc:List Int):ByteArray:=shorter (NI s la lb Lc) (shorter (FU s) (B5 s))
theorem Je (s:ByteArray) (hs:s.size≤300):(tokens s).length≤300∧(∀t∈tokens s,Ej t)∧zh 0 (tokens s)=true∧CA (tokens s) []=preB s s.size:=by
 obtain⟨t1,t2,t3,t4⟩:=DA s hs s.size 0 (by omega) (by omega)
 exact⟨by unfold tokens;omega,t2,t3,t4⟩
theorem ND (h:H) (s:ByteArray) (hs:s.size≤300) {KA KB KC:Nat} {la lb Lc:List Int} (ok:Lf (tokens s) KA KB KC la lb Lc):aV AP.A 163 [.str s] h=some (.cf [.str (Bh s la lb Lc),.int .i64 0],h):=by
 have k1:=SE h.eV s (by omega)
 rw[if_neg (by omega)]at k1
 obtain⟨t1,t2,t3,t4⟩:=Je s hs
 have rd:zZ 3 h.eV (Km (tokens s)) (tokens s).length (zS (tokens s)):=IG (by rw[Qx])
 have k2:=Qs h.eV s hs
 have k3:=NN h.eV (Km (tokens s)) (tokens s) (HY s hs) t1 t2 rd
 have k4:=NJ h.eV (Km (tokens s)) (tokens s) KA KB KC la lb Lc ok rd
 change aV AP.A 171 [Km (tokens s)] h.eV=some (.cf [.str (FU s),.int .i64 0],h.eV)at k3
 change aV AP.A 13 [Km (tokens s)] h.eV=some (.cf [.str (NI s la lb Lc),.int .i64 0],h.eV)at k4
 refine wN (fn:=AP.f163) (h2:=h.eV) (e:=[(2,.str (Bh s la lb Lc)),(3,.int .i64 0)]) rfl rfl rfl ?_ rfl rfl
 unfold Bh shorter
 clear rd ok t1 t2 t3 t4
 generalize FU s=F at *
 generalize B5 s=S at *
 generalize NI s la lb Lc=D at *
 by_cases c1:F.size<S.size
 · have c1':(F.size:Int)<S.size:=by omega
   rw[if_pos c1]
   by_cases c2:D.size<F.size
   · have c2':(D.size:Int)<F.size:=by omega
     rw[if_pos c2]
     simp (disch:=omega)only[go_sem,yH,AP.f163,k1,k2,k3,k4,acO c1',acO c2']
   · have c2':¬(D.size:Int)<F.size:=by omega
     rw[if_neg c2]
     simp (disch:=omega)only[go_sem,yH,AP.f163,k1,k2,k3,k4,acO c1',acL c2']
 · have c1':¬(F.size:Int)<S.size:=by omega
   rw[if_neg c1]
   by_cases c2:D.size<S.size
   · have c2':(D.size:Int)<S.size:=by omega
     rw[if_pos c2]
     simp (disch:=omega)only[go_sem,yH,AP.f163,k1,k2,k3,k4,acL c1',acO c2']
   · have c2':¬(D.size:Int)<S.size:=by omega
     rw[if_neg c2]
     simp (disch:=omega)only[go_sem,yH,AP.f163,k1,k2,k3,k4,acL c1',acL c2']
theorem Tw (ts:List Tok):∀b∈AD ts,b≤1:=by
 intro b h
 unfold AD at h
 simp only[ac9]at h
 rcases h with h|h|h
 · exact BX _ _ _ b h
 · obtain⟨y,_,hy⟩:=List.mem_flatMap.1 h
   exact Hm _ _ y b hy
 · exact Cb _ _ b h
theorem Ng {E D : List (Int × Int)} : ∀ T : List Tok, (∀ x ∈ T, QH E D x) → T.length ≤ (Az E D T).length
 |[],_=>by simp
 | x :: T, h => by
   have:=Ng (E:=E) (D:=D) T fun z hz=>h z (by simp [hz])
   have o:=h x (by simp)
   have one:1≤(zC E D x).length:=by
    rcases o with ⟨h1,h2,h3⟩|⟨h1,h2,h3,h4,h5,h6⟩
    · obtain⟨n,v,_,q1,q2,q3,q4⟩:=h3.bits
      rw[zC,if_pos h1,q4,zN];omega
    · obtain⟨n,v,_,q1,q2,q3,q4⟩:=h5.bits
      rw[zC,if_neg (by omega),q4,yy,zN];omega
   unfold Az at *
   rw[acT,yy,acN];omega
theorem Ml {s:ByteArray} (hs:s.size≤300) {most:Int} (hm1:(s.size:Int)≤most) (hm2:most≤8192):zF (FU s) most=.ok (preB s s.size,(FU s).size):=by
 obtain⟨t1,t2,t3,t4⟩:=Je s hs
 have hb:=Jr (AD (tokens s)) (Tw _)
 have psz:(FU s).size=((AD (tokens s)).length+7)/8:=KH
 change DS (FU s) 0 (AD (tokens s))at hb
 generalize FU s=T at *
 have hb':DS T 0 (zf 3 3++(Az (yF y7) (yF BM) (tokens s)++yW (yF y7) 256)):=hb
 obtain⟨h1,h2⟩:=hb'.app
 have pl:(zf 3 3).length=3:=rfl
 rw[pl,xW]at h2
 have UI:∀x∈tokens s,QH (yF y7) (yF BM) x:=fun x hx=>JE (t2 x hx)
 have g:=Ng (tokens s) UI
 have h2l:=h2.1
 rw[yy]at h2l
 have cod:=EX (most:=most) Bz Es (Fs Bz Dh (by rw[BN];omega)) (tokens s) (8* T.size+1) 3 [] h2 UI t3 (by rw[t4,Cs];exact hm1) (by omega)
 have fl:3+(Az (yF y7) (yF BM) (tokens s)++yW (yF y7) 256).length=(AD (tokens s)).length:=by
  unfold AD;rw[yy (as:=zf 3 3),pl]
 rw[fl,t4]at cod
 have v0:yI T 0 1=1:=by
  have b0:=h1.2 0 (by rw[pl];omega)
  have e0:(zf 3 3).getD 0 0=1:=by decide
  rw[e0]at b0
  simp [yI,b0]
 have v1:yI T 1 2=1:=by
  have b1:=h1.2 1 (by rw[pl];omega)
  have b2:=h1.2 2 (by rw[pl];omega)
  have e1:(zf 3 3).getD 1 0=1:=by decide
  have e2:(zf 3 3).getD 2 0=0:=by decide
  rw[e1]at b1
  rw[e2]at b2
  simp only[xW]at b1 b2
  simp [yI,b1,b2]
 have sz:3≤8* T.size:=by have:=h1.1;rw[pl]at this;omega
 unfold zF
 rw[if_neg (by omega)]
 have bl:Bs T most 0 []=.ok (true,(AD (tokens s)).length,preB s s.size):=by
  unfold Bs
  simp only[xW]
  rw[if_pos sz,v1]
  simp only[Nat.reduceEqDiff,yz,if_true,reduceIte]
  have cod':Ak T most y7 (List.replicate 30 5) (8* T.size+1) 3 []=.ok ((AD (tokens s)).length,preB s s.size):=cod
  rw[cod']
  simp [v0]
 rw[AR,bl]
 simp only[if_true,psz]
theorem IV (a b:ByteArray):shorter a b=a∨shorter a b=b:=by
 unfold shorter;split
 · exact .inl rfl
 · exact .inr rfl
theorem Yu (h:H) (s:ByteArray) (hs:s.size≤300):∃(m:Int) (p:ByteArray),aV AP.A 154 [.str s] h=some (.cf [.int .i64 m,.str p,.int .i64 0],h)∧((m=0∧p=s)∨(m=8∧p.size<s.size∧zF p s.size=.ok (preB s s.size,p.size)))∧((FU s).size<s.size→m=8):=by
 obtain⟨KA,KB,KC,la,lb,Lc,ok⟩:=Wy s hs
 have k:=ND h.eV s hs ok
 have idn:zF (NI s la lb Lc) s.size=.ok (preB s s.size,(NI s la lb Lc).size):=by
  unfold NI
  exact Mj (s:=s) hs ok (by omega) (by omega)
 have ifx:zF (FU s) s.size=.ok (preB s s.size,(FU s).size):=Ml hs (by omega) (by omega)
 have ss:=Gp s
 have dd:(Bh s la lb Lc).size<s.size→zF (Bh s la lb Lc) s.size=.ok (preB s s.size,(Bh s la lb Lc).size):=fun hlt=>by
  unfold Bh at hlt ⊢
  rcases IV (NI s la lb Lc) (shorter (FU s) (B5 s))with e|e
  · rw[e];exact idn
  · rw[e]at hlt ⊢
    rcases IV (FU s) (B5 s)with e2|e2
    · rw[e2];exact ifx
    · rw[e2]at hlt;omega
 have le:(Bh s la lb Lc).size≤(FU s).size:=by
  unfold Bh shorter;(repeat' split)<;>omega
 generalize Bh s la lb Lc=T at *
 by_cases c:T.size<s.size
 · refine⟨8,T, ?_,.inr ⟨rfl,c,dd c⟩,fun _=>rfl⟩
   have c':(T.size:Int)<s.size:=by omega
   refine wN (fn:=AP.f154) (h2:=h.eV) (e:=[(2,.int .i64 8),(3,.str T),(4,.int .i64 0)]) rfl rfl rfl ?_ rfl rfl
   clear idn ifx ss dd ok
   simp (disch:=omega)only[go_sem,yH,AP.f154,k,acO c']
 · refine⟨0,s, ?_,.inl ⟨rfl,rfl⟩,fun q=>by omega⟩
   have c':¬(T.size:Int)<s.size:=by omega
   refine wN (fn:=AP.f154) (h2:=h.eV) (e:=[(2,.int .i64 0),(3,.str s),(4,.int .i64 0)]) rfl rfl rfl ?_ rfl rfl
   clear idn ifx ss dd ok
   simp (disch:=omega)only[go_sem,yH,AP.f154,k,acL c']
def QK (m:Int) (p s:ByteArray):Prop:=(m=0∧p=s)∨(m=8∧p.size<s.size∧zF p s.size=.ok (preB s s.size,p.size))
theorem Qn {m:Int} {p s:ByteArray} (hs:s.size≤300) (hp:QK m p s) (e:zu) (h1:e.method=m) (h2:e.packed=p) (h3:e.size=s.size) (h4:e.gone=false):AO e=Hx e.DZ∧Br e.method e.packed e.size=some s∧p.size≤300:=by
 rcases hp with ⟨rfl,rfl⟩|⟨rfl,hl,hi⟩
 · refine⟨?_, ?_,hs⟩
   · unfold AO
     rw[h4,if_neg (by decide),h1,h2,h3,acO (by omega:(0:Int)≤p.size),acO (by omega:(p.size:Int)≤300)]
     simp
   · unfold Br
     rw[h1,h2,h3,if_neg (by omega),if_pos rfl,if_pos rfl]
 · refine⟨?_, ?_,by omega⟩
   · unfold AO
     rw[h4,if_neg (by decide),h1,h2,h3,acO (by omega:(0:Int)≤s.size),acO (by omega:(s.size:Int)≤300),acO (by omega:p.size≤300)]
     simp
   · unfold Br
     rw[h1,h2,h3,if_neg (by omega),if_neg (by decide),if_pos rfl,hi]
     simp only[Cs,N2]
     rw[if_pos ⟨trivial,trivial⟩]
theorem N1 {m:Int} {p s:ByteArray} (hs:s.size≤300) (hp:QK m p s) (e:zu) (h1:e.method=m) (h2:e.packed=p) (h3:e.size=s.size) (h4:e.gone=false) (h5:e.DZ=(AH s:Nat)) (h6:Ao e.name=true) (h7:zD e=true):Cz e=some s:=by
 obtain⟨c,u,_⟩:=Qn hs hp e h1 h2 h3 h4
 have hc:=Tj s
 have is:Hx e.DZ=true:=by rw[h5];simp [Hx];omega
 have mf:AZ [e]=true:=by rw[Mt,c,is,h6,h7];rfl
 unfold Cz
 rw[mf,if_neg (by decide),h4,if_neg (by decide),u,h5]
 show(if(AH s:Int)=(AH s:Int)then some s else none)=_
 rw[if_pos rfl]
theorem IB (s:ByteArray):∀L:List zu,(zd s L).1≤L.length∧((zd s L).2=true→∃x,L[(zd s L).1]?=some x∧x.name.toList=s.toList)
 |[]=>⟨xQ _,fun q=>by cases q⟩
 | x :: r => by
   obtain⟨a,b⟩:=IB s r
   unfold zd
   split
   · exact⟨by simpa using a,fun q=>by simpa using b q⟩
   · exact⟨Nat.zero_le _,fun q=>⟨x,rfl,by simpa using q⟩⟩
theorem Kv (x:zu) (r:List zu) (k:Nat) (b:Bool) (e:zu):AU (x::r) (k+1) b e=x::AU r k b e:=by
 unfold AU
 cases b<;>simp
theorem Qh {a b:zu} (h:a.name.toList=b.name.toList):∀r:List zu,BW (some a) r=BW (some b) r
 |[]=>rfl
 |y::r=>by rw[BW,BW,KM,KM,h]
theorem Qi (e : zu) (h1 : Ao e.name = true) (h2 : zD e = true) (h3 : AO e = true) : ∀ (L : List zu) (p : Option zu), BW p L = true → Ff p e = true → BW p (AU L (zd e.name L).1 (zd e.name L).2 e) = true := by
 have ok:∀p,Ff p e=true→BJ p e=true:=fun p hp=>by rw[FT,hp,Mt,h1,h2,h3];rfl
 intro L
 induction L with
 |nil=>intro p _ hp;show(BJ p e&&true)=true;rw[ok p hp];rfl
 | cons x r ih =>
   intro p hm hp
   rw[BW,xR]at hm
   unfold zd
   split
   · rename_i hc
     rw[Kv,BW,hm.1,adn]
     exact ih _ hm.2 hc
   · rename_i hc
     have hc':Op.bytesLess x.name.toList e.name.toList=false:=by simpa using hc
     cases hb:(x.name.toList==e.name.toList)with
     | true =>
       have hb':x.name.toList=e.name.toList:=by simpa using hb
       show(BJ p e&&BW (some e) r)=true
       rw[ok p hp,adn,←Qh hb'];exact hm.2
     | false =>
       show(BJ p e&&(BJ (some e) x&&BW (some x) r))=true
       rw[ok p hp,hm.2,adn,Bool.and_true,FT]
       have a:=hm.1
       rw[FT,xR]at a
       rw[a.1,adn]
       show Op.bytesLess e.name.toList x.name.toList=true
       rw[Fa x.name.toList e.name.toList,hc',hb];rfl
theorem Mv {L:List zu} {k:Nat} {b:Bool} {e x:zu} (h:x∈AU L k b e):x=e∨x∈L:=by
 unfold AU at h
 cases b with
 | true =>
   rcases adj h with h|h
   · exact .inr h
   · exact .inl h
 | false =>
   rcases ac9.1 h with h|h
   · exact .inr (ads h)
   · rcases yu.1 h with h|h
     · exact .inl h
     · exact .inr (List.mem_of_mem_drop h)
theorem SJ (e:zu) (h:BT e=true) (L:List zu) (hL:Ai L=true) (hl:(AU L (zd e.name L).1 (zd e.name L).2 e).length≤6):Ai (AU L (zd e.name L).1 (zd e.name L).2 e)=true:=by
 have he:Ao e.name=true∧zD e=true∧AO e=true:=by
  have:AZ [e]=true:=by
   unfold BT Cz at h
   by_cases c:AZ [e]=false
   · rw[if_pos c]at h;cases h
   · simpa using c
  rw[Mt]at this
  simpa [xR,and_assoc]using this
 unfold Ai at hL ⊢
 rw[xR]at hL ⊢
 obtain⟨a,b⟩:=hL
 unfold AZ at a ⊢
 rw[xR]at a
 refine⟨by rw[Qi e he.1 he.2.1 he.2.2 L none a.1 rfl,acO hl];rfl,adp.2 fun x hx=> ?_⟩
 rcases Mv hx with rfl|hx
 · exact h
 · exact adp.1 b x hx
theorem PJ {a b:ByteArray} (h:a.toList=b.toList):a=b:=by
 rw[C3,C3]at h
 exact ByteArray.ext (Array.toList_inj.1 h)
theorem Ju (e : zu) (m : Nat) (hm : KE e ≠ m) : ∀ L : List zu, BR (AU L (zd e.name L).1 (zd e.name L).2 e) m = BR L m
 | [] => by
   show BR [e] m=_
   unfold BR;simp [hm]
 | x :: r => by
   have ih:=Ju e m hm r
   have c1:∀(y:zu) (l:List zu),BR (y::l) m=(if KE y=m then [Uy y]else [])++BR l m:=fun y l=>by
    unfold BR
    by_cases c:KE y=m
    · simp [c]
    · simp [c]
   unfold zd
   split
   · rw[Kv,c1,c1,ih]
   · cases hb:(x.name.toList==e.name.toList)with
     | true =>
       have hb':x.name.toList=e.name.toList:=by simpa using hb
       have hx:x.name=e.name:=PJ hb'
       show BR (e::r) m=_
       have bx:KE x=KE e:=by unfold KE;rw[hx]
       rw[c1,c1,bx,if_neg hm,if_neg hm]
     | false =>
       show BR (e::x::r) m=_
       rw[c1 e,if_neg hm,adt]
theorem Tv (h:H) (v:AV) (l:List zq) (hvs:v.sc=true) (hn:l.length<1125899906842624) (rd:zZ 9 h v l.length (yR l)) (hv:∀x∈l,BU h x∧x.2.sc=true) (hm:l.length≤6→AZ (l.map (·.1))=true):aV AP.A 211 [.agg [v]] h=some (.bool (decide (l.length≤6)),h):=by
 obtain⟨h1,eh1⟩:∃g,g=h.eV.alloc [v]:=⟨_,rfl⟩
 have hx0:Ext h h1:=by rw[eh1];exact fun i c q=>((Ext.refl h.eV).alloc _) i c q
 have hn0:h.eV.next=h.next:=rfl
 have g1:h1.get h.next=some [v]:=by rw[eh1];exact yG rfl
 have Aq:=rd.mono fun i c q=>hx0 i c q
 have ln:=Aq.len
 refine wN (fn:=AP.f211) (h2:=h1) (e:=[(2,.bool (decide (l.length≤6)))]) rfl rfl rfl ?_ rfl rfl
 by_cases c:l.length≤6
 · have c':(l.length:Int)≤6:=by omega
   have hm':=hm c
   have k1:=OD h1 v l hvs hn Aq (fun x hx=>⟨(hv x hx).1.mono hx0,(hv x hx).2⟩) hm'
   obtain⟨_,_,m3⟩:=zG hm'
   generalize Bl (l.map (·.1))=N at *
   have c2:(N:Int)≤4096:=by omega
   rw[dt c]
   clear rd Aq hv hx0 hm hm'
   simp (disch:=omega)only[go_sem,yH,AP.f211,hvs,hn0,←eh1,g1,ln,Bi,k1,dt c',dt c2]
 · have c':¬(l.length:Int)≤6:=by omega
   rw[df c]
   clear rd Aq hv hx0 hm
   simp (disch:=omega)only[go_sem,yH,AP.f211,hvs,hn0,←eh1,g1,ln,df c']
theorem Jh (o:Option zu) (node:Nat) (hn:node<4) (name:ByteArray) (ho:∀e,o=some e→zD e=true) (hf:Ba o node=false):zD (A6 o node name)=true:=by
 have hb:Ek (Fu o)=true∧0≤GV o∧GV o≤1048576:=by
  cases o with
  |none=>exact⟨by decide,by decide,by decide⟩
  | some e =>
    have:=ho e rfl
    obtain⟨_,_,c,_⟩:=Ac this
    unfold zD at this
    rw[xR]at this
    exact⟨this.1,by show 0≤e.y0;omega,by show e.y0≤_;omega⟩
 obtain⟨v1,s1,s2⟩:=hb
 simp only[Ek,zU,xR,ac6,adp]at v1
 obtain⟨l4,lc⟩:=v1
 unfold Ba at hf
 rw[Bool.or_eq_false_iff]at hf
 have f1:=of_decide_eq_false hf.1
 have f2:=of_decide_eq_false hf.2
 obtain⟨x,hx⟩:∃x,(Fu o)[node]?=some x:=⟨(Fu o)[node]'(by omega),by simp⟩
 have gd:(Fu o).getD node 0=x:=by rw[acM,hx];rfl
 obtain⟨c1,c2⟩:=lc x (xV hx)
 rw[gd]at f2
 show(Ek (BQ (Fu o) node)&&(decide (1≤GV o+1)&&(zU (GV o+1)&&Gj (node:Int))))=true
 simp only[Ek,zU,Gj,xR,ac6,adp,Ki]
 refine⟨⟨l4,fun y hy=> ?_⟩,by omega,⟨by omega,by omega⟩,by omega,by omega⟩
 unfold BQ at hy
 rw[gd]at hy
 rcases adj hy with hy|hy
 · exact lc y hy
 · omega
def Yq (o:Option zu) (node:Nat) (name:ByteArray) (m:Int) (p s:ByteArray):zu:=⟨name,false,BQ (Fu o) node,GV o+1,node,m,p,s.size,AH s⟩
theorem TQ {o:Option zu} {node:Nat} (hn:node<4) {name:ByteArray} (ho:∀e,o=some e→zD e=true) (hf:Ba o node=false) (hname:Ao name=true) {m:Int} {p s:ByteArray} (hs:s.size≤300) (hp:QK m p s):BT (Yq o node name m p s)=true:=by
 unfold BT
 rw[N1 hs hp (Yq o node name m p s) rfl rfl rfl rfl rfl hname (Jh o node hn name ho hf)];rfl
theorem SO (h:H) (E:List AV) (lE:E.length=9) (sE:AV.aG E=true) (node:Nat) (hn:node<4) (name:ByteArray):
 aV AP.A 209 [.agg E,.bool false,.int .i64 node,.str name] h=some (.cf [.agg (yO (A6 none node name) (zj (A6 none node name).vec)),.int .i64 0],h):=by
 obtain⟨h1,eh1⟩:∃g,g=h.eV.alloc E:=⟨_,rfl⟩
 obtain⟨h2,eh2⟩:∃g,g=h1.alloc Z9:=⟨_,rfl⟩
 obtain⟨h3,eh3⟩:∃g,g=h2.alloc (ints [0,0,0,0]):=⟨_,rfl⟩
 have n0:h.eV.next=h.next:=rfl
 have n1:h1.next=h.next+1:=by rw[eh1];simp
 have n2:h2.next=h.next+2:=by rw[eh2];simp [n1]
 have n3:h3.next=h.next+3:=by rw[eh3];simp [n2]
 have f3:h3.floor=h.next:=by rw[eh3,eh2,eh1];simp
 have g1:h3.get (h.next+1)=some Z9:=by rw[eh3,yN (by omega),eh2,yG (by omega)]
 have g2:h3.get (h.next+2)=some (ints [0,0,0,0]):=by rw[eh3,yG (by omega)]
 have rv:Rd h3 (.aI (h.next+2) 0 4 1) (ints [0,0,0,0]):=⟨by simp only[aW,if_true,g2,xM];rfl,fun _=>by simp⟩
 have k1:=Pn h3 (.aI (h.next+2) 0 4 1) [0,0,0,0] rv (by decide) node hn
 have e0:([0,0,0,0]:List Int).getD node 0=0:=by
  match node,hn with
  |0,_=>rfl
  |1,_=>rfl
  |2,_=>rfl
  |3,_=>rfl
 rw[e0,if_neg (by decide)]at k1
 have e1:h.eV.alloc E=h1:=eh1.symm
 have e2:h1.alloc [.str ⟨#[]⟩,.bool false,.aT,.int .i64 0,.int .i64 0,.int .i64 0,.str ⟨#[]⟩,.int .i64 0,.int .i64 0]=h2:=eh2.symm
 have e3:h2.alloc (A3 4 [.int .i64 0])=h3:=eh3.symm
 obtain⟨W,hW⟩:∃W,W=yO (A6 none node name) (zj (A6 none node name).vec):=⟨_,rfl⟩
 rw[←hW]
 have hW':W=[.str name,.bool false,zj (BQ [0,0,0,0] node),.int .i64 1,.int .i64 node,.int .i64 0,.str ⟨#[]⟩,.int .i64 0,.int .i64 0]:=hW
 obtain⟨V,hV⟩:∃V,V=zj (BQ [0,0,0,0] node):=⟨_,rfl⟩
 rw[←hV]at k1 hW'
 have sV:V.sc=true:=by rw[hV];rfl
 have cV:=A4 sV
 have sW:AV.aG W=true:=by rw[hW'];simp [sV]
 have lW:W.length=9:=by rw[hW'];rfl
 obtain⟨h4,eh4⟩:∃g,g=h3.alloc Z9:=⟨_,rfl⟩
 obtain⟨h5,eh5⟩:∃g,g=h4.set (h.next+3) W:=⟨_,rfl⟩
 obtain⟨h7,eh7⟩:∃g,g=h5.set (h.next+1) W:=⟨_,rfl⟩
 have f4:h4.floor=h.next:=by rw[eh4];simp [f3]
 have z4:h4.get (h.next+3)=some Z9:=by rw[eh4,yG (by omega)]
 have z5:h5.get (h.next+3)=some W:=by rw[eh5,yM rfl,z4];rfl
 have y5:h5.get (h.next+1)=some Z9:=by rw[eh5,yE (by omega),eh4,yN (by omega)];exact g1
 have z7:h7.get (h.next+1)=some W:=by rw[eh7,yM rfl,y5];rfl
 have e4:h3.alloc [.str ⟨#[]⟩,.bool false,.aT,.int .i64 0,.int .i64 0,.int .i64 0,.str ⟨#[]⟩,.int .i64 0,.int .i64 0]=h4:=eh4.symm
 have st5:wP h4 (h.next+3) 0 9 W (some Z9)=some h5:=by rw[eh5];exact Aj (by omega) lW rfl sW
 have rdW:jg true 9 W 0=some (.agg W):=by rw[hW'];rfl
 have st7:wP h5 (h.next+1) 0 9 W (some Z9)=some h7:=by rw[eh7];exact Aj (by rw[eh5];simp [f4]) lW rfl sW
 refine wN (fn:=AP.f209) (h2:=h7) (e:=[(8,.aH (h.next+1) 0),(9,.int .i64 0)]) (vs:=[.agg W,.int .i64 0]) rfl rfl rfl ?_ (by simp only[AP.f209,dh,pB,oW,nu,tR,z7,vR,rdW];rfl) (by rw[hW];rfl)
 clear hW z7 eh7 eh5 eh4 hV rv
 rw[hW']at st5
 simp (disch:=omega)only[go_sem,yH,AP.f209,n0,lE,sE,e1,n1,e2,n2,e3,n3,k1,cV,sV,e4,z4,st5,z5,rdW,y5,st7]
theorem TX (g : H) (hf : g.floor ≤ g.next) (a b D : Nat) (v : AV) (l : List zq) (hvs : v.sc = true) (hfol : Ai (l.map (·.1)) = true) (ga : g.get a = some [v]) (gb : g.get b = some [.aT]) (fb : g.floor ≤ b) (fD : g.floor ≤ D) (hab : a ≠ D) (hbD : b ≠ D)
 (o:Option zu) (node:Nat) (hn:node<4) (name:ByteArray) (gD:g.get D=some (yO (A6 o node name) (zj (A6 o node name).vec))) (ho:∀e,o=some e→zD e=true) (hfl:Ba o node=false) (hname:Ao name=true)
 (s:ByteArray) (hs:s.size≤300) (g0:H) (hx:Ext g0 g) (bD:g0.next≤D) (rd:zZ 9 g0 v l.length (yR l)) (hv:∀x∈l,BU g0 x∧x.2.sc=true):
 ∃ h' L' err, aP (aV AP.A) bL (QJ 9 AP.f203.body) [(3, .str s), (4, .aH a 0), (8, .aH b 0), (10, .int .i64 (zd name (l.map (·.1))).1), (11, .bool (zd name (l.map (·.1))).2), (13, .aH D 0)] g = some (.ret, [(8, .aH b 0), (9, .int .i64 err)], h') ∧
   h'.get b=some [Ec L']∧(err≠0∨Ai L'=true∧∃e,e.name=name∧L'=AU (l.map (·.1)) (zd name (l.map (·.1))).1 (zd name (l.map (·.1))).2 e):=by
 have hfol':=hfol
 unfold Ai at hfol'
 rw[xR]at hfol'
 obtain⟨M1,M2,_⟩:=zG hfol'.1
 rw[acV]at M1
 obtain⟨m,p,kp,hp,_⟩:=Yu g s hs
 have he:=TQ hn ho hfl hname hs hp
 obtain⟨N,hN⟩:∃N,N=Yq o node name m p s:=⟨_,rfl⟩
 rw[←hN]at he
 have Nn:N.name=name:=by rw[hN];rfl
 obtain⟨V,hV⟩:∃V,V=zj (BQ (Fu o) node):=⟨_,rfl⟩
 have sV:V.sc=true:=by rw[hV];rfl
 obtain⟨S,hS⟩:∃S,S=GV o+1:=⟨_,rfl⟩
 obtain⟨W0,hW0⟩:∃W,W=[.str name,.bool false,V,.int .i64 S,.int .i64 node,.int .i64 0,.str ⟨#[]⟩,.int .i64 0,.int .i64 0]:=⟨_,rfl⟩
 obtain⟨W1,hW1⟩:∃W,W=[.str name,.bool false,V,.int .i64 S,.int .i64 node,.int .i64 m,.str ⟨#[]⟩,.int .i64 0,.int .i64 0]:=⟨_,rfl⟩
 obtain⟨W2,hW2⟩:∃W,W=[.str name,.bool false,V,.int .i64 S,.int .i64 node,.int .i64 m,.str p,.int .i64 0,.int .i64 0]:=⟨_,rfl⟩
 obtain⟨W3,hW3⟩:∃W,W=[.str name,.bool false,V,.int .i64 S,.int .i64 node,.int .i64 m,.str p,.int .i64 s.size,.int .i64 0]:=⟨_,rfl⟩
 obtain⟨W4,hW4⟩:∃W,W=[.str name,.bool false,V,.int .i64 S,.int .i64 node,.int .i64 m,.str p,.int .i64 s.size,.int .i64 (AH s:Nat)]:=⟨_,rfl⟩
 have gD':g.get D=some W0:=by rw[gD,hW0,hV,hS];rfl
 have eN:yO N (zj N.vec)=W4:=by rw[hW4,hN,hV,hS];rfl
 obtain⟨g1,eg1⟩:∃x,x=g.set D W1:=⟨_,rfl⟩
 obtain⟨g2,eg2⟩:∃x,x=g1.set D W2:=⟨_,rfl⟩
 obtain⟨g3,eg3⟩:∃x,x=g2.set D W3:=⟨_,rfl⟩
 obtain⟨g4,eg4⟩:∃x,x=g3.set D W4:=⟨_,rfl⟩
 have z1:g1.get D=some W1:=by rw[eg1,yM rfl,gD'];rfl
 have z2:g2.get D=some W2:=by rw[eg2,yM rfl,z1];rfl
 have z3:g3.get D=some W3:=by rw[eg3,yM rfl,z2];rfl
 have z4:g4.get D=some W4:=by rw[eg4,yM rfl,z3];rfl
 have k4:∀i,i≠D→g4.get i=g.get i:=fun i hi=>by rw[eg4,yE hi,eg3,yE hi,eg2,yE hi,eg1,yE hi]
 have f1:g1.floor=g.floor:=by rw[eg1];simp
 have f2:g2.floor=g.floor:=by rw[eg2];simp [f1]
 have f3:g3.floor=g.floor:=by rw[eg3];simp [f2]
 have f4:g4.floor=g.floor:=by rw[eg4];simp [f3]
 have n4:g4.next=g.next:=by rw[eg4,eg3,eg2,eg1];simp
 have QI:wP g D 5 1 [.int .i64 m] (some W0)=some g1:=by rw[xm fD (by rw[hW0];show 5<9;omega) rfl,eg1,hW1,hW0];rfl
 have st2:wP g1 D 6 1 [.str p] (some W1)=some g2:=by rw[xm (by omega) (by rw[hW1];show 6<9;omega) rfl,eg2,hW2,hW1];rfl
 have st3:wP g2 D 7 1 [.int .i64 s.size] (some W2)=some g3:=by rw[xm (by omega) (by rw[hW2];show 7<9;omega) rfl,eg3,hW3,hW2];rfl
 have st4:wP g3 D 8 1 [.int .i64 (AH s:Nat)] (some W3)=some g4:=by rw[xm (by omega) (by rw[hW3];show 8<9;omega) rfl,eg4,hW4,hW3];rfl
 have kc:=NC g3 s (by omega)
 have ga4:g4.get a=some [v]:=by rw[k4 a hab];exact ga
 have gb4:g4.get b=some [.aT]:=by rw[k4 b hbD];exact gb
 have x4:Ext g0 g4:=fun i c q=>by have:=g0.lt _ _ q;rw[k4 i (by omega)];exact hx i c q
 have rW4:jg true 9 W4 0=some (.agg W4):=by rw[hW4];rfl
 obtain⟨pl1,pl2⟩:=IB name (l.map (·.1))
 rw[acV]at pl1
 have kw:=YJ g4 v l hvs M1 (rd.mono fun i c q=>x4 i c q) (fun x hx=>⟨(hv x hx).1.mono x4,(hv x hx).2,(Ac (M2 x.1 (ac2.2 ⟨x,hx,rfl⟩)).2.1).1⟩) (zd name (l.map (·.1))).1 (zd name (l.map (·.1))).2 pl1 (fun q=>by
  obtain⟨x,hx,_⟩:=pl2 q
  have:=(xL.1 hx).1
  rw[acV]at this;exact this) N
 have wf:=SJ N he (l.map (·.1)) hfol
 rw[eN]at kw
 rw[Nn]at wf
 obtain⟨L',hL'⟩:∃L',L'=AU (l.map (·.1)) (zd name (l.map (·.1))).1 (zd name (l.map (·.1))).2 N:=⟨_,rfl⟩
 rw[←hL']at kw wf
 have lL:L'.length≤7:=by
  rw[hL'];unfold AU
  split
  · rw[ac0,acV];omega
  · simp;omega
 obtain⟨w,hw⟩:∃w,w=Ec L':=⟨_,rfl⟩
 have sw:w.sc=true:=by rw[hw];exact OK L'
 have cw:=A4 sw
 rw[←hw]at kw
 obtain⟨Q,hQ⟩:∃Q,Q=g4.next:=⟨_,rfl⟩
 have Q4:g4.next=Q:=hQ.symm
 have bQ:b<Q:=by have:=g.lt _ _ gb;omega
 obtain⟨g5,eg5⟩:∃x,x=g4.alloc [.aT]:=⟨_,rfl⟩
 obtain⟨g6,eg6⟩:∃x,x=g5.set Q [w]:=⟨_,rfl⟩
 have z5:g5.get Q=some [.aT]:=by rw[eg5,yG hQ]
 have z6:g6.get Q=some [w]:=by rw[eg6,yM rfl,z5];rfl
 have f5:g5.floor=g.floor:=by rw[eg5];simp [f4]
 have f6:g6.floor=g.floor:=by rw[eg6];simp [f5]
 have st6:wP g5 Q 0 1 [w] (some [.aT])=some g6:=by rw[xm (by omega) (by simp) sw,eg6];rfl
 have gb6:g6.get b=some [.aT]:=by rw[eg6,yE (by omega),eg5,yN (by omega)];exact gb4
 have hmf:(L'.map CN).length≤6→AZ ((L'.map CN).map (·.1))=true:=fun q=>by
  rw[adz,show((·.1)∘CN:zu→zu)=id from rfl,List.map_id]
  rw[acV]at q
  have:=wf q
  unfold Ai at this
  rw[xR]at this
  exact this.1
 have hok:∀x∈L'.map CN,BU g6 x∧x.2.sc=true:=fun x hxm=>by
  obtain⟨e,hem,rfl⟩:=ac2.1 hxm
  have hp300:p.size≤300:=by
   rcases hp with ⟨_,rfl⟩|⟨_,h1,_⟩<;>omega
  rcases Mv (by rw[hL']at hem;exact hem)with rfl|hem
  · have hm:Ao e.name=true:=by rw[Nn];exact hname
    have nz:=A1 hm
    have v4:e.vec.length=4:=by
     have:=(Ac (Jh o node hn name ho hfl)).1
     rw[hN];exact this
    exact⟨⟨Bf g6 _,by show e.vec.length<_;omega,by show e.name.size<_;omega,by show e.packed.size<_;rw[hN];show p.size<_;omega⟩,rfl⟩
  · obtain⟨t1,t2,t3⟩:=M2 e hem
    have:=A1 t1
    have:=CL t3
    have:=(Ac t2).1
    exact⟨⟨Bf g6 _,by show e.vec.length<_;omega,by show e.name.size<_;omega,by show e.packed.size<_;omega⟩,rfl⟩
 have kf:=Tv g6 w (L'.map CN) sw (by rw[acV];omega) (by rw[hw];exact OJ g6 L') hok hmf
 clear hmf hok
 rw[acV]at kf
 generalize zd name (l.map (·.1))=P at *
 by_cases c:L'.length≤6
 · rw[dt c]at kf
   obtain⟨g7,eg7⟩:∃x,x=g6.set b [w]:=⟨_,rfl⟩
   have st7:wP g6 b 0 1 [w] (some [.aT])=some g7:=by rw[xm (by omega) (by simp) sw,eg7];rfl
   refine⟨g7,L',0, ?_,by rw[eg7,yM rfl,gb6,hw];rfl,.inr ⟨wf c,N,Nn,hL'⟩⟩
   clear rd hv hx x4 k4 wf hp he gD eN hN hW0 hW1 hW2 hW3 hW4 hL' hw ho hfol hfol' M2 pl2
   simp (disch:=omega)only[go_sem,yH,AP.f203,Qu,Qt,kp,gD',QI,z1,st2,z2,st3,kc,z3,st4,ga4,Bi,z4,rW4,kw,←eg5,Q4,z5,cw,st6,z6,kf,gb6,st7]
 · rw[df c]at kf
   obtain⟨g7,eg7⟩:∃x,x=g6.set b [.aT]:=⟨_,rfl⟩
   have st7:wP g6 b 0 1 [.aT] (some [.aT])=some g7:=by rw[xm (by omega) (by simp) rfl,eg7];rfl
   refine⟨g7,[],1604, ?_,by rw[eg7,yM rfl,gb6];rfl,.inl (by decide)⟩
   clear rd hv hx x4 k4 wf hp he gD eN hN hW0 hW1 hW2 hW3 hW4 hL' hw ho hfol hfol' M2 pl2
   simp (disch:=omega)only[go_sem,yH,AP.f203,Qu,Qt,kp,gD',QI,z1,st2,z2,st3,kc,z3,st4,ga4,Bi,z4,rW4,kw,←eg5,Q4,z5,cw,st6,z6,kf,gb6,st7]
set_option maxHeartbeats 4000000 in
theorem Qq (h:H) (v:AV) (l:List zq) (node:Int) (name s:ByteArray) (hvs:v.sc=true) (hn:l.length<1125899906842624) (rd:zZ 9 h v l.length (yR l)) (hv:∀x∈l,BU h x∧x.2.sc=true) (hnm:name.size<1125899906842624):
 ∃L' err,aV AP.A 203 [.agg [v],.int .i64 node,.str name,.str s] h=some (.cf [.agg [Ec L'],.int .i64 err],h)∧(err≠0∨Ai (l.map (·.1))=true∧Ai L'=true∧∃e,e.name=name∧L'=AU (l.map (·.1)) (zd name (l.map (·.1))).1 (zd name (l.map (·.1))).2 e):=by
 obtain⟨h1,eh1⟩:∃g,g=h.eV.alloc [v]:=⟨_,rfl⟩
 obtain⟨h2,eh2⟩:∃g,g=h1.alloc [.aT]:=⟨_,rfl⟩
 have n0:h.eV.next=h.next:=rfl
 have n1:h1.next=h.next+1:=by rw[eh1];simp
 have n2:h2.next=h.next+2:=by rw[eh2];simp [n1]
 have f2:h2.floor=h.next:=by rw[eh2,eh1];simp
 have x2:Ext h h2:=fun i c q=>by rw[eh2,eh1];exact(((Ext.refl h.eV).alloc _).alloc _) i c q
 have z0:h2.get h.next=some [v]:=by rw[eh2,yN (by omega),eh1];exact yG rfl
 have z1:h2.get (h.next+1)=some [.aT]:=by rw[eh2,yG (by omega)]
 have e1:h.eV.alloc [v]=h1:=eh1.symm
 have e2:h1.alloc [.aT]=h2:=eh2.symm
 have rd2:=rd.mono fun i c q=>x2 i c q
 have hv2:∀x∈l,BU h2 x∧x.2.sc=true:=fun x hx=>⟨(hv x hx).1.mono x2,(hv x hx).2⟩
 have k1:=TA h2 v l hvs hn rd2 hv2
 have k2:=O0 h2 name hnm
 obtain⟨L,hL⟩:∃L,L=l.map (·.1):=⟨_,rfl⟩
 rw[←hL]at k1
 have nofol:(.aT:AV)=Ec []:=rfl
 have fail:∀(err:Int) (g:H),g.get (h.next+1)=some [.aT]→aP (aV AP.A) bL AP.f203.body (params 0 [.agg [v],.int .i64 node,.str name,.str s]) h.eV=some (.ret,[(8,.aH (h.next+1) 0),(9,.int .i64 err)],g)→err≠0→∃L' err,aV AP.A 203 [.agg [v],.int .i64 node,.str name,.str s] h=some (.cf [.agg [Ec L'],.int .i64 err],h)∧(err≠0∨Ai (l.map (·.1))=true∧Ai L'=true∧∃e,e.name=name∧L'=AU (l.map (·.1)) (zd name (l.map (·.1))).1 (zd name (l.map (·.1))).2 e):=fun err g q1 q2 q3=>by
  refine⟨[],err,wN (fn:=AP.f203) (h2:=g) (vs:=[.agg [.aT],.int .i64 err]) rfl rfl rfl q2 (by simp only[AP.f203,dh,pB,oW,nu,tR,q1,vR];rfl) rfl,.inl q3⟩
 obtain⟨h3,eh3⟩:∃g,g=h2.set (h.next+1) [.aT]:=⟨_,rfl⟩
 have st3:wP h2 (h.next+1) 0 1 [.aT] (some [.aT])=some h3:=by rw[xm (by omega) (by simp) rfl,eh3];rfl
 have z3:h3.get (h.next+1)=some [.aT]:=by rw[eh3,yM rfl,z1];rfl
 cases hm:Ai L with
 | false =>
   rw[hm]at k1
   refine fail 1600 h3 z3 ?_ (by decide)
   clear rd rd2 hv hv2 x2 fail
   simp (disch:=omega)only[go_sem,yH,AP.f203,hvs,n0,e1,n1,e2,z0,Bi,k1,z1,st3]
 |true=>
 rw[hm]at k1
 by_cases c1:node<0
 · refine fail 1600 h3 z3 ?_ (by decide)
   clear rd rd2 hv hv2 x2 fail
   simp (disch:=omega)only[go_sem,yH,AP.f203,hvs,n0,e1,n1,e2,z0,Bi,k1,z1,st3,dt c1]
 by_cases c2:4≤node
 · refine fail 1600 h3 z3 ?_ (by decide)
   clear rd rd2 hv hv2 x2 fail
   simp (disch:=omega)only[go_sem,yH,AP.f203,hvs,n0,e1,n1,e2,z0,Bi,k1,z1,st3,df c1,dt c2]
 cases hname:Ao name with
 | false =>
   rw[hname]at k2
   refine fail 1601 h3 z3 ?_ (by decide)
   clear rd rd2 hv hv2 x2 fail
   simp (disch:=omega)only[go_sem,yH,AP.f203,hvs,n0,e1,n1,e2,z0,Bi,k1,z1,st3,df c1,df c2,k2]
 |true=>
 rw[hname]at k2
 by_cases c3:300<s.size
 · have c3':(300:Int)<s.size:=by omega
   refine fail 1602 h3 z3 ?_ (by decide)
   clear rd rd2 hv hv2 x2 fail
   simp (disch:=omega)only[go_sem,yH,AP.f203,hvs,n0,e1,n1,e2,z0,Bi,k1,z1,st3,df c1,df c2,k2,dt c3']
 have c3':¬(300:Int)<s.size:=by omega
 obtain⟨nd,rfl⟩:∃nd:Nat,node=nd:=⟨node.toNat,by omega⟩
 have k3:=TY h2 v l name hvs hn rd2
 have hm':=hm
 unfold Ai at hm'
 rw[xR]at hm'
 obtain⟨M1,M2,_⟩:=zG hm'.1
 obtain⟨pl1,pl2⟩:=IB name L
 rw[←hL]at k3
 obtain⟨P,hP⟩:∃P,P=zd name L:=⟨_,rfl⟩
 rw[←hP]at k3 pl1 pl2
 obtain⟨k,th⟩:=P
 have k3':aV AP.A 208 [.agg [v],.str name] h2=some (.cf [.int .i64 k,.bool th],h2):=k3
 have pl1':k≤L.length:=pl1
 obtain⟨h4,eh4⟩:∃g,g=h2.alloc Z9:=⟨_,rfl⟩
 have n4:h4.next=h.next+3:=by rw[eh4];simp [n2]
 have f4:h4.floor=h.next:=by rw[eh4];simp [f2]
 have z4:h4.get (h.next+2)=some Z9:=by rw[eh4,yG (by omega)]
 have low4:∀i,i<h.next+2→h4.get i=h2.get i:=fun i hi=>by rw[eh4,yN (by omega)]
 have e4:h2.alloc [.str ⟨#[]⟩,.bool false,.aT,.int .i64 0,.int .i64 0,.int .i64 0,.str ⟨#[]⟩,.int .i64 0,.int .i64 0]=h4:=eh4.symm
 obtain⟨R,hR⟩:∃R,R=QJ 9 AP.f203.body:=⟨_,rfl⟩
 have hb:AP.f203.body=.seq (at_ 0 AP.f203.body) (.seq (at_ 1 AP.f203.body) (.seq (at_ 2 AP.f203.body) (.seq (at_ 3 AP.f203.body) (.seq (at_ 4 AP.f203.body) (.seq (at_ 5 AP.f203.body) (.seq (at_ 6 AP.f203.body) (.seq (at_ 7 AP.f203.body) (.seq (at_ 8 AP.f203.body) R)))))))):=by rw[hR];rfl
 have good:∀(g:H) (o:Option zu),g.floor=h.next→g.next=h.next+4→(∀i,i<h.next+2→g.get i=h2.get i)→g.get (h.next+3)=some (yO (A6 o nd name) (zj (A6 o nd name).vec))→(∀e,o=some e→zD e=true)→Ba o nd=false→
  ∃h' L' err,aP (aV AP.A) bL R [(3,.str s),(4,.aH h.next 0),(8,.aH (h.next+1) 0),(10,.int .i64 k),(11,.bool th),(13,.aH (h.next+3) 0)] g=some (.ret,[(8,.aH (h.next+1) 0),(9,.int .i64 err)],h')∧h'.get (h.next+1)=some [Ec L']∧(err≠0∨Ai L'=true∧∃e,e.name=name∧L'=AU L k th e):=fun g o q1 q2 q3 q4 q5 q6=>by
  have xg:Ext h2 g:=fun i c q=>by rw[q3 i (by have:=h2.lt _ _ q;omega)];exact q
  have:=TX g (by omega) h.next (h.next+1) (h.next+3) v l hvs (by rw[←hL];exact hm) (xg _ _ z0) (xg _ _ z1) (by omega) (by omega) (by omega) (by omega) o nd (by omega) name q4 q5 q6 hname s (by omega) h2 xg (by omega) rd2 hv2
  rw[←hL,←hP,←hR]at this
  exact this
 have fin:∀(g:H) (L':List zu) (err:Int),g.get (h.next+1)=some [Ec L']→(err≠0∨Ai L'=true∧∃e,e.name=name∧L'=AU L k th e)→aP (aV AP.A) bL AP.f203.body (params 0 [.agg [v],.int .i64 nd,.str name,.str s]) h.eV=some (.ret,[(8,.aH (h.next+1) 0),(9,.int .i64 err)],g)→∃L' err,aV AP.A 203 [.agg [v],.int .i64 nd,.str name,.str s] h=some (.cf [.agg [Ec L'],.int .i64 err],h)∧(err≠0∨Ai (l.map (·.1))=true∧Ai L'=true∧∃e,e.name=name∧L'=AU (l.map (·.1)) (zd name (l.map (·.1))).1 (zd name (l.map (·.1))).2 e):=fun g L' err q1 q2 q3=>by
  rw[←hL,←hP]
  refine⟨L',err,wN (fn:=AP.f203) (h2:=g) (vs:=[.agg [Ec L'],.int .i64 err]) rfl rfl rfl q3 (by simp only[AP.f203,dh,pB,oW,nu,tR,q1,vR];rfl) (by unfold Ec CD;split<;>rfl), ?_⟩
  rcases q2 with q2|⟨q2,q4⟩
  · exact .inl q2
  · exact .inr ⟨hm,q2,q4⟩
 cases th with
 | true =>
   obtain⟨e,he,_⟩:=pl2 rfl
   have he':L[k]?=some e:=he
   rw[hL,ya]at he'
   obtain⟨x,hx,rfl⟩:=xG.1 he'
   have hk:k<l.length:=(xL.1 hx).1
   have hxm:=xV hx
   obtain⟨ad,a1,a2⟩:=rd2.SR
   have b1:=a1 k ⟨by omega,by omega⟩
   have x24:Ext h2 h4:=fun i c q=>by rw[low4 i (by have:=h2.lt _ _ q;omega)];exact q
   obtain⟨_,b2⟩:=a2 h4 x24 k x hx
   obtain⟨ok,sc⟩:=hv2 x hxm
   have hh:=(M2 x.1 (by rw[hL];exact ac2.2 ⟨x,hxm,rfl⟩)).2.1
   obtain⟨h5,eh5⟩:∃g,g=h4.set (h.next+2) (yO x.1 x.2):=⟨_,rfl⟩
   have n5:h5.next=h.next+3:=by rw[eh5];simp [n4]
   have f5:h5.floor=h.next:=by rw[eh5];simp [f4]
   have z5:h5.get (h.next+2)=some (yO x.1 x.2):=by rw[eh5,yM rfl,z4];rfl
   have low5:∀i,i<h.next+2→h5.get i=h2.get i:=fun i hi=>by rw[eh5,yE (by omega),low4 i hi]
   have st5:wP h4 (h.next+2) 0 9 (yO x.1 x.2) (some Z9)=some h5:=by rw[eh5];exact Aj (by omega) rfl rfl (Cu sc)
   have rE:jg true 9 (yO x.1 x.2) 0=some (.agg (yO x.1 x.2)):=rfl
   have k4:=SP h5 x.1 x.2 sc (ok.mono fun i c q=>by rw[low5 i (by have:=h2.lt _ _ q;omega)];exact q) hh nd (by omega) name
   have g40:h4.get h.next=some [v]:=by rw[low4 _ (by omega)];exact z0
   obtain⟨h6,eh6⟩:∃g,g=h5.alloc Z9:=⟨_,rfl⟩
   have z6:h6.get (h.next+3)=some Z9:=by rw[eh6,yG (by omega)]
   have f6:h6.floor=h.next:=by rw[eh6];simp [f5]
   have e6:h5.alloc [.str ⟨#[]⟩,.bool false,.aT,.int .i64 0,.int .i64 0,.int .i64 0,.str ⟨#[]⟩,.int .i64 0,.int .i64 0]=h6:=eh6.symm
   cases hfl:Ba (some x.1) nd with
   | true =>
     rw[hfl,if_pos rfl]at k4
     obtain⟨h7,eh7⟩:∃g,g=h6.set (h.next+3) Z9:=⟨_,rfl⟩
     have st7:wP h6 (h.next+3) 0 9 [.str ⟨#[]⟩,.bool false,.aT,.int .i64 0,.int .i64 0,.int .i64 0,.str ⟨#[]⟩,.int .i64 0,.int .i64 0] (some Z9)=some h7:=by rw[eh7];exact Aj (by omega) rfl rfl rfl
     have z7:h7.get (h.next+1)=some [.aT]:=by rw[eh7,yE (by omega),eh6,yN (by omega),low5 _ (by omega)];exact z1
     obtain⟨h8,eh8⟩:∃g,g=h7.set (h.next+1) [.aT]:=⟨_,rfl⟩
     have st8:wP h7 (h.next+1) 0 1 [.aT] (some [.aT])=some h8:=by rw[xm (by rw[eh7];simp;omega) (by simp) rfl,eh8];rfl
     refine fail 1605 h8 (by rw[eh8,yM rfl,z7];rfl) ?_ (by decide)
     have lE:(yO x.1 x.2).length=9:=rfl
     have cE:=Cu (e:=x.1) sc
     clear rd rd2 hv hv2 x2 fail good fin hb hR a1 a2 ok x24 low4 low5 k3 M2 pl2 hm hm' hh
     generalize yO x.1 x.2=E at *
     simp (disch:=omega)only[go_sem,yH,AP.f203,hvs,n0,e1,n1,e2,z0,Bi,k1,df c1,df c2,k2,df c3',k3',e4,n2,g40,b1,b2,z4,lE,cE,st5,z5,rE,k4,e6,n5,z6,st7,z7,st8]
   | false =>
     rw[hfl,if_neg (by decide)]at k4
     obtain⟨W,hW⟩:∃W,W=yO (A6 (some x.1) nd name) (zj (A6 (some x.1) nd name).vec):=⟨_,rfl⟩
     rw[←hW]at k4
     obtain⟨h7,eh7⟩:∃g,g=h6.set (h.next+3) W:=⟨_,rfl⟩
     have lW:W.length=9:=by rw[hW];rfl
     have cW:AV.aG W=true:=by rw[hW];exact Cu rfl
     have st7:wP h6 (h.next+3) 0 9 W (some Z9)=some h7:=by rw[eh7];exact Aj (by omega) lW rfl cW
     obtain⟨h',L',err,r1,r2,r3⟩:=good h7 (some x.1) (by rw[eh7];simp [f6]) (by rw[eh7,eh6];simp [n5]) (fun i hi=>by rw[eh7,yE (by omega),eh6,yN (by omega),low5 i hi]) (by rw[eh7,yM rfl,z6,←hW];rfl) (fun e he=>by rw[←xF he];exact hh) hfl
     refine fin h' L' err r2 r3 ?_
     rw[hb]
     have lE:(yO x.1 x.2).length=9:=rfl
     have cE:=Cu (e:=x.1) sc
     clear rd rd2 hv hv2 x2 fail good fin hb hR a1 a2 ok x24 low4 low5 k3 M2 pl2 hm hm' hh hW r2 r3
     generalize yO x.1 x.2=E at *
     simp (disch:=omega)only[go_sem,yH,AP.f203,Ar,AA,hvs,n0,e1,n1,e2,z0,Bi,k1,df c1,df c2,k2,df c3',k3',e4,n2,g40,b1,b2,z4,lE,cE,st5,z5,rE,k4,e6,n5,lW,cW,z6,st7,r1]
 | false =>
   have k4:=SO h4 Z9 rfl rfl nd (by omega) name
   obtain⟨h6,eh6⟩:∃g,g=h4.alloc Z9:=⟨_,rfl⟩
   have z6:h6.get (h.next+3)=some Z9:=by rw[eh6,yG (by omega)]
   have f6:h6.floor=h.next:=by rw[eh6];simp [f4]
   have e6:h4.alloc [.str ⟨#[]⟩,.bool false,.aT,.int .i64 0,.int .i64 0,.int .i64 0,.str ⟨#[]⟩,.int .i64 0,.int .i64 0]=h6:=eh6.symm
   obtain⟨W,hW⟩:∃W,W=yO (A6 none nd name) (zj (A6 none nd name).vec):=⟨_,rfl⟩
   rw[←hW]at k4
   obtain⟨h7,eh7⟩:∃g,g=h6.set (h.next+3) W:=⟨_,rfl⟩
   have lW:W.length=9:=by rw[hW];rfl
   have cW:AV.aG W=true:=by rw[hW];exact Cu rfl
   have st7:wP h6 (h.next+3) 0 9 W (some Z9)=some h7:=by rw[eh7];exact Aj (by omega) lW rfl cW
   have hfl:Ba none nd=false:=by
    match nd,c2 with
    |0,_=>rfl
    |1,_=>rfl
    |2,_=>rfl
    |3,_=>rfl
    |n+4,c2=>exact absurd (by omega) c2
   obtain⟨h',L',err,r1,r2,r3⟩:=good h7 none (by rw[eh7];simp [f6]) (by rw[eh7,eh6];simp [n4]) (fun i hi=>by rw[eh7,yE (by omega),eh6,yN (by omega),low4 i hi]) (by rw[eh7,yM rfl,z6,←hW];rfl) (fun e he=>by cases he) hfl
   refine fin h' L' err r2 r3 ?_
   rw[hb]
   have rZ:jg true 9 Z9 0=some (.agg Z9):=rfl
   clear rd rd2 hv hv2 x2 fail good fin hb hR low4 k3 M2 pl2 hm hm' hW r2 r3
   simp (disch:=omega)only[go_sem,yH,AP.f203,Ar,AA,hvs,n0,e1,n1,e2,z0,Bi,k1,df c1,df c2,k2,df c3',k3',e4,n2,z4,rZ,k4,e6,n4,lW,cW,z6,st7,r1]
end Ab
