/- Part C4. -/
import Derived.Test.YtmckmpeekikfdaaGreatC3
set_option linter.unusedSimpArgs false
set_option linter.unusedVariables false
set_option maxRecDepth 100000
namespace Ab
open Go
theorem B8:∀(p q:List Int) (i:Nat),wg i (p++q)=wg i p++wg (i+p.length) q
 |[],q,i=>by simp [wg]
 | c :: p, q, i => by
   rw[List.cons_append,wg,wg,B8 p q (i+1),Vy,show i+1+p.length=i+(p.length+1)by omega]
   split<;>rfl
theorem Dc:∀(p q:List Int),wq (p++q)=wq p++wq q
 |[],q=>by simp [wq]
 | c :: p, q => by
   rw[List.cons_append,wq,wq,Dc p q]
   split<;>rfl
structure Bt (hb h:H) (a o N:Nat) (p:List Int) (l:List Nat) (av:AV):Prop where
 ext:Ext hb h
 fl:h.floor=hb.next
 KR:h.floor≤h.next
 ga:h.get a=some [av]
 fa:hb.next≤a
 go:h.get o=some (ints (List.replicate N 0))
 fo:hb.next≤o
 Tn:a≠o
 own:wM 1 h av l.length (xJ l)
 nv:∀j,av.id?=some j→j≠a∧j≠o
 ll:l.length=(wq p).length
 nd:l.Nodup
 tr:∀i,i<l.length→∃sid,h.get (l.getD i 0)=some [.int .i64 ((wq p).getD i 0),.int .i64 ((wg 0 p).getD i 0),.aF sid 0 1 1]∧h.get sid=some [.int .i64 ((wg 0 p).getD i 0)]∧(l.getD i 0≠a∧l.getD i 0≠o∧av.id?≠some (l.getD i 0))∧(sid≠a∧sid≠o∧av.id?≠some sid)
theorem CN {α:Type} {l m:List α} {i:Nat} {d:α} (h:i<l.length):(l++m).getD i d=l.getD i d:=by
 rw[Vx,VQ h,←Vx]
theorem CM {α:Type} {l:List α} {x d:α}:(l++[x]).getD l.length d=x:=by
 rw[Vx,VL (vB _)];simp
theorem BJ {hb : H} {x : AV} {C : List Int} {a o : Nat} (hC : C.length < 1000) (rd : Rd hb x (ints C)) (pos : ∀ y ∈ C, 0 ≤ y) : ∀ (q p : List Int) (l : List Nat) (av : AV) (h : H), C = p ++ q → Bt hb h a o C.length p l av →
 ∃l' av' h',Lp AP.A [0,3,4,16,17,18] AP.f359L2 [(0,x),(3,.aF o 0 C.length 1),(4,.aE a 0),(16,x),(17,.int .i64 C.length),(18,.int .i64 p.length)] h=some (.exit 0,[(0,x),(3,.aF o 0 C.length 1),(4,.aE a 0),(16,x),(17,.int .i64 C.length),(18,.int .i64 C.length),(19,.bool false)],h')∧Bt hb h' a o C.length C l' av'
 | [], p, l, av, h, hp, b => by
   rw[VM]at hp;subst hp
   refine⟨l,av,h,tW ?_,b⟩
   simp (disch:=omega)only[go_sem,wc,AP.f359L2]
 | y :: q, p, l, av, h, hp, b => by
   have hl:C.length=p.length+(q.length+1):=by rw[hp];simp
   obtain⟨ad,a1,a2⟩:=rd.xj
   have b1:=a1 p.length ⟨by omega,by omega⟩
   have hyC:C[p.length]?=some y:=by rw[hp];simp
   have b2:=a2 h b.ext p.length y hyC
   have yr:=pos y (vE hyC)
   have n2:(p++[y]).length=p.length+1:=by simp
   have c1:((p.length:Nat):Int)<C.length:=by omega
   by_cases c:0<y
   · have ga:=b.ga
     have la:=h.lt _ _ ga
     have lo:=h.lt _ _ b.go
     have fl:=b.fl
     have fa:=b.fa
     have fo:=b.fo
     obtain⟨g,eg⟩:∃g,g=(h.alloc [.int .i64 p.length]).alloc [.int .i64 y,.int .i64 p.length,.aF h.next 0 1 1]:=⟨_,rfl⟩
     have gl:∀i,i<h.next→g.get i=h.get i:=fun i hi=>by rw[eg,v8 (by simp;omega),v8 (by omega)]
     have gn:g.next=h.next+2:=by rw[eg];simp
     have gf:g.floor=h.floor:=by rw[eg];simp
     have owng:wM 1 g av l.length (xJ l):=b.own.mono gf fun i hi=>gl i (b.own.lt hi).2
     have bfl:=b.KR
     have ll:=b.ll
     have wl:(wq p).length≤p.length:=by rw[←wP 0 p];exact xE 0 p
     obtain⟨v1,h1,p1,p2,p3,p4,p5,p6⟩:=owng.push (by omega) (z:=8) (m:=1) (by omega) (by omega) [.aE (h.next+1) 0] rfl rfl (xK (by omega))
     rw[gn]at p1 p4 p5 p6
     have avlt:∀j,av.id?=some j→j<h.next:=fun j hj=>(b.own.lt hj).2
     have hav:∀i,h.next≤i→av.id?≠some i:=fun i hi q=>by have:=avlt i q;omega
     have k1:∀i,i<h.next+2→av.id?≠some i→h1.get i=g.get i:=fun i hi hne=>p5 i hne hi
     have ga1:h1.get a=some [av]:=by rw[k1 a (by omega) (fun q=>(b.nv _ q).1 rfl),gl a la,ga]
     have gt1:h1.get (h.next+1)=some [.int .i64 y,.int .i64 p.length,.aF h.next 0 1 1]:=by
      rw[k1 _ (by omega) (hav _ (by omega)),eg,wh (by simp)]
     have gs1:h1.get h.next=some [.int .i64 p.length]:=by
      rw[k1 _ (by omega) (hav _ (by omega)),eg,v8 (by simp),wh rfl]
     have S1:wg 0 (p++[y])=wg 0 p++[((p.length:Nat):Int)]:=by rw[B8,vF,wg,if_pos c];rfl
     have W1:wq (p++[y])=wq p++[y]:=by rw[Dc,wq,if_pos c];rfl
     have sl:=wP 0 p
     have vid:v1.id?=some (h.next+3):=p6
     have nb:Bt hb (h1.set a [v1]) a o C.length (p++[y]) (l++[h.next+1]) v1:=by
      refine⟨fun i d hi=> ?_,by simp;omega,by simp;omega,by rw[wu rfl,ga1];rfl,fa, ?_,fo,b.Tn, ?_,fun j hj=> ?_, ?_, ?_,fun i hi=> ?_⟩
      · have:=hb.lt _ _ hi
        have hi2:=b.ext i d hi
        have:=h.lt _ _ hi2
        rw[vX (by omega),k1 i (by omega) (fun q=>by have:=(b.own.lt q).1;omega),gl i (by omega),hi2]
      · rw[vX (Ne.symm b.Tn),k1 o (by omega) (fun q=>(b.nv _ q).2 rfl),gl o lo,b.go]
      · have:wM 1 (h1.set a [v1]) v1 (l.length+1) (xJ l++[.aE (h.next+1) 0]):=p2.mono (by simp) fun j hj=>by
         rw[vid]at hj
         have:=vm hj
         rw[vX (by omega)]
        simpa [xJ]using this
      · rw[vid]at hj
        have:=vm hj
        exact⟨by omega,by omega⟩
      · rw[W1];simp [ll]
      · rw[List.nodup_append]
        refine⟨b.nd,by simp,fun u hu w hw=> ?_⟩
        obtain rfl:=List.mem_singleton.1 hw
        obtain⟨j,hj,ej⟩:=Wa.1 hu
        obtain⟨sid,t1,_⟩:=b.tr j hj
        rw[show l.getD j 0=u by rw[Vx,Vz hj,←ej];rfl]at t1
        have:=h.lt _ _ t1
        omega
      · rw[vV,V8]at hi
        by_cases e:i<l.length
        · obtain⟨sid,t1,t2,⟨t3,t4,t5⟩,t6,t7,t8⟩:=b.tr i e
          have l1:=h.lt _ _ t1
          have l2:=h.lt _ _ t2
          rw[CN e,W1,S1,CN (by omega),CN (by omega)]
          refine⟨sid,by rw[vX t3,k1 _ (by omega) t5,gl _ l1,t1],by rw[vX t6,k1 _ (by omega) t8,gl _ l2,t2],⟨t3,t4,fun z=> ?_⟩,t6,t7,fun z=> ?_⟩
          · rw[vid]at z;have:=vm z;omega
          · rw[vid]at z;have:=vm z;omega
        · obtain rfl:i=l.length:=by omega
          rw[CM,W1,S1]
          have e1:(wq p++[y]).getD l.length 0=y:=by rw[ll];exact CM
          have e2:(wg 0 p++[((p.length:Nat):Int)]).getD l.length 0=p.length:=by rw[ll,←sl];exact CM
          rw[e1,e2]
          refine⟨h.next,by rw[vX (by omega),gt1],by rw[vX (by omega),gs1],⟨by omega,by omega,fun z=> ?_⟩,by omega,by omega,fun z=> ?_⟩
          · rw[vid]at z;have:=vm z;omega
          · rw[vid]at z;have:=vm z;omega
     obtain⟨l',av',h',L,nb'⟩:=BJ hC rd pos q (p++[y]) _ _ _ (by rw[hp];simp) nb
     refine⟨l',av',h',tX ?_ L,nb'⟩
     have hfa:h1.floor≤a:=by omega
     have e3:(((p++[y]).length:Nat):Int)=(p.length:Int)+1:=by simp
     rw[e3]
     have vs:v1.sc=true:=p2.sc
     have vc:v1.cells=[v1]:=p2.cells
     rw[eg]at p1
     clear nb nb' rd b owng p2 L k1 gl gn gf eg S1 W1 hyC
     simp (disch:=omega)only[go_sem,wc,AP.f359L2,c1,b1,b2,c,ga,wh,v8,p1,ga1,hfa,vs,vc]
   · have S1:wg 0 (p++[y])=wg 0 p:=by rw[B8,wg,if_neg c];simp [wg]
     have W1:wq (p++[y])=wq p:=by rw[Dc,wq,if_neg c];simp [wq]
     have nb:Bt hb h a o C.length (p++[y]) l av:=⟨b.ext,b.fl,b.KR,b.ga,b.fa,b.go,b.fo,b.Tn,b.own,b.nv,by rw[W1];exact b.ll,b.nd,fun i hi=>by rw[W1,S1];exact b.tr i hi⟩
     obtain⟨l',av',h',L,nb'⟩:=BJ hC rd pos q (p++[y]) _ _ _ (by rw[hp];simp) nb
     refine⟨l',av',h',tX ?_ L,nb'⟩
     have e3:(((p++[y]).length:Nat):Int)=(p.length:Int)+1:=by simp
     rw[e3]
     clear nb nb' rd b L S1 W1 hyC
     simp (disch:=omega)only[go_sem,wc,AP.f359L2,c1,b1,b2,c]
theorem Hz.congr {h:H} {a id:Nat} {l:List Nat} {J:List AV} {rc rc':Nat→Tz} (z:Hz h a id l J rc) (e:∀x∈l,rc' x=rc x):Hz h a id l J rc':=
 ⟨z.ga,z.gi,z.fa,z.fi,z.ne,fun t ht=>by rw[e t ht];exact z.tr t ht,z.lb⟩
theorem Hz.mono {h g:H} {a id:Nat} {l:List Nat} {J:List AV} {rc:Nat→Tz} (z:Hz h a id l J rc) (hf:g.floor=h.floor) (hg:∀i,(i=a∨i=id∨i∈l)→g.get i=h.get i):Hz g a id l J rc:=
 ⟨by rw[hg a (.inl rfl)];exact z.ga,by rw[hg id (.inr (.inl rfl))];exact z.gi,by rw[hf];exact z.fa,by rw[hf];exact z.fi,z.ne,fun t ht=>by rw[hg t (.inr (.inr ht))];exact z.tr t ht,z.lb⟩
theorem Iw.congr {rc rc':Nat→Tz} {l:List Nat} (o:Iw (yi rc) 0 l.length l) (e:∀x∈l,rc' x=rc x):Iw (yi rc') 0 l.length l:=fun c h0 hc hp=>by
 have:=o c h0 hc hp
 have m1:=e _ (A5 (l:=l) (i:=c) hc)
 have m2:=e _ (A5 (l:=l) (i:=(c-1)/2) (by omega))
 unfold yi at this ⊢
 rw[m1,m2];exact this
theorem Rd.xc {h g:H} {v:AV} {cs:List AV} (r:Rd h v cs) (hg:∀j,v.id?=some j→g.get j=h.get j):Rd g v cs:=by
 refine⟨?_,r.2⟩
 have:=r.1
 cases v with
 | aF id off len s =>
   simp only[aS]at this ⊢
   rw[hg id rfl];exact this
 |_=>exact this
structure Mz (hb h:H) (a id o n N:Nat) (J:List AV) (l:List Nat) (rc:Nat→Tz) (O:List Int):Prop where
 z:Hz h a id l J rc
 ext:Ext hb h
 fl:h.floor=hb.next
 KR:h.floor≤h.next
 la:hb.next≤a
 li:hb.next≤id
 lo:hb.next≤o
 go:h.get o=some (ints O)
 no:o≠a∧o≠id
 ol:O.length=N
 ob:∀y∈O,0≤y∧y≤((1000* (n-l.length):Nat):Int)
 tr:∀t∈l,t≠o∧∃sv,h.get t=some [.int .i64 (rc t).w,.int .i64 (rc t).m,sv]∧Rd h sv (ints (rc t).L)∧sv.sc=true∧sv.cells=[sv]∧∀j,sv.id?=some j→j≠a∧j≠id∧j≠o
 wb:∀t∈l,0≤(rc t).w∧(rc t).w<1000000000000000
theorem Hv:∀(L O:List Int) (B:Int),(∀y∈O,0≤y∧y≤B)→0≤B→∀y∈CQ O L,0≤y∧y≤B+L.length
 |[],O,B,h,hB,y,hy=>by have:=h y hy;simp;exact this
 | s :: r, O, B, h, hB, y, hy => by
   rw[CQ]at hy
   have:=Hv r _ (B+1) (zG h hB) (by omega) y hy
   rw[Vy];omega
theorem Hu {a o t N:Nat} {made:Int} {sv:AV} {L:List Int} (h0:H) (rd:Rd h0 sv (ints L)) (hL:L.length<100000) (hr:∀s∈L,0≤s∧s<N) (hN:N<100000):∀(q p:List Int) (O:List Int) (B:Int) (h:H),L=p++q→Ext h0 h→h0.get o=none→h.get o=some (ints O)→h.floor≤o→O.length=N→(∀y∈O,0≤y∧y≤B)→0≤B→B+q.length<1000000000→
 ∃h',Lp AP.A [3,4,7,10,75,76,77] AP.f359L0 [(3,.aF o 0 N 1),(4,.aE a 0),(7,.int .i64 made),(10,.aE t 0),(75,sv),(76,.int .i64 L.length),(77,.int .i64 p.length)] h=some (.exit 4,[(3,.aF o 0 N 1),(4,.aE a 0),(7,.int .i64 made),(10,.aE t 0),(75,sv),(76,.int .i64 L.length),(77,.int .i64 L.length),(78,.bool false)],h')∧h'.get o=some (ints (CQ O q))∧h'.floor=h.floor∧h'.next=h.next∧∀i,i≠o→h'.get i=h.get i
 | [], p, O, B, h, hp, hx, hn, go, fo, hO, ob, hB, hb => by
   rw[VM]at hp;subst hp
   refine⟨h,tW ?_,go,rfl,rfl,fun _ _=>rfl⟩
   simp (disch:=omega)only[go_sem,wc,AP.f359L0]
 | s :: q, p, O, B, h, hp, hx, hn, go, fo, hO, ob, hB, hb => by
   have hl:L.length=p.length+(q.length+1):=by rw[hp];simp
   obtain⟨ad,a1,a2⟩:=rd.xj
   have b1:=a1 p.length ⟨by omega,by omega⟩
   have hyC:L[p.length]?=some s:=by rw[hp];simp
   have b2:=a2 h hx p.length s hyC
   have sr:=hr s (vE hyC)
   have c1:((p.length:Nat):Int)<L.length:=by omega
   have sO:s.toNat<O.length:=by omega
   have gs:=y6 sO
   have ib:cN (.int .i64 s) N=some s.toNat:=by
    simp [cN,n7,sr]
   have yb:=ob (O.getD s.toNat 0) (by rw[Vx,Vz sO];exact VP _)
   have st:=xk O s.toNat (O.getD s.toNat 0+1)
   have lO:(ints O).length=O.length:=by rw[qg]
   obtain⟨h',L1,g1,f1,n1,k1⟩:=Hu h0 rd hL hr hN q (p++[s]) (xy O s.toNat) (B+1) (h.set o (ints (xy O s.toNat))) (by rw[hp];simp) (hx.CF hn _) hn (by rw[wu rfl,go];rfl) (by simpa using fo) (by rw[yf];exact hO) (zG ob hB) (by omega) (by simp at hb;omega)
   refine⟨h',tX ?_ L1,by rw[CQ];exact g1,by rw[f1];simp,by rw[n1];simp,fun i hi=>by rw[k1 i hi,vX hi]⟩
   have e3:(((p++[s]).length:Nat):Int)=(p.length:Int)+1:=by simp
   rw[e3]
   unfold xy
   rw[←st]
   rw[hO]at lO sO
   generalize ints O=P at *
   generalize O.getD s.toNat 0=y at *
   generalize s.toNat=k at *
   clear rd L1 ob hr a1 a2 hyC st g1 k1 hx
   simp (disch:=omega)only[go_sem,wc,AP.f359L0,c1,b1,b2,ib,go,gs,fo]
theorem IQ {hb h : H} {a id o n N : Nat} {J : List AV} {l : List Nat} {rc : Nat → Tz} {O : List Int} {tr : Nat → Tr} {tot : Int} {S : List Int} {G s : FS} (v : Mz hb h a id o n N J l rc O) (sm : GQ n N tot S G s rc tr l O) (ho : Iw (yi rc) 0 l.length l) (h2 : 2 ≤ l.length) (hn : n ≤ 1000) (hN : N ≤ 1000) (ht : tot < 1000000000000000) :
 ∃h' J' l' rc' tr' s' O',aL (aR AP.A) bp AP.f359L1 [(3,.aF o 0 N 1),(4,.aE a 0),(7,.int .i64 (N+(n-l.length):Nat))] h=some (.normal,[(3,.aF o 0 N 1),(4,.aE a 0),(7,.int .i64 (N+(n-l'.length):Nat))],h')∧Mz hb h' a id o n N J' l' rc' O'∧GQ n N tot S G s' rc' tr' l' O'∧Iw (yi rc') 0 l'.length l'∧l'.length+1=l.length:=by
 have ga:=v.z.ga
 have lb:=v.z.lb
 have ll:=sm.ll
 obtain⟨ta,l1,h1,k1,z1,pm1,ho1,le1,n1,f1,kp1⟩:=LG v.z (by omega) ho
 have pl1:=pm1.length_eq
 rw[Vy]at pl1
 obtain⟨tb,l2,h2',k2,z2,pm2,ho2,le2,n2,f2,kp2⟩:=LG z1 (by omega) ho1
 have pl2:=pm2.length_eq
 rw[Vy]at pl2
 have pm:l.Perm (ta::tb::l2):=pm1.trans (pm2.cons ta)
 have sm1:=sm.perm pm
 have kp:∀i,i≠a→i≠id→h2'.get i=h.get i:=fun i q1 q2=>by rw[kp2 i q1 q2,kp1 i q1 q2]
 have tm:∀x∈ta::tb::l2,x∈l:=fun x hx=>pm.mem_iff.2 hx
 have T:∀x∈l,x≠a∧x≠id∧x≠o∧x<h.next∧∃sv,h2'.get x=some [.int .i64 (rc x).w,.int .i64 (rc x).m,sv]∧Rd h2' sv (ints (rc x).L)∧sv.sc=true∧sv.cells=[sv]∧∀j,sv.id?=some j→j≠a∧j≠id∧j≠o:=fun x hx=>by
  obtain⟨a1,a2,_,_⟩:=v.z.tr x hx
  obtain⟨a3,sv,g1,g2,g3,g4,g5⟩:=v.tr x hx
  exact⟨a1,a2,a3,h.lt _ _ g1,sv,by rw[kp x a1 a2,g1],g2.xc fun j hj=>kp j (g5 j hj).1 (g5 j hj).2.1,g3,g4,g5⟩
 obtain⟨ta1,ta2,ta3,ta4,sva,ga1,ga2,ga3,ga4,ga5⟩:=T ta (tm _ (by simp))
 obtain⟨tb1,tb2,tb3,tb4,svb,gb1,gb2,gb3,gb4,gb5⟩:=T tb (tm _ (by simp))
 have wa:=v.wb ta (tm _ (by simp))
 have wb:=v.wb tb (tm _ (by simp))
 have nx:h2'.next=h.next:=by rw[n2,n1]
 obtain⟨t,et⟩:∃t,t=h2'.next+1:=⟨_,rfl⟩
 obtain⟨rc',erc⟩:∃r:Nat→Tz,r=fun x=>if x=t then⟨(rc ta).w+(rc tb).w,((N+(n-(l2.length+2)):Nat):Int),(rc ta).L++(rc tb).L⟩else rc x:=⟨_,rfl⟩
 have fr:∀x∈l2,x≠t:=fun x hx=>by
  obtain⟨_,_,_,q,_⟩:=T x (tm x (by simp [hx]))
  omega
 have rct:rc' t=⟨(rc ta).w+(rc tb).w,((N+(n-(l2.length+2)):Nat):Int),(rc ta).L++(rc tb).L⟩:=by rw[erc];exact if_pos rfl
 have rco:∀x∈l2,rc' x=rc x:=fun x hx=>by rw[erc];exact if_neg (fr x hx)
 obtain⟨sm2,rL,cL,pL⟩:=sm1.step hn hN ht (rc':=rc') (t:=t) (fun x hx=>le1 x (pm2.mem_iff.2 hx)) (fun x hx=>le2 x hx) fr rco rct
 obtain⟨L,eL⟩:∃L,L=(rc ta).L++(rc tb).L:=⟨_,rfl⟩
 rw[←eL]at rct sm2 rL cL pL
 have xa:Ext h2' (h2'.alloc [sva,svb]):=(Ext.refl _).alloc _
 have k3:aR AP.A 62 [.aF h2'.next 0 2 1] (h2'.alloc [sva,svb])=some (xg L,h2'.alloc [sva,svb]):=by
  have r1:Rd (h2'.alloc [sva,svb]) (.aF h2'.next 0 2 1) ([(sva,(rc ta).L),(svb,(rc tb).L)].map (·.1)):=⟨by simp [aS,wh],by intro s e;cases e⟩
  have e:cat [(sva,(rc ta).L),(svb,(rc tb).L)]=L:=by rw[eL];simp [cat]
  have:=D4 (h2'.alloc [sva,svb]) (.aF h2'.next 0 2 1) [(sva,(rc ta).L),(svb,(rc tb).L)] r1 (fun p hp=>by
   simp at hp
   rcases hp with rfl|rfl
   · exact ga2.mono fun i c q=>xa i c q
   · exact gb2.mono fun i c q=>xa i c q) (by rw[e];omega) (by simp) (by rw[e];exact pL)
  rw[e]at this;exact this
 obtain⟨h4,eh4⟩:∃g,g=(h2'.alloc [sva,svb]).alloc [.int .i64 ((rc ta).w+(rc tb).w),.int .i64 (N+(n-l.length):Nat),xg L]:=⟨_,rfl⟩
 have gt4:h4.get t=some [.int .i64 ((rc ta).w+(rc tb).w),.int .i64 (N+(n-l.length):Nat),xg L]:=by rw[eh4,et,wh (by simp)]
 have n4:h4.next=h.next+2:=by rw[eh4];simp;omega
 have f4:h4.floor=h.floor:=by rw[eh4];simp;omega
 have kp4:∀i,i<h.next→h4.get i=h2'.get i:=fun i hi=>by rw[eh4,v8 (by simp;omega),v8 (by omega)]
 have lo:=h.lt _ _ v.go
 have la:=h.lt _ _ ga
 have li:=h.lt _ _ v.z.gi
 have go4:h4.get o=some (ints O):=by rw[kp4 o lo,kp o v.no.1 v.no.2,v.go]
 have ln:jg false (xg L)=some (.int .i64 L.length):=rfl
 have rdL:Rd H.empty (xg L) (ints L):=yB _ _
 have fl:=v.fl
 have vlo:=v.lo
 obtain⟨h5,L5,g5,f5,n5,kp5⟩:=Hu (a:=a) (t:=t) (made:=(N+(n-l.length):Nat)) (N:=N) H.empty rdL (by omega) rL (by omega) L [] O ((1000* (n-l.length):Nat):Int) h4 rfl (fun i c q=>by simp [H.empty,H.get]at q) (by simp [H.empty,H.get]) go4 (by omega) v.ol v.ob (by omega) (by omega)
 have gt5:h5.get t=some [.int .i64 (rc' t).w,.int .i64 (rc' t).m,xg L]:=by
  rw[kp5 t (by omega),gt4,rct,show l.length=l2.length+2 by omega]
 have z2':Hz h5 a id l2 (.aE tb 0:: .aE ta 0::J) rc':=by
  refine(z2.mono (by omega) fun i hi=> ?_).congr rco
  have:i<h.next∧i≠o:=by
   rcases hi with rfl|rfl|hi
   · exact⟨la,v.no.1.symm⟩
   · exact⟨li,v.no.2.symm⟩
   · obtain⟨_,_,q1,q2,_⟩:=T i (tm i (by simp [hi]))
     exact⟨q2,q1⟩
  rw[kp5 i this.2,kp4 i this.1]
 have KR:=v.KR
 obtain⟨l',h6,k6,z6,pm6,ho6,n6,f6,kp6⟩:=Ng z2' (ho2.congr rco) (t:=t) (sv:=xg L) ⟨by omega,by omega⟩ (by rw[rct];exact⟨by show(0:Int)≤((_:Nat):Int);omega,by show((_:Nat):Int)<1000000;omega⟩) gt5 (by omega) (by omega)
 have pl6:=pm6.length_eq
 rw[Vy]at pl6
 have kpo:∀i,i<h.next→i≠a→i≠id→i≠o→h6.get i=h.get i:=fun i q1 q2 q3 q4=>by rw[kp6 i (by omega) q2 q3,kp5 i q4,kp4 i q1,kp i q2 q3]
 refine⟨h6,_,l',rc',_,_,CQ O L, ?_,⟨z6,fun i c hi=> ?_,by omega,by omega,v.la,v.li,v.lo, ?_,v.no,by rw[Eh];exact v.ol, ?_,fun x hx=> ?_,fun x hx=> ?_⟩,sm2.perm pm6.symm,ho6,by omega⟩
 · have c:(1:Int)<l.length:=by omega
   have k0:∀g:H,aR AP.A 363 [.aF id 0 l.length 1] g=_:=fun g=>Ee g id l.length
   have em:((N+(n-l'.length):Nat):Int)=((N+(n-l.length):Nat):Int)+1:=by omega
   have lms:((([]:List Int).length:Nat):Int)=0:=rfl
   rw[lms]at L5
   rw[em]
   have mb:((N+(n-l.length):Nat):Int)<1000000:=by omega
   have ga4':=(kp4 ta ta4).trans ga1
   have gb4':=(kp4 tb tb4).trans gb1
   have im1:(xg L).sc=true:=rfl
   have im2:(xg L).cells=[xg L]:=rfl
   generalize ((N+(n-l.length):Nat):Int)=made at *
   generalize (rc ta).w=A1 at *
   generalize (rc ta).m=A2 at *
   generalize (rc tb).w=B1 at *
   generalize (rc tb).m=B2 at *
   generalize xg L=iL at *
   generalize L.length=LL at *
   rw[et]at k6 L5 gt4
   clear v sm z1 z2 z2' z6 pm1 ho ho1 ho2 ho6 le1 le2 pm2 pm sm1 kp tm T fr rco rct sm2 rL xa eL kp4 kp5 kp6 kpo gt5 go4 g5 rdL erc
   simp (disch:=first|omega|(simp only[wY,Vy,VC,vF,Nat.reduceAdd,ga1,gb1];first|done|omega|fail)|(simp (disch:=first|omega|(simp only[wY,Vy,VC,vF,Nat.reduceAdd,ga1,gb1];first|done|omega|fail)|fail)only[wY,zX,VG,Vy,VC,vF,Nat.reduceAdd,ga1,gb1];done)|fail)only[go_sem,wc,zW,AP.f359L1,ga,k0,c,k1,k2,ga1,gb1,k3,←eh4,gt4,ga4',gb4',ln,sX,L5,k6,ga3,ga4,gb3,gb4,im1,im2]
 · have:=hb.lt _ _ hi
   have e:=v.ext i c hi
   have:=h.lt _ _ e
   have:=v.la
   have:=v.li
   rw[kpo i (by omega) (by omega) (by omega) (by omega),e]
 · rw[kp6 o (by omega) v.no.1 v.no.2,g5]
 · intro y hy
   have:=Hv L O _ v.ob (by omega) y hy
   omega
 · rcases vR.1 (pm6.mem_iff.1 hx)with q|q
   · subst q
     exact⟨by omega,xg L,by rw[kp6 _ (by omega) (by omega) (by omega),gt5],by rw[rct];exact rdL.xc fun j hj=>(by cases hj),rfl,rfl,fun j hj=>(by cases hj)⟩
   · obtain⟨a1,a2,a3,a4,sv,q1,q2,q3,q4,q5⟩:=T x (tm x (by simp [q]))
     have kx:h6.get x=h2'.get x:=by rw[kpo x a4 a1 a2 a3,kp x a1 a2]
     refine⟨a3,sv,by rw[kx,rco x q,q1], ?_,q3,q4,q5⟩
     rw[rco x q]
     refine q2.xc fun j hj=> ?_
     obtain⟨b1,b2,b3⟩:=q5 j hj
     have jl:j<h2'.next:=by
      have:=q2.1
      cases sv with
      | aF i2 o2 l2' s2 =>
        obtain rfl:=vm hj
        cases e:h2'.get i2 with
        |none=>simp [aS,e]at this
        |some c=>exact h2'.lt _ _ e
      |aE i2 o2=>cases this
      |_=>cases hj
     rw[kpo j (by omega) b1 b2 b3,kp j b1 b2]
 · rcases vR.1 (pm6.mem_iff.1 hx)with q|q
   · subst q
     rw[rct]
     have e:=(sm2.rel _ (List.mem_cons_self)).1
     rw[rct]at e
     have ws:=sm2.hv.sum
     have wp:=sm2.hv.Je
     refine⟨by show 0≤(rc ta).w+(rc tb).w;omega, ?_⟩
     rw[VK,VK,V5]at ws
     have nn:∀q:List Tr,(∀t∈q,1≤s.ET.W.getD t.1 0)→0≤(q.map fun t=>s.ET.W.getD t.1 0).sum:=by
      intro q
      induction q with
      |nil=>intro _;simp
      |cons x q ih=>intro h;have:=ih fun t ht=>h t (by simp [ht]);have:=h x (by simp);simp only[VK,V5];omega
     have:=nn _ (fun t ht=>wp t (Wb _ ht))
     rw[←e]at ws
     show(rc ta).w+(rc tb).w<_
     have ws':(rc ta).w+(rc tb).w+_=tot:=ws
     omega
   · rw[rco x q];exact v.wb x (tm x (by simp [q]))
theorem Ep {hb:H} {a id o n N:Nat} {tot:Int} {S:List Int} {G:FS} (hn:n≤1000) (hN:N≤1000) (ht:tot<1000000000000000):∀(m:Nat) (h:H) (J:List AV) (l:List Nat) (rc:Nat→Tz) (tr:Nat→Tr) (s:FS) (O:List Int),l.length=m+1→Mz hb h a id o n N J l rc O→GQ n N tot S G s rc tr l O→Iw (yi rc) 0 l.length l→
 ∃h' t rc' tr' s' O' mv,Lp AP.A [3,4,7] AP.f359L1 [(3,.aF o 0 N 1),(4,.aE a 0),(7,.int .i64 (N+(n-l.length):Nat))] h=some (.exit 2,[(3,.aF o 0 N 1),(4,.aE a 0),(7,mv),(41,.bool false)],h')∧GQ n N tot S G s' rc' tr' [t] O'∧h'.get o=some (ints O')∧h'.floor=hb.next
 | 0, h, J, l, rc, tr, s, O, hl, v, sm, ho => by
   obtain⟨t,rfl⟩:=List.length_eq_one_iff.1 hl
   have ga:=v.z.ga
   have k0:∀g:H,aR AP.A 363 [.aF id 0 1 1] g=_:=fun g=>Ee g id 1
   refine⟨h,t,rc,tr,s,O,.int .i64 (N+(n-[t].length):Nat),tW ?_,sm,v.go,v.fl⟩
   rw[V8]at ga
   have c:¬(1:Int)<((1:Nat):Int):=by omega
   clear v sm ho
   generalize ((N+(n-[t].length):Nat):Int)=made
   simp (disch:=omega)only[go_sem,wc,AP.f359L1,ga,k0,c]
 | m + 1, h, J, l, rc, tr, s, O, hl, v, sm, ho => by
   obtain⟨h1,J1,l1,rc1,tr1,s1,O1,k,v1,sm1,ho1,e⟩:=IQ v sm ho (by omega) hn hN ht
   obtain⟨h',t,rc',tr',s',O',mv,L,r⟩:=Ep hn hN ht m h1 J1 l1 rc1 tr1 s1 O1 (by omega) v1 sm1 ho1
   exact⟨h',t,rc',tr',s',O',mv,tX k L,r⟩
theorem Ht {l:List Nat} (nd:l.Nodup) {i:Nat} (h:i<l.length):l.idxOf (l.getD i 0)=i:=by
 have hm:l.getD i 0∈l:=A5 h
 have h1:=List.idxOf_lt_length_of_mem hm
 have h2:=List.getElem_idxOf h1
 have h3:l[i]=l.getD i 0:=by rw[Vx,Vz h];rfl
 rcases Nat.lt_trichotomy (l.idxOf (l.getD i 0)) i with q|q|q
 · exact absurd (h2.trans h3.symm) (List.pairwise_iff_getElem.1 nd _ _ h1 h q)
 · exact q
 · exact absurd (h3.trans h2.symm) (List.pairwise_iff_getElem.1 nd _ _ h h1 q)
def Ey (l:List Nat) (C:List Int) (t:Nat):Tz:=⟨(wq C).getD (l.idxOf t) 0,(wg 0 C).getD (l.idxOf t) 0,[(wg 0 C).getD (l.idxOf t) 0]⟩
def Jc (l:List Nat) (t:Nat):Tr:=(l.idxOf t,[(l.idxOf t,0)])
theorem MH {l:List Nat} (nd:l.Nodup) {n:Nat} (h:l.length=n):l.map (Jc l)=T0 n:=by
 apply List.ext_getElem?
 intro i
 unfold T0
 rw[vJ,vJ]
 by_cases c:i<l.length
 · rw[Vz c,V6 (by omega)]
   have h3:l[i]=l.getD i 0:=by rw[Vx,Vz c];rfl
   show some (Jc l l[i])=_
   unfold Jc
   rw[h3,Ht nd c];rfl
 · rw[VS (by omega),VS (by simp;omega)];rfl
def BE (C:List Int):List Int:=wU (wg 0 C) (wB (wq C)) (List.replicate C.length 0)
theorem Kb (C:List Int):(BE C).length=C.length:=by unfold BE;rw[xw];simp
theorem HK {α:Type} {l:List α} {x d:α} (h:x∈l):∃i,i<l.length∧l.getD i d=x:=by
 obtain⟨i,hi,e⟩:=Wa.1 h
 exact⟨i,hi,by rw[Vx,Vz hi,←e];rfl⟩
theorem Mv {hb h:H} {a o:Nat} {C:List Int} {l:List Nat} {av:AV} (b:Bt hb h a o C.length C l av) (hC:C.length<1000) (pos:∀y∈C,0≤y∧y≤2147483647) (h1:1≤l.length):
 ∃id,Hz h a id l [] (Ey l C)∧Mz hb h a id o (wq C).length C.length [] l (Ey l C) (List.replicate C.length 0)∧GQ (wq C).length C.length (wq C).sum (wg 0 C) (FS.yH ((wq C).length-1) (z5 (wq C))) (z5 (wq C)) (Ey l C) (Jc l) l (List.replicate C.length 0):=by
 obtain⟨id,ev,gi,fi⟩:=DN b.own h1
 have av1:av.id?=some id:=by rw[ev];rfl
 have nva:=b.nv id av1
 have ga:=b.ga
 rw[ev]at ga
 have so:=FU C
 have sl:=wP 0 C
 have ll:=b.ll
 have fl:=b.fl
 have wl:=xE 0 C
 have rel:∀t∈l,∃i,i<l.length∧l.getD i 0=t∧Jc l t=(i,[(i,0)])∧Ey l C t=⟨(wq C).getD i 0,(wg 0 C).getD i 0,[(wg 0 C).getD i 0]⟩:=fun t ht=>by
  obtain⟨i,hi,e⟩:=HK (d:=0) ht
  have ix:=Ht b.nd hi
  rw[e]at ix
  exact⟨i,hi,e,by unfold Jc;rw[ix],by unfold Ey;rw[ix]⟩
 have z:Hz h a id l [] (Ey l C):=by
  refine⟨ga,by rw[VM];exact gi,by rw[fl];exact b.fa,fi,nva.1.symm,fun t ht=> ?_,by omega⟩
  obtain⟨i,hi,e,_,e2⟩:=rel t ht
  obtain⟨sid,t1,t2,⟨t3,t4,t5⟩,_⟩:=b.tr i hi
  have:=so.at (i:=i) (by omega)
  rw[e]at t1 t3 t5
  rw[e2]
  exact⟨t3,fun q=>t5 (by rw[q];exact av1),⟨by show 0≤(wg 0 C).getD i 0;omega,by show(wg 0 C).getD i 0<_;omega⟩,_,t1⟩
 have wmem:∀i,i<l.length→1≤(wq C).getD i 0∧(wq C).getD i 0≤2147483647:=fun i hi=>by
  have hm:(wq C).getD i 0∈wq C:=by rw[Vx,Vz (by omega)];exact VP _
  obtain⟨q1,q2⟩:=yX C _ hm
  have:=pos _ q1
  omega
 refine⟨id,z,⟨z,b.ext,fl,b.KR,b.fa,by omega,b.fo,b.go,⟨b.Tn.symm,fun q=>nva.2 q.symm⟩,by simp,fun y hy=>by have:=VU hy;omega,fun t ht=> ?_,fun t ht=> ?_⟩, ?_⟩
 · obtain⟨i,hi,e,_,e2⟩:=rel t ht
   obtain⟨sid,t1,t2,⟨t3,t4,t5⟩,t6,t7,t8⟩:=b.tr i hi
   rw[e]at t1 t4
   rw[e2]
   refine⟨t4,.aF sid 0 1 1,t1,⟨?_,by intro s e;cases e⟩,rfl,rfl,fun j hj=> ?_⟩
   · show aS h 1 (.aF sid 0 1 1)=some (1,[.int .i64 ((wg 0 C).getD i 0)])
     simp [aS,t2]
   · obtain rfl:sid=j:=vm hj
     exact⟨t6,fun q=>t8 (by rw[q];exact av1),t7⟩
 · obtain⟨i,hi,e,_,e2⟩:=rel t ht
   rw[e2]
   have:=wmem i hi
   exact⟨by show 0≤(wq C).getD i 0;omega,by show(wq C).getD i 0<_;omega⟩
 · refine GQ.init so (fun y hy=>by obtain⟨i,hi,e⟩:=HK (d:=0) hy;have:=wmem i (by omega);omega) (Jc l) (MH b.nd ll) fun t ht=> ?_
   obtain⟨i,hi,e,e1,e2⟩:=rel t ht
   exact⟨i,by omega,e1,e2⟩
theorem Lb (h : H) (x : AV) (C : List Int) (h1 : 1 ≤ C.length) (hC : C.length < 1000) (rd : Rd h x (ints C)) (pos : ∀ y ∈ C, 0 ≤ y ∧ y ≤ 2147483647) :
 aR AP.A 359 [x] h=some (yx 1 C.length (ints (BE C)),h):=by
 have yO:Rd h.dQ x (ints C):=rd.mono (wo h)
 have ln:=rd.len
 rw[qg]at ln
 simp only[I]at ln
 obtain⟨g0,eg0⟩:∃g,g=(h.dQ.alloc (yo C.length [.int .i64 0])).alloc [.aP]:=⟨_,rfl⟩
 have go:g0.get h.next=some (ints (List.replicate C.length 0)):=by rw[eg0,v8 (by simp),wh (by simp),xV]
 have ga:g0.get (h.next+1)=some [.aP]:=by rw[eg0,wh (by simp)]
 have fl0:g0.floor=h.next:=by rw[eg0];simp
 have nx0:g0.next=h.next+2:=by rw[eg0];simp
 have b0:Bt h.dQ g0 (h.next+1) h.next C.length [] [] .aP:=by
  refine⟨by rw[eg0];exact((Ext.refl _).alloc _).alloc _,by rw[fl0];rfl,by omega,ga,by simp,go,by simp,by omega,wM.nil,fun j hj=>(by cases hj),rfl,List.nodup_nil,fun i hi=>(by simp at hi)⟩
 obtain⟨l,av,g1,L1,b1⟩:=BJ hC yO (fun y hy=>(pos y hy).1) C [] [] .aP g0 rfl b0
 have L1':Lp AP.A [0,3,4,16,17,18] AP.f359L2 [(0,x),(3,.aF h.next 0 C.length 1),(4,.aE (h.next+1) 0),(16,x),(17,.int .i64 C.length),(18,.int .i64 0)] g0=_:=L1
 obtain⟨g2,g3,mv,k1,L2,g4,f3⟩:∃g2 g3 mv,aR AP.A 362 [CP (h.next+1)] g1=some (.bL [],g2)∧Lp AP.A [3,4,7] AP.f359L1 [(3,.aF h.next 0 C.length 1),(4,.aE (h.next+1) 0),(7,.int .i64 C.length)] g2=some (.exit 2,[(3,.aF h.next 0 C.length 1),(4,.aE (h.next+1) 0),(7,mv),(41,.bool false)],g3)∧g3.get h.next=some (ints (BE C))∧g3.floor=h.next:=by
  by_cases hl:1≤l.length
  · obtain⟨id,z,m,sm⟩:=Mv b1 hC pos hl
    have ll:=b1.ll
    obtain⟨i1,i2⟩:=HA (ky:=yi (Ey l C)) (n:=l.length) (l.length/2) l (vB _) (fun c h0 hc hp=>by omega)
    have k:=Nf z
    have z2:=z.set i2
    have hs:(wq C).sum<1000000000000000:=by
     have:=B7 (wq C) 2147483647 (fun y hy=>(pos y (yX C y hy).1).2)
     have wl:=xE 0 C
     rw[wP]at wl
     have:(2147483647:Int)* ((wq C).length:Nat)≤2147483647* 1000:=Int.mul_le_mul_of_nonneg_left (by omega) (by omega)
     omega
    have pl:=i2.length_eq
    have m2:Mz h.dQ (g1.set id (xJ (A7 (ky:=yi (Ey l C)) l.length (l.length/2) l)++[])) (h.next+1) id h.next (wq C).length C.length [] (A7 (ky:=yi (Ey l C)) l.length (l.length/2) l) (Ey l C) (List.replicate C.length 0):=by
     refine⟨z2,m.ext.set m.li _,by simpa using m.fl,by simpa using m.KR,m.la,m.li,m.lo,by rw[vX m.no.2];exact m.go,m.no,m.ol,by rw[pl];exact m.ob,fun t ht=> ?_,fun t ht=>m.wb t (i2.mem_iff.1 ht)⟩
     obtain⟨a1,sv,q1,q2,q3,q4,q5⟩:=m.tr t (i2.mem_iff.1 ht)
     obtain⟨_,a2,_⟩:=z.tr t (i2.mem_iff.1 ht)
     exact⟨a1,sv,by rw[vX a2];exact q1,q2.xc fun j hj=>vX (q5 j hj).2.1,q3,q4,q5⟩
    obtain⟨h',t,rc',tr',s',O',mv,L,sm',go',fl'⟩:=Ep (n:=(wq C).length) (N:=C.length) (by have:=xE 0 C;rw[wP]at this;omega) (by omega) hs (l.length-1) _ _ _ _ _ _ _ (by omega) m2 (sm.perm i2.symm) (by rw[pl];exact i1)
    have e0:C.length+((wq C).length-(A7 (ky:=yi (Ey l C)) l.length (l.length/2) l).length)=C.length:=by omega
    rw[e0]at L
    have:=GQ.TY rfl sm'
    exact⟨_,h',mv,k,L,by rw[go',this];rfl,fl'⟩
  · have el:l=[]:=V3 (by omega)
    subst el
    have av0:av=.aP:=by
     rcases b1.own.2 with ⟨q,_⟩|⟨id,_,_,_,q⟩
     · exact q
     · simp at q
    have ga1:=b1.ga
    rw[av0]at ga1
    have k0:∀g:H,aR AP.A 363 [.aP] g=some (.int .i64 0,g):=fun g=>by
     refine um (fn:=AP.f363) (e:=[(2,.int .i64 0)]) (vs:=[.int .i64 0]) rfl rfl rfl (by simp (disch:=omega)only[go_sem,wc,AP.f363,F7]) rfl
    have LI:Lp AP.A [0,2,3] AP.f362L0 [(0,CP (h.next+1)),(2,.int .i64 0),(3,.int .i64 (-1))] g1=some (.exit 0,[(0,CP (h.next+1)),(2,.int .i64 0),(3,.int .i64 (-1)),(10,.bool false)],g1):=by
     refine tW ?_
     have c:¬(0:Int)≤-1:=by omega
     simp (disch:=omega)only[go_sem,wc,AP.f362L0,c]
    have hq:=II (n:=0) (by omega)
    have hq':bj .quo (.int .i64 0) (.int .i64 2)=some (.int .i64 0):=hq
    refine⟨g1,g1,.int .i64 C.length, ?_,tW ?_, ?_,b1.fl⟩
    · refine xb (fn:=AP.f362) (e:=[]) (vs:=[]) rfl rfl rfl ?_ rfl
      simp (disch:=omega)only[go_sem,wc,AP.f362,ga1,k0,hq',sX,LI]
    · have c:¬(1:Int)<0:=by omega
      simp (disch:=omega)only[go_sem,wc,AP.f359L1,ga1,k0,c]
    · rw[b1.go]
      have e:wq C=[]:=V3 (by have:=b1.ll;simp at this;omega)
      have e2:wg 0 C=[]:=V3 (by rw[wP,e];rfl)
      unfold BE
      rw[e2];rfl
 have own:wM 1 g3 (.aF h.next 0 C.length 1) C.length (ints (BE C)):=⟨by rw[qg,Kb];omega,.inr ⟨h.next,rfl,g4,by omega,by omega⟩⟩
 have s1:=own.yj (fl:=h.next) (m:=14) (t:=true) (by omega)
 refine uL (fn:=AP.f359) (h2:=g3) (e:=[(2,.aF h.next 0 C.length 1)]) (vs:=[.aF h.next 0 C.length 1]) rfl rfl rfl ?_ rfl s1
 clear own s1 b1 b0 L1 rd yO pos go ga g4
 simp (disch:=first|omega|(simp only[wY,Vy,VC,vF,Nat.reduceAdd];first|done|omega|fail)|(simp (disch:=first|omega|(simp only[wY,Vy,VC,vF,Nat.reduceAdd];first|done|omega|fail)|fail)only[wY,zX,VG,Vy,VC,vF,Nat.reduceAdd];done)|fail)only[go_sem,wc,zW,AP.f359,ln,←eg0,sX,L1',k1,L2]
theorem Th {a b c x:aG} {e e':Env} {h h':H} {q:dE} (k:aL (aR AP.A) bp (.seq a (.seq b c)) e h=some (.normal,e',h')) (z:aL (aR AP.A) bp x e' h'=q):aL (aR AP.A) bp (.seq a (.seq b (.seq c x))) e h=q:=by
 have st:∀{a b b':aG} {e:Env} {h:H},(∀e h,aL (aR AP.A) bp b e h=some (.normal,e',h')→aL (aR AP.A) bp b' e h=q)→aL (aR AP.A) bp (.seq a b) e h=some (.normal,e',h')→aL (aR AP.A) bp (.seq a b') e h=q:=fun {a b b' e h} f k=>by
  rw[sI]at k ⊢
  cases hq:aL (aR AP.A) bp a e h with
  |none=>rw[hq]at k;cases k
  | some r =>
    obtain⟨ex,ev,hr⟩:=r
    cases ex with
    |normal=>rw[hq,tB]at k;rw[tB];exact f _ _ k
    |exit i=>rw[hq]at k;cases k
    |ret=>rw[hq]at k;cases k
 refine st (fun e h=>st fun e h k=> ?_) k
 rw[sI,k,tB];exact z
theorem HJ {v:AV} {l:List Int} (hl:l.length<100000) (h:H) (rd:Rd h v (ints l)):∀(q p:List Int) (m:Int),l=p++q→
 ∃e',Lp AP.A [0,3,4] AP.f360L0 [(0,v),(3,.int .i64 m),(4,.int .i64 p.length)] h=some (.exit 0,e',h)∧look e' 3=.int .i64 (zI q m)
 | [], p, m, hp => by
   rw[VM]at hp;subst hp
   have ln:=rd.len
   rw[qg]at ln
   simp only[I]at ln
   refine⟨[(0,v),(3,.int .i64 m),(4,.int .i64 l.length),(15,.bool false)],tW ?_,rfl⟩
   simp (disch:=omega)only[go_sem,wc,AP.f360L0,ln]
 | y :: q, p, m, hp => by
   have ln:=rd.len
   rw[qg]at ln
   simp only[I]at ln
   have hlen:l.length=p.length+(q.length+1):=by rw[hp];simp
   obtain⟨ad,a1,a2⟩:=rd.xj
   have b1:=a1 p.length ⟨by omega,by omega⟩
   have b2:=a2 h (Ext.refl h) p.length y (by rw[hp];simp)
   obtain⟨e',L,r⟩:=HJ hl h rd q (p++[y]) (CW m y) (by rw[hp];simp)
   have w1:((p++[y]).length:Int)=(p.length:Int)+1:=by simp
   rw[w1]at L
   refine⟨e',tX ?_ L,r⟩
   clear L rd a1 a2 hp
   simp (disch:=omega)only[go_sem,wc,AP.f360L0,ln,b1,b2,Gq,DB]
theorem NM (h:H) (v:AV) (l:List Int) (h1:1≤l.length) (hl:l.length<100000) (rd:Rd h v (ints l)):∃M,aR AP.A 360 [v] h=some (.int .i64 M,h)∧∀m,M≤m↔∀y∈l,y≤m:=by
 obtain⟨y,r,rfl⟩:∃y r,l=y::r:=by
  cases l with
  |nil=>simp at h1
  |cons y r=>exact⟨y,r,rfl⟩
 have yO:Rd h.dQ v (ints (y::r)):=rd.mono (wo h)
 have ln:=rd.len
 rw[qg]at ln
 simp only[I]at ln
 obtain⟨ad,a1,a2⟩:=yO.xj
 have b1:=a1 0 ⟨by omega,by simp⟩
 have b2:=a2 h.dQ (Ext.refl _) 0 y rfl
 obtain⟨e',L,q⟩:=HJ hl h.dQ yO r [y] y rfl
 have L':Lp AP.A [0,3,4] AP.f360L0 [(0,v),(3,.int .i64 y),(4,.int .i64 1)] h.dQ=some (.exit 0,e',h.dQ):=L
 refine⟨zI r y,uL (fn:=AP.f360) (h2:=h.dQ) (e:=[(2,.int .i64 (zI r y))]) (vs:=[.int .i64 (zI r y)]) rfl rfl rfl ?_ rfl rfl,fun m=>⟨fun h z hz=> ?_,fun h=>Cx r y m (fun d hd=>h d (by simp [hd])) (h y (by simp))⟩⟩
 · have c:¬(((y::r).length:Nat):Int)<1:=by simp;omega
   have b2':bP false 1 (ad 0) h.dQ=some (.int .i64 y):=b2
   generalize (((y::r).length:Nat):Int)=N at *
   clear rd yO a1 a2 L
   simp (disch:=omega)only[go_sem,wc,AP.f360,ln,c,b1,b2',sX,L',q]
 · have:=DJ r y
   rcases vR.1 hz with e|e
   · subst e;omega
   · have:=this.2 z e;omega
theorem HB {v:AV} {l:List Int} (hl:l.length<1125899906842624) (h:H) (rd:Rd h v (ints l)):∀(q p:List Int),l=p++q→(0:Int)∈q→
 ∃e',Lp AP.A [0,1,7,8] AP.f189L0 [(0,v),(1,.int .i64 0),(7,.int .i64 l.length),(8,.int .i64 p.length)] h=some (.ret,e',h)∧look e' 4=.int .i64 (p.length+AD q:Nat)
 |[],p,hp,h0=>by simp at h0
 | x :: q, p, hp, h0 => by
   have hlen:l.length=p.length+(q.length+1):=by rw[hp];simp
   obtain⟨ad,a1,a2⟩:=rd.xj
   have b1:=a1 p.length ⟨by omega,by omega⟩
   have b2:=a2 h (Ext.refl h) p.length x (by rw[hp];simp)
   rw[AD]
   by_cases c:x=0
   · rw[if_pos c]
     refine⟨[(4,.int .i64 p.length)],uz ?_,rfl⟩
     subst c
     clear rd a1 a2 hp
     simp (disch:=omega)only[go_sem,wc,AP.f189L0,b1,b2]
   · rw[if_neg c]
     obtain⟨e',r1,r2⟩:=HB hl h rd q (p++[x]) (by rw[hp];simp) (by rcases vR.1 h0 with q|q;exact absurd q.symm c;exact q)
     have w1:((p++[x]).length:Int)=(p.length:Int)+1:=by simp
     rw[w1]at r1
     refine⟨e',tX ?_ r1,by rw[r2];simp;omega⟩
     have cb:((0:Int)==x)=false:=by simp;omega
     clear r1 rd a1 a2 hp
     simp (disch:=omega)only[go_sem,wc,AP.f189L0,b1,b2,c,cb]
theorem Tb (h:H) (v:AV) (l:List Int) (rd:Rd h v (ints l)) (hl:l.length<100000) (h0:(0:Int)∈l):aR AP.A 189 [v,.int .i64 0] h=some (.int .i64 (AD l:Nat),h):=by
 have yO:Rd h.dQ v (ints l):=rd.mono (wo h)
 have ln:=rd.len
 rw[qg]at ln
 simp only[I]at ln
 obtain⟨e',r1,r3⟩:=HB (by omega) h.dQ yO l [] rfl h0
 have r1':Lp AP.A [0,1,7,8] AP.f189L0 [(0,v),(1,.int .i64 0),(7,.int .i64 l.length),(8,.int .i64 0)] h.dQ=some (.ret,e',h.dQ):=r1
 simp only[VC,vF]at r3
 refine uL (fn:=AP.f189) (h2:=h.dQ) (e:=e') (vs:=[.int .i64 (AD l:Nat)]) rfl rfl rfl ?_ (by simp only[AP.f189,cu,nM,r3];rfl) rfl
 clear rd yO r1 r3
 simp (disch:=omega)only[go_sem,wc,AP.f189,ln,sX,r1']
theorem Db {v:AV} {l:List Int} (hl:l.length<100000) (h:H) (rd:Rd h v (ints l)):∀(q p:List Int) (m:Nat),l=p++q→m≤p.length→
 ∃e',Lp AP.A [3,6,7,8] AP.f358L0 [(3,.int .i64 m),(6,v),(7,.int .i64 l.length),(8,.int .i64 p.length)] h=some (.exit 0,e',h)∧look e' 3=.int .i64 (m+zQ q:Nat)
 | [], p, m, hp, hm => by
   rw[VM]at hp;subst hp
   refine⟨[(3,.int .i64 m),(6,v),(7,.int .i64 l.length),(8,.int .i64 l.length),(9,.bool false)],tW ?_,rfl⟩
   simp (disch:=omega)only[go_sem,wc,AP.f358L0]
 | y :: q, p, m, hp, hm => by
   have hlen:l.length=p.length+(q.length+1):=by rw[hp];simp
   obtain⟨ad,a1,a2⟩:=rd.xj
   have b1:=a1 p.length ⟨by omega,by omega⟩
   have b2:=a2 h (Ext.refl h) p.length y (by rw[hp];simp)
   have c1:((p.length:Nat):Int)<l.length:=by omega
   have w1:((p++[y]).length:Int)=(p.length:Int)+1:=by simp
   by_cases c:0<y
   · obtain⟨e',L,r⟩:=Db hl h rd q (p++[y]) (m+1) (by rw[hp];simp) (by simp;omega)
     rw[w1]at L
     refine⟨e',tX ?_ L,by rw[r];unfold zQ;rw[wq,if_pos c,Vy];congr 1;omega⟩
     have w2:((m+1:Nat):Int)=(m:Int)+1:=by omega
     rw[w2]
     clear L rd a1 a2 hp
     simp (disch:=omega)only[go_sem,wc,AP.f358L0,c1,b1,b2,c]
   · obtain⟨e',L,r⟩:=Db hl h rd q (p++[y]) m (by rw[hp];simp) (by simp;omega)
     rw[w1]at L
     refine⟨e',tX ?_ L,by rw[r];unfold zQ;rw[wq,if_neg c]⟩
     clear L rd a1 a2 hp
     simp (disch:=omega)only[go_sem,wc,AP.f358L0,c1,b1,b2,c]
theorem MI (h:H) (v:AV) (l:List Int) (rd:Rd h v (ints l)) (hl:l.length<100000):aR AP.A 358 [v] h=some (.int .i64 (zQ l:Nat),h):=by
 have yO:Rd h.dQ v (ints l):=rd.mono (wo h)
 have ln:=rd.len
 rw[qg]at ln
 simp only[I]at ln
 obtain⟨e',L,r⟩:=Db hl h.dQ yO l [] 0 rfl (by simp)
 have L':Lp AP.A [3,6,7,8] AP.f358L0 [(3,.int .i64 0),(6,v),(7,.int .i64 l.length),(8,.int .i64 0)] h.dQ=some (.exit 0,e',h.dQ):=L
 rw[vF]at r
 refine uL (fn:=AP.f358) (h2:=h.dQ) (e:=[(2,.int .i64 (zQ l:Nat))]) (vs:=[.int .i64 (zQ l:Nat)]) rfl rfl rfl ?_ rfl rfl
 clear rd yO L
 simp (disch:=omega)only[go_sem,wc,AP.f358,ln,sX,L',r]
def J6 (v:AV):Bool:=match v with| .int _ n=>decide (n<0)||decide (2147483647<n)|_=>true
theorem QS (n:Int) (h:H):aR AP.A 357 [.int .i64 n] h=some (.bool (J6 (.int .i64 n)),h):=by
 by_cases c1:n<0
 · refine uL (fn:=AP.f357) (h2:=h.dQ) (e:=[(2,.bool true)]) (vs:=[.bool true]) rfl rfl rfl ?_ rfl ?_
   · simp (disch:=omega)only[go_sem,wc,AP.f357,c1]
   · simp [J6,c1];rfl
 · refine uL (fn:=AP.f357) (h2:=h.dQ) (e:=[(2,.bool (decide (2147483647<n)))]) (vs:=[.bool (decide (2147483647<n))]) rfl rfl rfl ?_ rfl ?_
   · simp (disch:=omega)only[go_sem,wc,AP.f357,c1]
   · simp [J6,c1];rfl
theorem Eu {mv:AV} {n wid:Nat} (hn:n<1000):∀(q p:List Int) (h:H),p.length+q.length=n→(∀y∈q,0≤y∧y<1000000000000)→h.get wid=some (ints (wT p++q))→h.floor≤wid→h.floor≤h.next→
 ∃h',Lp AP.A [1,7,55,56,57] AP.f351L0 [(1,mv),(7,.aF wid 0 n 1),(55,.aF wid 0 n 1),(56,.int .i64 n),(57,.int .i64 p.length)] h=some (.exit 2,[(1,mv),(7,.aF wid 0 n 1),(55,.aF wid 0 n 1),(56,.int .i64 n),(57,.int .i64 n),(58,.bool false)],h')∧h'.get wid=some (ints (wT (p++q)))∧h'.floor=h.floor∧h'.next=h.next∧(∀i,i≠wid→h'.get i=h.get i)
 | [], p, h, hl, hr, hg, hf, hfl => by
   obtain rfl:p.length=n:=by simpa using hl
   refine⟨h,tW ?_,by simpa using hg,rfl,rfl,fun _ _=>rfl⟩
   simp (disch:=omega)only[go_sem,wc,AP.f351L0]
 | y :: q, p, h, hl, hr, hg, hf, hfl => by
   have yr:=hr y (by simp)
   simp only[Vy]at hl
   have n1:(((p++[y]).length:Nat):Int)=(p.length:Int)+1:=by simp
   have hp:(wT p).length=p.length:=yD p
   have ix:(ints (wT p++y::q))[p.length]?=some (.int .i64 y):=tG (by rw[VL (by omega),hp];simp)
   have il:(ints (wT p++y::q)).length=n:=by rw[qg,vV,hp,Vy];omega
   have st:(ints (wT p++y::q)).set p.length (.int .i64 (y7 y))=ints (wT (p++[y])++q):=by
    rw[xk,V9 _ _ (by omega),hp,Wo]
    simp [wT]
   have q1:bj .quo (.int .i64 (y+1)) (.int .i64 2)=some (.int .i64 (y7 y)):=by
    have e:=sK (k:=.i64) (a:=y+1) (b:=2) (by omega)
    rw[e,Int.tdiv_eq_ediv_of_nonneg (by omega),wi (by omega)];rfl
   have c1:((p.length:Nat):Int)<n:=by omega
   have g2:(h.set wid (ints (wT (p++[y])++q))).get wid=some (ints (wT (p++[y])++q)):=by rw[wu rfl,hg];rfl
   obtain⟨h',k1,k2,k3,k4,k5⟩:=Eu (mv:=mv) hn q (p++[y]) (h.set wid (ints (wT (p++[y])++q))) (by simp;omega) (fun e he=>hr e (by simp [he])) g2 (by simpa using hf) (by simpa using hfl)
   refine⟨h',tX ?_ k1,by rw[k2];simp,by rw[k3];simp,by rw[k4];simp,fun i hi=>by rw[k5 i hi,vX hi]⟩
   rw[n1]
   clear k1 k2 k3 k4 k5 g2 hr
   generalize ints (wT p++y::q)=A at *
   generalize ints (wT (p++[y])++q)=B at *
   simp (disch:=omega)only[go_sem,wc,AP.f351L0,c1,ix,il,st,q1,hg]
theorem Kj {C:List Int} (h:∀y∈C,0≤y∧y≤2147483647):∀y∈wT C,0≤y∧y≤2147483647:=fun y hy=>by
 obtain⟨z,hz,rfl⟩:=VN.1 hy
 have:=h z hz
 unfold y7;omega
theorem JH {m : Nat} {S : List Int} {n wid : Nat} (hn1 : 1 ≤ n) (hn : n < 1000) (nd : (S.map Int.toNat).Nodup) (hr : ∀ s ∈ S, s.toNat < n) : ∀ (K : Nat) (C O : List Int) (h : H), xU m K (wq C) → C.length = n → wg 0 C = S → (∀ y ∈ C, 0 ≤ y ∧ y ≤ 2147483647) → O.length = n → (∀ p, p < n → (∀ s ∈ S, s.toNat ≠ p) → O[p]? = some 0) → h.get wid = some (ints C) → h.floor ≤ wid → h.floor ≤ h.next →
 ∃h' v,Lp AP.A [1,7] AP.f351L1 [(1,.int .i64 m),(7,.aF wid 0 n 1)] h=some (.ret,[(4,v),(5,.int .i64 0)],h')∧v=yx 1 n (ints (yR S K (wq C) O))∧h'.floor=h.floor
 | 0, C, O, h, r, hC, hS, hp, hO, hz, hg, hf, hfl => by
   cases r with
   | last o c =>
     have wl:(wq C).length=S.length:=by rw[←wP 0 C,hS]
     have rd:Rd h (.aF wid 0 n 1) (ints C):=wM.yO (by
      rw[qg]
      exact⟨by rw[qg];omega,.inr ⟨wid,by rw[hC],hg,hf,by omega⟩⟩)
     have k1:=Lb h _ C (by omega) (by omega) rd hp
     have e:BE C=yR S 0 (wq C) O:=by
      unfold BE
      rw[yR,hS,hC]
      exact(ze (by rw[xD,wl]) nd hO hr hz).symm
     rw[hC,e]at k1
     have lr:(yR S 0 (wq C) O).length=n:=by rw[CT,hO]
     obtain⟨M,k2,k3⟩:=NM h (yx 1 n (ints (yR S 0 (wq C) O))) (yR S 0 (wq C) O) (by omega) (by omega) (by have:=zL h (yR S 0 (wq C) O);rwa [lr]at this)
     have c':M≤m:=by
      rw[k3,yR]
      rw[ze (by rw[xD,wl]) nd hO hr hz]
      exact(EC (by rw[xD,wl]) nd hr (by omega)).2 c
     refine⟨h,_,uz ?_,rfl,rfl⟩
     clear k3 rd nd hr hz
     simp (disch:=omega)only[go_sem,wc,AP.f351L1,k1,k2,c']
 | K + 1, C, O, h, r, hC, hS, hp, hO, hz, hg, hf, hfl => by
   cases r with
   | more o c hne r =>
     have wl:(wq C).length=S.length:=by rw[←wP 0 C,hS]
     have rd:Rd h (.aF wid 0 n 1) (ints C):=wM.yO (by
      rw[qg]
      exact⟨by rw[qg];omega,.inr ⟨wid,by rw[hC],hg,hf,by omega⟩⟩)
     have k1:=Lb h _ C (by omega) (by omega) rd hp
     have e:BE C=wU S (wB (wq C)) O:=by
      unfold BE
      rw[hS,hC]
      exact(ze (by rw[xD,wl]) nd hO hr hz).symm
     rw[hC,e]at k1
     have lr:(wU S (wB (wq C)) O).length=n:=by rw[xw,hO]
     obtain⟨M,k2,k3⟩:=NM h (yx 1 n (ints (wU S (wB (wq C)) O))) (wU S (wB (wq C)) O) (by omega) (by omega) (by have:=zL h (wU S (wB (wq C)) O);rwa [lr]at this)
     have c':¬M≤m:=by
      rw[k3]
      rw[ze (by rw[xD,wl]) nd hO hr hz]
      intro q
      have:=(EC (by rw[xD,wl]) nd hr (by omega)).1 q
      omega
     have hpn:∀y∈C,0≤y:=fun y hy=>(hp y hy).1
     obtain⟨s1,s2⟩:=Dy 0 C hpn
     obtain⟨h1,L,g1,f1,n1,_⟩:=Eu (mv:=.int .i64 m) hn C [] h (by simpa using hC) (fun y hy=>by have:=hp y hy;omega) hg hf hfl
     have L':Lp AP.A [1,7,55,56,57] AP.f351L0 [(1,.int .i64 m),(7,.aF wid 0 n 1),(55,.aF wid 0 n 1),(56,.int .i64 n),(57,.int .i64 0)] h=_:=L
     obtain⟨h',v,L2,r2,f2⟩:=JH hn1 hn nd hr K (wT C) (wU S (wB (wq C)) O) h1 (by rw[s2];exact r) (by rw[yD,hC]) (by rw[s1,hS]) (Kj hp) (by rw[xw,hO]) (fun p hp hq=>by rw[xW _ _ _ _ hq];exact hz p hp hq) g1 (by omega) (by omega)
     refine⟨h',v,tX ?_ L2,by rw[r2,s2];rfl,by omega⟩
     clear k3 rd nd hr hz L L2 r2 hp hpn g1
     simp (disch:=omega)only[go_sem,wc,AP.f351L1,k1,k2,c',AN,sX,L']
theorem Gx (h : H) (x : AV) (C : List Int) (m K : Nat) (h2 : 2 ≤ C.length) (hn : C.length ≤ 288) (rd : Rd h x (ints C)) (hm : 1 ≤ m ∧ m ≤ 15) (hr : ∀ y ∈ C, 0 ≤ y ∧ y ≤ 2147483647) (hs : zQ C ≤ 2 ^ m) (ro : xU m K (xA C)) :
 aR AP.A 351 [x,.int .i64 m] h=some (.bL [yx 1 C.length (ints (xh C K)),.int .i64 0],h):=by
 have yO:Rd h.dQ x (ints C):=rd.mono (wo h)
 have ln:=rd.len
 rw[qg]at ln
 simp only[I]at ln
 have pos:∀y∈C,0≤y:=fun y hy=>(hr y hy).1
 have kb:=D5 J6 (x:=x) (fv:=.fn 357 [] []) (cs:=ints C) (fun v hv g=>by
  obtain⟨n,_,rfl⟩:=VN.1 hv
  rw[oh];exact QS n g) (by rw[qg];omega) h.dQ yO
 have nb:(ints C).any J6=false:=by
  rw[List.any_eq_false]
  intro v hv
  obtain⟨n,hn',rfl⟩:=VN.1 hv
  have:=hr n hn'
  simp [J6,I];omega
 rw[nb]at kb
 have ku:=MI h.dQ x C yO (by omega)
 have s1:pP .shl .i64 1 (m:Int)=some (.int .i64 ((2^m:Nat):Int)):=by
  have:=yL (a:=1) (s:=m) (by omega) (by
   have:2^m≤2^15:=VO (by omega) hm.2
   omega)
  rwa [Nat.one_mul]at this
 have kc:=MY h.dQ x C yO (by omega) (by omega) (by simp)
 obtain⟨g,eg⟩:∃g,g=((h.dQ.alloc []).del h.dQ.next).alloc (ints C):=⟨_,rfl⟩
 rw[←eg]at kc
 have gg:g.get (h.next+1)=some (ints C):=by rw[eg,wh (by simp)]
 have gf:g.floor=h.next:=by rw[eg];simp
 have gn:g.next=h.next+2:=by rw[eg];simp
 have rdg:Rd g (.aF (h.next+1) 0 C.length 1) (ints C):=wM.yO (by
  rw[qg]
  exact⟨by rw[qg];omega,.inr ⟨h.next+1,rfl,gg,by omega,by omega⟩⟩)
 have ku2:=MI g _ C rdg (by omega)
 obtain ⟨g2, P, q1, q2, q3⟩ : ∃ g2, aL (aR AP.A) bp (at_ 4 AP.f351.body) [(1, .int .i64 m), (7, .aF (h.next + 1) 0 C.length 1)] g = some (.normal, [(1, .int .i64 m), (7, .aF (h.next + 1) 0 C.length 1)], g2) ∧ g2.get (h.next + 1) = some (ints (Es C)) ∧ g2.floor = h.next ∧ g2.next = h.next + 2 := by
  unfold Es
  by_cases c:zQ C=1
  · rw [if_pos c]
    have z0:(0:Int)∈C:=by
     refine VX fun q=> ?_
     have:∀D:List Int,(∀y∈D,0<y)→(wq D).length=D.length:=by
      intro D
      induction D with
      |nil=>intro _;rfl
      |cons y D ih=>intro h;rw[wq,if_pos (h y (by simp)),Vy,Vy,ih fun z hz=>h z (by simp [hz])]
     have:=this C fun y hy=>by
      have:=pos y hy
      by_cases e:y=0
      · subst e;exact absurd hy q
      · omega
     unfold zQ at c
     omega
    have kx:=Tb g _ C rdg (by omega) z0
    have il : AD C < C.length := by
     have:∀D:List Int,(0:Int)∈D→AD D<D.length:=by
      intro D
      induction D with
      |nil=>intro h;simp at h
      | cons y D ih =>
        intro h
        rw[AD,Vy]
        split
        · omega
        · rename_i e
          rcases vR.1 h with q|q
          · exact absurd q.symm e
          · have:=ih q;omega
     exact this C z0
    rw[c]at ku2
    have st:=xk C (AD C) 1
    refine⟨g.set (h.next+1) (ints (C.set (AD C) 1)), ?_,by rw[wu rfl,gg];rfl,by simpa using gf,by simpa using gn⟩
    have lC:(ints C).length=C.length:=qg C
    have gfl:g.floor≤h.next+1:=by omega
    have ib:cN (.int .i64 (AD C:Nat)) C.length=some (AD C):=by simp [cN,n7,il]
    rw[←st]
    clear rd yO rdg kb ku kc s1 ro hr pos nb st eg
    generalize ints C=A at *
    generalize AD C=i at *
    generalize C.length=n at *
    simp (disch:=omega)only[go_sem,wc,AP.f351,xL,xO,ku2,kx,ib,gg,gfl,lC]
  · rw[if_neg c]
    have cb:(((zQ C:Nat):Int)==1)=false:=by simp;omega
    refine⟨g, ?_,gg,gf,gn⟩
    clear rd yO rdg kb ku kc s1 ro hr pos nb eg
    simp (disch:=omega)only[go_sem,wc,AP.f351,xL,xO,ku2,cb]
 obtain⟨p1,p2⟩:=Qu pos h2
 have so:=FU (Es C)
 have ppos:∀y∈Es C,0≤y∧y≤2147483647:=fun y hy=>by
  unfold Es at hy
  split at hy
  · rcases V0 hy with q|q
    · exact hr y q
    · omega
  · exact hr y hy
 obtain⟨h',v,L,ev,fl'⟩:=JH (m:=m) (n:=C.length) (wid:=h.next+1) (by omega) (by omega) so.nd (fun s hs=>by have:=so.Nu s hs;rw[HX]at this;omega) K (Es C) (List.replicate C.length 0) g2 (by rw[p2];exact ro) (HX C) rfl ppos (by simp) (fun p hp _=>by rw[V4,if_pos hp]) q1 (by omega) (by omega)
 rw[p1,p2]at ev
 have ev':v=yx 1 C.length (ints (xh C K)):=ev
 have lo:(xh C K).length=C.length:=xZ C K
 refine uL (fn:=AP.f351) (h2:=h') (e:=[(4,v),(5,.int .i64 0)]) (vs:=[v,.int .i64 0]) rfl rfl rfl ?_ rfl ?_
 · have hb:AP.f351.body=.seq (at_ 0 AP.f351.body) (.seq (at_ 1 AP.f351.body) (.seq (at_ 2 AP.f351.body) (.seq (at_ 3 AP.f351.body) (.seq (at_ 4 AP.f351.body) (JT 5 AP.f351.body))))):=rfl
   have c1:¬(C.length:Int)<2:=by omega
   have c2:¬(288:Int)<(C.length:Int):=by omega
   have c3:¬(m:Int)<1:=by omega
   have c4:¬(15:Int)<(m:Int):=by omega
   have c5:¬((2^m:Nat):Int)<(zQ C:Nat):=by omega
   have a012:aL (aR AP.A) bp (.seq (at_ 0 AP.f351.body) (.seq (at_ 1 AP.f351.body) (at_ 2 AP.f351.body))) (params 0 [x,.int .i64 m]) h.dQ=some (.normal,[(0,x),(1,.int .i64 m)],h.dQ):=by
    clear rd yO rdg kc ro hr pos nb eg L P ku2 so ppos
    generalize 2^m=M at *
    simp (disch:=omega)only[go_sem,wc,AP.f351,xL,xO,ln,c1,c2,kb,c3,c4,s1,ku,c5]
   have a3:aL (aR AP.A) bp (at_ 3 AP.f351.body) [(0,x),(1,.int .i64 m)] h.dQ=some (.normal,[(1,.int .i64 m),(7,.aF (h.next+1) 0 C.length 1)],g):=by
    clear rd yO rdg ro hr pos nb eg L P ku2 so ppos
    have kc':aR AP.A 118 [x] h.dQ=some (.aF (h.next+1) 0 C.length 1,g):=kc
    simp (disch:=omega)only[go_sem,wc,AP.f351,xL,xO,kc']
   have a5:aL (aR AP.A) bp (JT 5 AP.f351.body) [(1,.int .i64 m),(7,.aF (h.next+1) 0 C.length 1)] g2=some (.ret,[(4,v),(5,.int .i64 0)],h'):=by
    clear rd yO rdg ro hr pos nb eg P ku2 so ppos
    simp (disch:=omega)only[go_sem,wc,AP.f351,MD,MC,sX,L]
   rw[hb]
   refine Th a012 ?_
   rw[sI,a3,tB,sI,P,tB,a5]
 · have s1:snap h'.get h.next 15 true v=some v:=by
    rw[ev'];unfold yx;split<;>rfl
   show(fF (snap h'.get h.next 15 true) [v,.int .i64 0]).bind _=_
   rw[←ev']
   simp only[fF,s1,vu]
   rfl
theorem EL : ∀ (ts : List Tok) (s : Int), wF s ts = true → ∀ t ∈ ts, yN t ∧ (t.len ≠ 0 → t.lit = 0)
 |[],_,_,t,ht=>by simp at ht
 | k :: ts, s, h, t, ht => by
   rw[wF]at h
   cases e:wW s k with
   |none=>rw[e]at h;cases h
   | some s' =>
     rw[e]at h
     simp only at h
     by_cases c:8192<s'
     · rw[if_pos c]at h;cases h
     · rw [if_neg c] at h
       rcases vR.1 ht with q|q
       · subst q
         unfold wW at e
         by_cases z:t.len=0
         · rw[if_pos z]at e
           split at e
           · cases e
           · exact⟨.inl ⟨z,by omega,by omega⟩,fun n=>absurd z n⟩
         · rw[if_neg z]at e
           split at e
           · cases e
           · exact⟨.inr ⟨by omega,by omega,by omega,by omega⟩,fun _=>by omega⟩
       · exact EL ts s' h t q
theorem Jr : ∀ (ts : List Tok) (o : List Nat), wF o.length ts = true → o.length + ts.length ≤ (ya ts o).length
 |[],o,_=>by simp [ya]
 | t :: r, o, h => by
   rw[wF]at h
   cases e:wW o.length t with
   |none=>rw[e]at h;cases h
   | some s' =>
     rw[e]at h
     simp only at h
     have z:=BM e
     have p:(o.length:Int)+1≤s':=by
      unfold wW at e
      split at e
      · split at e
        · cases e
        · have:=vm e;omega
      · split at e
        · cases e
        · have:=vm e;omega
     by_cases c:8192<s'
     · rw[if_pos c]at h;cases h
     · rw[if_neg c,←z]at h
       have:=Jr r (wR o t) h
       rw[ya,Vy];omega
theorem Gd {ts:List Tok} (h:Ag ts=true):wF 0 ts=true∧ts.length≤300∧(∀t∈ts,yN t)∧(∀t∈ts,t.len≠0→t.lit=0)∧(ya ts []).length≤300:=by
 unfold Ag yy at h
 by_cases m:wF 0 ts=true
 · rw[if_pos m]at h
   simp only[xC,decide_eq_true_eq]at h
   have:=Jr ts [] m
   have o:=EL ts 0 m
   exact⟨m,by simp at this;omega,fun t ht=>(o t ht).1,fun t ht=>(o t ht).2,h⟩
 · rw[if_neg m]at h;cases h
theorem CD (h : H) (v : AV) (ts : List Tok) (hn : ts.length < 1125899906842624) (rd : xR 3 h v ts.length (wG ts)) : aR AP.A 326 [v] h = some (if Ag ts = true then .bL [.str (bytesOf (wJ (yA ts))), .int .i64 0] else .bL [.str ⟨#[]⟩, .int .i64 800], h) := by
 have rd0:xR 3 h.dQ v ts.length (wG ts):=rd.mono fun i c q=>q
 have k1:=IZ h.dQ v ts hn rd0
 by_cases AM:Ag ts=true
 · rw [if_pos AM]
   rw[AM]at k1
   obtain⟨_,hl,tok,lit,_⟩:=Gd AM
   have kf:=Jv h.dQ
   have kc:=Be h.dQ (xg wO) wO (by rw[xH];omega) (by rw[xH];omega) (yB h.dQ wO) (.inl (by rw[yq (by rw[xH];omega) (by rw[xH];omega) ye.Nu ye.left,if_pos BQ]))
   obtain⟨g,eg⟩:∃g,g=h.dQ.alloc [.int .i64 5]:=⟨_,rfl⟩
   have hN:h.dQ.next=h.next:=rfl
   have k5:aR AP.A 43 [.aF h.next 0 1 1,.int .i64 30] g=some (xg xP,g):=by
    have r:=zM g (.aF h.next 0 1 1) 5 30 (by omega) ⟨by
     have gg:g.get h.next=some [.int .i64 5]:=by rw[eg,wh (by simp)]
     simp [aS,gg];rfl,by intro s e;cases e⟩
    exact r
   have l5:xP.length=30:=by simp [xP]
   have kc5:=Be g (xg xP) xP (by omega) (by omega) (yB g xP) (.inr (by rw[yq (by omega) (by omega) Ai.Nu Ai.left,if_neg (by rw[CL];omega)]))
   obtain⟨g2,eg2⟩:∃g2:H,g2=g:=⟨_,rfl⟩
   have gfl:g.floor=h.next:=by rw[eg];simp
   have gnx:g.next=h.next+1:=by rw[eg];simp
   have x0:=GM (h:=g) (by omega)
   obtain⟨h1,o1,p1,w1,f1⟩:=zk x0.wr 1 1 (by omega) (by omega) (by simp)
   have x1:=x0.step w1 f1
   obtain⟨h2,o2,p2,w2,f2⟩:=zk x1.wr 1 2 (by omega) (by omega) (by simp [wA,wE])
   have x2:=x1.step w2 f2
   have kn:aR AP.A 345 [] g=some (.aE g.next 0,g.alloc [.aP,.int .i64 0]):=by
    refine um (fn:=AP.f345) (e:=[(0,.aE g.next 0)]) (vs:=[.aE g.next 0]) rfl rfl rfl ?_ rfl
    simp (disch:=omega)only[go_sem,wc,AP.f345]
   have kb:aR AP.A 333 [.int .i64 1] g=some (.aE g.next 0,h2):=by
    refine um (fn:=AP.f333) (e:=[(2,.aE g.next 0)]) (vs:=[.aE g.next 0]) rfl rfl rfl ?_ rfl
    clear x0 x1 x2
    have k1':aR AP.A 335 [.aE g.next 0,.int .i64 1,.int .i64 1] (g.alloc [.aP,.int .i64 0])=some (.int .i64 0,h1):=p1
    have k2':aR AP.A 335 [.aE g.next 0,.int .i64 1,.int .i64 2] h1=some (.int .i64 0,h2):=p2
    simp (disch:=omega)only[go_sem,wc,AP.f333,kn,k1',k2']
   have rdg:xR 3 g v ts.length (wG ts):=rd0.mono fun i c q=>by
    have:=h.lt i c q
    rw[eg,v8 (by simp;omega)];exact q
   obtain⟨h3,k3⟩:=JJ (by omega) g rdg (yw g wO) (yw g xP) (fun t ht=>⟨Fe (tok t ht),tok t ht,lit t ht⟩) (Ce ye Aj (by rw[xH];omega)) g.next _ h2 o2 x2 (by simp [wA,wE];omega)
   have e:[]++wA 1 1++wA 1 2++(xp (v7 wO) (v7 xP) ts++wy (v7 wO) 256)=yA ts:=by
    have:([]:List Nat)++wA 1 1++wA 1 2=wA 3 3:=by decide
    rw[this];rfl
   rw[e]at k3
   refine uL (fn:=AP.f326) (h2:=h3) (e:=[(2,.str (bytesOf (wJ (yA ts)))),(3,.int .i64 0)]) (vs:=[.str (bytesOf (wJ (yA ts))),.int .i64 0]) rfl rfl rfl ?_ rfl rfl
   clear x0 w1 f1 w2 f2 x1 x2 p1 p2 e rd rd0 rdg eg2
   generalize bytesOf (wJ (yA ts))=SB at *
   have ic:(xg wO).cells=[xg wO]:=rfl
   generalize xg wO=I1 at *
   generalize xg xP=I2 at *
   generalize zh wO=C1 at *
   generalize zh xP=C2 at *
   rw[gnx]at kb k3
   simp (disch:=omega)only[go_sem,wc,AP.f326,hN,k1,kf,kc,←eg,k5,kc5,kb,k3]
 · rw[if_neg AM]
   rw[Bool.eq_false_iff.2 AM]at k1
   refine uL (fn:=AP.f326) (h2:=h.dQ) (e:=[(2,.str ⟨#[]⟩),(3,.int .i64 800)]) (vs:=[.str ⟨#[]⟩,.int .i64 800]) rfl rfl rfl ?_ rfl rfl
   clear rd rd0
   simp (disch:=omega)only[go_sem,wc,AP.f326,k1]
theorem Kz {v:AV} {ts:List Tok} (hn:ts.length<1000000) (h0:H) (rd:xR 3 h0 v ts.length (wG ts)) (ia ib i:Nat) (t:Tok) (ht:ts[i]?=some t) (o:yN t) (tl:t.len≠0→t.lit=0) (hab:ia≠ib) (hia:h0.next≤ia) (hib:h0.next≤ib) {A B:List Int} {h:H} (hx:Ext h0 h) (ga:h.get ia=some (ints A)) (gb:h.get ib=some (ints B)) (hA:A.length=286) (hB:B.length=30) (rA:∀y∈A,0≤y∧y≤(i:Int)+1) (rB:∀y∈B,0≤y∧y≤(i:Int)+1) (fa:h.floor≤ia) (fb:h.floor≤ib) (hfl:h.floor≤h.next):
 ∃h',aL (aR AP.A) bp AP.f340L0 (ay [(4,.aF ia 0 286 1),(5,.aF ib 0 30 1),(19,v),(20,.int .i64 ts.length),(21,.int .i64 i)] [4,5,19,20,21]) h=some (.normal,[(4,.aF ia 0 286 1),(5,.aF ib 0 30 1),(19,v),(20,.int .i64 ts.length),(21,.int .i64 (i+1:Nat))],h')∧h'.get ia=some (ints (zr [t] A))∧h'.get ib=some (ints (zE [t] B))∧JZ h h' ia ib:=by
 obtain⟨ad,a1,a2,a3⟩:=rd.DA
 have hi:i<ts.length:=(vt.1 ht).1
 have hI:(0:Int)≤(i:Int)∧(i:Int)<ts.length:=⟨by omega,by omega⟩
 have b1:=a1 _ hI
 obtain⟨_,_,_,b2⟩:=a3 h hx _ _ ht
 have n1:((i+1:Nat):Int)=(i:Int)+1:=by omega
 have ci:(i:Int)<(ts.length:Int):=hI.2
 have la:(ints A).length=286:=by rw[qg,hA]
 have lb:(ints B).length=30:=by rw[qg,hB]
 have hian:=h.lt _ _ ga
 have hibn:=h.lt _ _ gb
 have step:∀(S B1 V S' B' V':Nat) (cp:Bool),(∀g:H,aR AP.A 349 [.agg [.int .i64 t.lit,.int .i64 t.len,.int .i64 t.wL]] g=some (.bL [.agg [.int .i64 S,.int .i64 B1,.int .i64 V],.agg [.int .i64 S',.int .i64 B',.int .i64 V'],.bool cp],g))→S<286→S'<30→
  ∃h',aL (aR AP.A) bp AP.f340L0 (ay [(4,.aF ia 0 286 1),(5,.aF ib 0 30 1),(19,v),(20,.int .i64 ts.length),(21,.int .i64 i)] [4,5,19,20,21]) h=some (.normal,[(4,.aF ia 0 286 1),(5,.aF ib 0 30 1),(19,v),(20,.int .i64 ts.length),(21,.int .i64 (i+1:Nat))],h')∧h'.get ia=some (ints (xy A S))∧h'.get ib=some (ints (if cp=true then xy B S' else B))∧JZ h h' ia ib:=by
  intro S B1 V S' B' V' cp ks hS hS'
  obtain⟨g1,eg1⟩:∃g,g=(h.alloc [.int .i64 0,.int .i64 0,.int .i64 0]).set h.next [.int .i64 t.lit,.int .i64 t.len,.int .i64 t.wL]:=⟨_,rfl⟩
  obtain⟨g2,eg2⟩:∃g,g=(((g1.alloc [.int .i64 0,.int .i64 0,.int .i64 0]).alloc [.int .i64 0,.int .i64 0,.int .i64 0]).set g1.next [.int .i64 S,.int .i64 B1,.int .i64 V]).set (g1.next+1) [.int .i64 S',.int .i64 B',.int .i64 V']:=⟨_,rfl⟩
  have n1':g1.next=h.next+1:=by rw[eg1];simp
  have n2':g2.next=h.next+3:=by rw[eg2];simp;omega
  have f2':g2.floor=h.floor:=by rw[eg2,eg1];simp
  have gt1:g1.get h.next=some [.int .i64 t.lit,.int .i64 t.len,.int .i64 t.wL]:=by rw[eg1,wu rfl,wh rfl];rfl
  have gk1:∀j,j<h.next→g1.get j=h.get j:=fun j hj=>by rw[eg1,vX (by omega),v8 (by omega)]
  have gk2:∀j,j<h.next→g2.get j=h.get j:=fun j hj=>by rw[eg2,vX (by omega),vX (by omega),v8 (by simp;omega),v8 (by omega),gk1 j hj]
  have gS:g2.get g1.next=some [.int .i64 S,.int .i64 B1,.int .i64 V]:=by rw[eg2,vX (by omega),wu rfl,v8 (by simp),wh rfl];rfl
  have gT:g2.get (g1.next+1)=some [.int .i64 S',.int .i64 B',.int .i64 V']:=by rw[eg2,wu rfl,vX (by omega),wh (by simp)];rfl
  have hA2:((g1.alloc [.int .i64 0,.int .i64 0,.int .i64 0]).alloc [.int .i64 0,.int .i64 0,.int .i64 0]).get g1.next=some [.int .i64 0,.int .i64 0,.int .i64 0]:=by rw[v8 (by simp),wh rfl]
  have hB2:(((g1.alloc [.int .i64 0,.int .i64 0,.int .i64 0]).alloc [.int .i64 0,.int .i64 0,.int .i64 0]).set g1.next [.int .i64 S,.int .i64 B1,.int .i64 V]).get (g1.next+1)=some [.int .i64 0,.int .i64 0,.int .i64 0]:=by rw[vX (by omega),wh (by simp)]
  have fl1:h.floor≤h.next:=hfl
  have flg:g1.floor≤g1.next:=by rw[n1',eg1];simp;omega
  have ga2:g2.get ia=some (ints A):=by rw[gk2 ia hian,ga]
  have gb2:g2.get ib=some (ints B):=by rw[gk2 ib hibn,gb]
  have gx:=y6 (l:=A) (i:=S) (by omega)
  have gy:=y6 (l:=B) (i:=S') (by omega)
  have xr:0≤A.getD S 0∧A.getD S 0≤(i:Int)+1:=by
   rw[Vx,Vz (by omega)]
   exact rA _ (VP _)
  have yr:0≤B.getD S' 0∧B.getD S' 0≤(i:Int)+1:=by
   rw[Vx,Vz (by omega)]
   exact rB _ (VP _)
  have es:=xk A S (A.getD S 0+1)
  have et:=xk B S' (B.getD S' 0+1)
  change _=ints (xy A S)at es
  change _=ints (xy B S')at et
  have iS:cN (.int .i64 (S:Nat)) 286=some S:=by
   have:(S:Int)<((286:Nat):Int):=by omega
   simp [cN,n7];omega
  have iT:cN (.int .i64 (S':Nat)) 30=some S':=by
   simp [cN,n7];omega
  have ibd:i<1000000:=by omega
  have g3b:(g2.set ia (ints (xy A S))).get ib=some (ints B):=by rw[vX hab.symm,gb2]
  have g3T:(g2.set ia (ints (xy A S))).get (g1.next+1)=some [.int .i64 S',.int .i64 B',.int .i64 V']:=by rw[vX (by omega),gT]
  have fa2:g2.floor≤ia:=by omega
  have fb2:g2.floor≤ib:=by omega
  cases cp with
  | false =>
    refine⟨g2.set ia (ints (xy A S)), ?_,by rw[wu rfl,ga2];rfl,by rw[vX hab.symm,gb2];rfl,⟨by simp [f2'],by simp [n2'],fun j h1 h2 _=>by rw[vX h2,gk2 j h1]⟩⟩
    rw[n1]
    clear rd a1 a2 a3 hx rA rB gk1 gk2 et
    generalize A.getD S 0=z at *
    generalize ints (xy A S)=A2 at *
    generalize ints A=A0 at *
    generalize ints B=B0 at *
    simp (disch:=omega)only[go_sem,wc,AP.f340L0,ci,b1,b2,←eg1,gt1,ks,hA2,hB2,←eg2,gS,iS,ga2,la,gx,es,fa2,MN,vH,Wl,VW]
  | true =>
    refine⟨(g2.set ia (ints (xy A S))).set ib (ints (xy B S')), ?_,by rw[vX hab,wu rfl,ga2];rfl,by rw[wu rfl,g3b];rfl,⟨by simp [f2'],by simp [n2'],fun j h1 h2 h3=>by rw[vX h3,vX h2,gk2 j h1]⟩⟩
    rw[n1]
    clear rd a1 a2 a3 hx rA rB gk1 gk2
    generalize A.getD S 0=z at *
    generalize B.getD S' 0=z' at *
    generalize ints (xy A S)=A2 at *
    generalize ints (xy B S')=B2 at *
    generalize ints A=A0 at *
    generalize ints B=B0 at *
    simp (disch:=omega)only[go_sem,wc,AP.f340L0,ci,b1,b2,←eg1,gt1,ks,hA2,hB2,←eg2,gS,iS,ga2,la,gx,es,fa2,fb2,g3b,g3T,iT,lb,gy,et,MN,vH,Wl,VW]
 rcases o with ⟨c0,h2,h3⟩|⟨h1,h2,h3,h4⟩
 · obtain⟨y,hy⟩:∃y:Nat,t.lit=y:=VF h2
   have yt:t.lit.toNat=y:=by omega
   obtain⟨h',k,q1,q2,q3⟩:=step y 0 0 0 0 0 false (fun g=>by rw[hy,c0];exact Il g y t.wL) (by omega) (by omega)
   refine⟨h',k, ?_, ?_,q3⟩
   · rw[q1,zr,if_pos c0,yt];rfl
   · rw[q2,zE,if_pos c0];rfl
 · obtain⟨L,hL⟩:∃y:Nat,t.len=y:=VF (by omega)
   obtain⟨K,hK⟩:∃y:Nat,t.wL=y:=VF (by omega)
   have Lt:t.len.toNat=L:=by omega
   have Kt:t.wL.toNat=K:=by omega
   have sl:=yV (k:=L) (by omega) (by omega)
   have sd:=yU (k:=K) (by omega) (by omega)
   obtain⟨h',k,q1,q2,q3⟩:=step (xB L) (yP L) (y9 L) (xG K) (yT K) (zj K) true (fun g=>by rw[tl (by omega),hL,hK];exact FV g L K (by omega) (by omega) (by omega) (by omega)) (by omega) (by omega)
   refine⟨h',k, ?_, ?_,q3⟩
   · have z:¬t.len=0:=by omega
     rw[q1,zr,if_neg z,Lt];rfl
   · have z:¬t.len=0:=by omega
     rw[q2,zE,if_neg z,Kt];rfl
theorem FG {v:AV} {ts:List Tok} (hn:ts.length<1000000) (h0:H) (rd:xR 3 h0 v ts.length (wG ts)) (ia ib:Nat) (ok:∀t∈ts,yN t) (lit:∀t∈ts,t.len≠0→t.lit=0) (hab:ia≠ib) (hia:h0.next≤ia) (hib:h0.next≤ib):∀(q p:List Tok) (A B:List Int) (h:H),ts=p++q→Ext h0 h→h0.next≤h.next→h.get ia=some (ints A)→h.get ib=some (ints B)→A.length=286→B.length=30→(∀y∈A,0≤y∧y≤(p.length:Int)+1)→(∀y∈B,0≤y∧y≤(p.length:Int)+1)→h.floor≤ia→h.floor≤ib→h.floor≤h.next→
 ∃h',Lp AP.A [4,5,19,20,21] AP.f340L0 [(4,.aF ia 0 286 1),(5,.aF ib 0 30 1),(19,v),(20,.int .i64 ts.length),(21,.int .i64 p.length)] h=some (.exit 0,[(4,.aF ia 0 286 1),(5,.aF ib 0 30 1),(19,v),(20,.int .i64 ts.length),(21,.int .i64 ts.length),(22,.bool false)],h')∧h'.get ia=some (ints (zr q A))∧h'.get ib=some (ints (zE q B))∧JZ h h' ia ib
 | [], p, A, B, h, hp, hx, hnx, ga, gb, hA, hB, rA, rB, fa, fb, hfl => by
   rw[VM]at hp;subst hp
   refine⟨h,tW ?_,ga,gb,JZ.refl h ia ib⟩
   simp (disch:=omega)only[go_sem,wc,AP.f340L0]
 | t :: q, p, A, B, h, hp, hx, hnx, ga, gb, hA, hB, rA, rB, fa, fb, hfl => by
   have ht:ts[p.length]?=some t:=by rw[hp];simp
   have hm:=vE ht
   obtain⟨h1,s1,ga1,gb1,f1⟩:=Kz hn h0 rd ia ib p.length t ht (ok t hm) (lit t hm) hab hia hib hx ga gb hA hB rA rB fa fb hfl
   have n1:(((p++[t]).length:Nat):Int)=((p.length+1:Nat):Int):=by simp
   have hx1:Ext h0 h1:=fun j c hj=>by
    have:=h0.lt _ _ hj
    rw[f1.xc j (by omega) (by omega) (by omega),hx j c hj]
   obtain⟨h',k,g1,g2,f2⟩:=FG hn h0 rd ia ib ok lit hab hia hib q (p++[t]) (zr [t] A) (zE [t] B) h1 (by rw[hp];simp) hx1 (vT hnx f1.next) ga1 gb1 (by rw[AR,hA]) (by rw[AU,hB]) (fun y hy=>by have:=AS [t] A _ (by omega) rA y hy;simp at this ⊢;omega) (fun y hy=>by have:=AW [t] B _ (by omega) rB y hy;simp at this ⊢;omega) (by rw[f1.floor];exact fa) (by rw[f1.floor];exact fb) (by rw[f1.floor];exact vT hfl f1.next)
   rw[n1]at k
   exact⟨h',tX s1 k,g1,g2,f1.trans f2⟩
theorem EN (C:List Int):zQ C≤C.length:=by
 unfold zQ;rw[←wP 0 C];exact xE 0 C
theorem GF {h:H} {id n:Nat} {l:List Int} (g:h.get id=some (ints l)) (hl:l.length=n):Rd h (.aF id 0 n 1) (ints l):=by
 refine⟨?_,by intro s e;cases e⟩
 have:(ints l).length=n:=by rw[qg];exact hl
 simp [aS,g,this,vP]
theorem IY (h:H) (v:AV) (ts:List Tok) (KA KB:Nat) (hn:ts.length≤300) (ok:∀t∈ts,yN t) (lit:∀t∈ts,t.len≠0→t.lit=0) (ra:xU 15 KA (xA (dA ts))) (rb:xU 15 KB (xA (dB ts))) (rd:xR 3 h v ts.length (wG ts)):
 aR AP.A 340 [v] h=some (.bL [yx 1 286 (ints (xh (dA ts) KA)),yx 1 30 (ints (xh (dB ts) KB))],h):=by
 have rd0:xR 3 h.dQ v ts.length (wG ts):=rd.mono fun i c q=>q
 have ln:=rd.len
 have hN:h.dQ.next=h.next:=rfl
 obtain⟨g,eg⟩:∃g,g=(h.dQ.alloc (yo 286 [.int .i64 0])).alloc (yo 30 [.int .i64 0]):=⟨_,rfl⟩
 have gA:g.get h.next=some (ints (List.replicate 286 0)):=by rw[eg,v8 (by simp),wh (by simp),xV]
 have gB:g.get (h.next+1)=some (ints (List.replicate 30 0)):=by rw[eg,wh (by simp),xV]
 have gf:g.floor=h.next:=by rw[eg];simp
 have gn:g.next=h.next+2:=by rw[eg];simp
 obtain⟨g1,eg1⟩:∃g1,g1=g.set h.next (ints ((List.replicate 286 0).set 256 1)):=⟨_,rfl⟩
 have gA1:g1.get h.next=some (ints ((List.replicate 286 0).set 256 1)):=by rw[eg1,wu rfl,gA];rfl
 have gB1:g1.get (h.next+1)=some (ints (List.replicate 30 0)):=by rw[eg1,vX (by omega),gB]
 have x1:Ext h.dQ g1:=by rw[eg1,eg];exact(((Ext.refl _).alloc _).alloc _).set (by simp) _
 obtain⟨h',L,q1,q2,f2⟩:=FG (by omega) h.dQ rd0 h.next (h.next+1) ok lit (by omega) (by simp) (by simp) ts [] ((List.replicate 286 0).set 256 1) (List.replicate 30 0) g1 rfl x1 (by rw[eg1];simp;omega) gA1 gB1 (by simp) (by simp) (fun y hy=>by
  rcases V0 hy with q|q
  · have:=VU q;omega
  · simp;omega) (fun y hy=>by have:=VU hy;simp;omega) (by rw[eg1];simp;omega) (by rw[eg1];simp;omega) (by rw[eg1];simp;omega)
 have L':Lp AP.A [4,5,19,20,21] AP.f340L0 [(4,.aF h.next 0 286 1),(5,.aF (h.next+1) 0 30 1),(19,v),(20,.int .i64 ts.length),(21,.int .i64 0)] g1=_:=L
 obtain⟨a1,a2,a3⟩:=He ts hn
 obtain⟨b1,b2⟩:=Hf ts hn
 change h'.get h.next=some (ints (dA ts))at q1
 change h'.get (h.next+1)=some (ints (dB ts))at q2
 have k1:=Gx h' (.aF h.next 0 286 1) (dA ts) 15 KA (by omega) (by omega) (GF q1 a1) (by omega) a2 (by have:=EN (dA ts);omega) ra
 have k2:=Gx h' (.aF (h.next+1) 0 30 1) (dB ts) 15 KB (by omega) (by omega) (GF q2 b1) (by omega) b2 (by have:=EN (dB ts);omega) rb
 rw[a1]at k1
 rw[b1]at k2
 obtain⟨V1,e1⟩:∃V,V=yx 1 286 (ints (xh (dA ts) KA)):=⟨_,rfl⟩
 obtain⟨V2,e2⟩:∃V,V=yx 1 30 (ints (xh (dB ts) KB)):=⟨_,rfl⟩
 rw[←e1]at k1 ⊢
 rw[←e2]at k2 ⊢
 refine uL (fn:=AP.f340) (h2:=h') (e:=[(2,V1),(3,V2)]) (vs:=[V1,V2]) rfl rfl rfl ?_ rfl ?_
 · have st:(ints (List.replicate 286 0)).set 256 (.int .i64 1)=ints ((List.replicate 286 0).set 256 1):=xk _ _ _
   have lA:(ints (List.replicate 286 0)).length=286:=by simp
   have ga':g.get h.next=some (ints (List.replicate 286 0)):=gA
   have k1':aR AP.A 351 [.aF h.next 0 286 1,.int .i64 15] h'=some (.bL [V1,.int .i64 0],h'):=k1
   have k2':aR AP.A 351 [.aF (h.next+1) 0 30 1,.int .i64 15] h'=some (.bL [V2,.int .i64 0],h'):=k2
   rw[←st]at eg1
   clear L q1 q2 f2 x1 rd rd0 ra rb a2 b2 k1 k2 gB gA1 gB1 st ok lit
   generalize ints (List.replicate 286 0)=A0 at *
   have hN2:(h.dQ.alloc (yo 286 [.int .i64 0])).next=h.next+1:=by simp
   simp (disch:=omega)only[go_sem,wc,AP.f340,hN,hN2,←eg,ga',lA,gf,←eg1,ln,sX,L',k1',k2']
 · have s1:snap h'.get h.next 15 true V1=some V1:=by rw[e1];unfold yx;rfl
   have s2:snap h'.get h.next 15 true V2=some V2:=by rw[e2];unfold yx;rfl
   show(fF (snap h'.get h.next 15 true) [V1,V2]).bind _=_
   simp only[fF,s1,s2,vu]
theorem B4 {x : AV} {l : List Int} (hl : l.length < 1000) (pos : ∀ y ∈ l, 0 ≤ y) (h : H) (rd : Rd h x (ints l)) (k : Nat) : ∀ i : Nat, k ≤ i → i ≤ l.length →
 ∃e',Lp AP.A [0,1,5] AP.f342L0 [(0,x),(1,.int .i64 k),(5,.int .i64 i)] h=some (.exit 0,e',h)∧look e' 0=x∧look e' 5=.int .i64 (wK l k i:Nat)
 | 0, hk, hi => by
   obtain rfl:k=0:=by omega
   refine⟨[(0,x),(1,.int .i64 (0:Nat)),(5,.int .i64 (0:Nat)),(18,.bool false)],tW ?_,rfl,rfl⟩
   have c:¬((0:Nat):Int)<((0:Nat):Int):=by omega
   generalize ((0:Nat):Int)=z at *
   simp (disch:=omega)only[go_sem,wc,AP.f342L0,c]
 | i + 1, hk, hi => by
   by_cases c:i+1≤k
   · obtain rfl:k=i+1:=by omega
     refine⟨[(0,x),(1,.int .i64 (i+1:Nat)),(5,.int .i64 (i+1:Nat)),(18,.bool false)],tW ?_,rfl,by rw[wK,if_pos c];rfl⟩
     have c:¬((i+1:Nat):Int)<((i+1:Nat):Int):=by omega
     generalize ((i+1:Nat):Int)=z at *
     simp (disch:=omega)only[go_sem,wc,AP.f342L0,c]
   · obtain⟨ad,a1,a2⟩:=rd.xj
     have b1:=a1 i ⟨by omega,by omega⟩
     have lg:l[i]?=some (l.getD i 0):=by rw[Vx,Vz (by omega)];rfl
     have b2:=a2 h (Ext.refl h) i _ lg
     have yp:=pos _ (vE lg)
     have n1:((i+1:Nat):Int)-1=(i:Int):=by omega
     have c1:(k:Int)<((i+1:Nat):Int):=by omega
     rw[wK,if_neg c]
     generalize l.getD i 0=y at *
     have sb:((i+1:Nat):Int)<100000:=by omega
     have sb0:0≤((i+1:Nat):Int):=by omega
     by_cases c2:0<y
     · rw[if_pos c2]
       refine⟨[(0,x),(1,.int .i64 k),(5,.int .i64 (i+1:Nat)),(18,.bool false)],tW ?_,rfl,rfl⟩
       have cb:(y==0)=false:=by simp;omega
       generalize ((i+1:Nat):Int)=z at *
       clear rd a1 a2 pos
       simp (disch:=omega)only[go_sem,wc,AP.f342L0,c1,n1,b1,b2,cb]
     · rw[if_neg c2]
       have cb:(y==0)=true:=by simp;omega
       obtain⟨e',L,r1,r2⟩:=B4 hl pos h rd k i (by omega) (by omega)
       refine⟨e',tX ?_ L,r1,r2⟩
       clear L
       generalize ((i+1:Nat):Int)=z at *
       clear rd a1 a2 pos
       simp (disch:=omega)only[go_sem,wc,AP.f342L0,c1,n1,b1,b2,cb]
theorem FM (h:H) (l:List Int) (h1:1≤l.length) (hl:l.length<1000) (pos:∀y∈l,0≤y) (k:Nat) (hk:k≤l.length):aR AP.A 342 [yx 1 l.length (ints l),.int .i64 k] h=some (.aV false (ints l) 0 (wK l k l.length) 1,h):=by
 have ex:yx 1 l.length (ints l)=.aV false (ints l) 0 l.length 1:=by unfold yx;rw[if_neg (by omega)]
 rw[ex]
 have yO:Rd h.dQ (.aV false (ints l) 0 l.length 1) (ints l):=by rw[←ex];exact zL h.dQ l
 obtain⟨e',L,r1,r2⟩:=B4 hl pos h.dQ yO k l.length hk (vB _)
 have ur:=xz l k l.length
 have s1:sQ h.dQ 1 (.aV false (ints l) 0 l.length 1) none (some (.int .i64 (wK l k l.length:Nat))) none=some (.aV false (ints l) 0 (wK l k l.length) 1):=by
  have:wK l k l.length≤l.length:=by omega
  have q:(ints l).length=l.length:=qg l
  simp [sQ,aB,km,n7,q,this]
 refine uL (fn:=AP.f342) (h2:=h.dQ) (e:=[(4,.aV false (ints l) 0 (wK l k l.length) 1)]) (vs:=[.aV false (ints l) 0 (wK l k l.length) 1]) rfl rfl rfl ?_ rfl rfl
 clear yO pos ex ur
 generalize wK l k l.length=U at *
 generalize ints l=P at *
 simp (disch:=omega)only[go_sem,wc,AP.f342,Iy,sX,L,r1,r2,s1]
theorem KJ (h:H) (id:Nat) (l:List Int) (g:h.get id=some (ints l)) (hl:l.length<1000) (pos:∀y∈l,0≤y) (k:Nat) (hk:k≤l.length):aR AP.A 342 [.aF id 0 l.length 1,.int .i64 k] h=some (.aF id 0 (wK l k l.length) 1,h):=by
 have yO:Rd h.dQ (.aF id 0 l.length 1) (ints l):=(GF g rfl).mono (wo h)
 obtain⟨e',L,r1,r2⟩:=B4 hl pos h.dQ yO k l.length hk (vB _)
 have ur:=xz l k l.length
 have gl:=h.lt _ _ g
 have s1:sQ h.dQ 1 (.aF id 0 l.length 1) none (some (.int .i64 (wK l k l.length:Nat))) none=some (.aF id 0 (wK l k l.length) 1):=by
  have q:(ints l).length=l.length:=qg l
  have:=Ia (h:=h.dQ) (m:=(wK l k l.length:Nat)) (p:=id) (o:=0) (k:=l.length) (n:=1) g (by omega) (by omega) ⟨by omega,by simp;omega⟩
  rw[show(((wK l k l.length:Nat):Int)).toNat=wK l k l.length by omega]at this
  exact this
 refine uL (fn:=AP.f342) (h2:=h.dQ) (e:=[(4,.aF id 0 (wK l k l.length) 1)]) (vs:=[.aF id 0 (wK l k l.length) 1]) rfl rfl rfl ?_ rfl ?_
 · clear yO pos ur
   generalize wK l k l.length=U at *
   simp (disch:=omega)only[go_sem,wc,AP.f342,AN,sX,L,r1,r2,s1]
 · show snap h.dQ.get h.next 16 true (.aF id 0 _ 1)=_
   simp [snap,gl]
theorem Fi {w:AV} {v1 v2 av:AV} {D:List Int} (hD:D.length<1000) (hr:∀d∈D,0≤d∧d<19) (ic:Nat) (hb:H) (rd:Rd hb av (ints D)) (hno:hb.get ic=none):∀(q p C:List Int) (h:H),D=p++q→Ext hb h→h.get ic=some (ints C)→C.length=19→(∀y∈C,0≤y∧y≤(p.length:Int))→h.floor≤ic→
 ∃h',Lp AP.A [0,1,2,6,7,28,29,30] AP.f341L3 [(0,w),(1,v1),(2,v2),(6,av),(7,.aF ic 0 19 1),(28,av),(29,.int .i64 D.length),(30,.int .i64 p.length)] h=some (.exit 0,[(0,w),(1,v1),(2,v2),(6,av),(7,.aF ic 0 19 1),(28,av),(29,.int .i64 D.length),(30,.int .i64 D.length),(31,.bool false)],h')∧h'.get ic=some (ints (xN q C))∧h'.floor=h.floor∧h'.next=h.next∧(∀i,i≠ic→h'.get i=h.get i)
 | [], p, C, h, hp, hx, gc, hC, rC, fc => by
   rw[VM]at hp;subst hp
   refine⟨h,tW ?_,gc,rfl,rfl,fun _ _=>rfl⟩
   simp (disch:=omega)only[go_sem,wc,AP.f341L3]
 | d :: q, p, C, h, hp, hx, gc, hC, rC, fc => by
   have hl:D.length=p.length+(q.length+1):=by rw[hp];simp
   obtain⟨ad,a1,a2⟩:=rd.xj
   have b1:=a1 p.length ⟨by omega,by omega⟩
   have hd:D[p.length]?=some d:=by rw[hp];simp
   have b2:=a2 h hx p.length d hd
   have dr:=hr d (vE hd)
   have c1:((p.length:Nat):Int)<D.length:=by omega
   obtain⟨k,rfl⟩:=VF dr.1
   have gx:=y6 (l:=C) (i:=k) (by omega)
   have xr:0≤C.getD k 0∧C.getD k 0≤(p.length:Int):=by
    rw[Vx,Vz (by omega)]
    exact rC _ (VP _)
   have es:=xk C k (C.getD k 0+1)
   change _=ints (xy C k)at es
   have lC:(ints C).length=19:=by rw[qg,hC]
   have ib:cN (.int .i64 (k:Nat)) 19=some k:=by simp [cN,n7];omega
   obtain⟨h',L,g1,f1,n1,k1⟩:=Fi hD hr ic hb rd hno q (p++[(k:Int)]) (xy C k) (h.set ic (ints (xy C k))) (by rw[hp];simp) (hx.CF hno _) (by rw[wu rfl,gc];rfl) (by rw[yf,hC]) (fun y hy=>by
    have:=zG rC (by omega) y hy
    simp;omega) (by simpa using fc)
   have e1:xN ((k:Int)::q) C=xN q (xy C k):=by rw[xN];rfl
   refine⟨h',tX ?_ L,by rw[e1];exact g1,by rw[f1];simp,by rw[n1];simp,fun i hi=>by rw[k1 i hi,vX hi]⟩
   have n2:(((p++[(k:Int)]).length:Nat):Int)=(p.length:Int)+1:=by simp
   rw[n2]
   clear L rd a1 a2 g1 k1 rC hr hx
   generalize C.getD k 0=z at *
   generalize ints (xy C k)=C2 at *
   generalize ints C=C1 at *
   simp (disch:=omega)only[go_sem,wc,AP.f341L3,c1,b1,b2,ib,gc,lC,gx,es,fc]
theorem Fk {w v1 v2 av cv:AV} {Lc:List Int} (hL:Lc.length=19) (h0:H) (rd:Rd h0 cv (ints Lc)):∀(q p R:List Int) (h:H) (rv:AV),we=p++q→Ext h0 h→h.floor≤h.next→wM 1 h rv R.length (ints R)→R.length=p.length→(∀j,rv.id?=some j→h0.next≤j)→h0.next≤h.next→
 ∃h' rv',Lp AP.A [0,1,2,6,10,12,46,47,48] AP.f341L2 [(0,w),(1,v1),(2,v2),(6,av),(10,cv),(12,rv),(46,xg we),(47,.int .i64 19),(48,.int .i64 p.length)] h=some (.exit 2,[(0,w),(1,v1),(2,v2),(6,av),(10,cv),(12,rv'),(46,xg we),(47,.int .i64 19),(48,.int .i64 19),(49,.bool false)],h')∧wM 1 h' rv' (R++q.map (fun o=>Lc.getD o.toNat 0)).length (ints (R++q.map (fun o=>Lc.getD o.toNat 0)))∧h'.floor=h.floor∧h.next≤h'.next∧(∀i,i<h0.next→h'.get i=h.get i)∧(∀j,rv'.id?=some j→h0.next≤j)
 | [], p, R, h, rv, hp, hx, hfl, o, hR, hid, hn => by
   have:p.length=19:=by
    have:=Wj List.length hp
    rw[VM]at this
    rw[←this];rfl
   rw[this]
   refine⟨h,rv,tW ?_,by simpa using o,rfl,vB _,fun _ _=>rfl,hid⟩
   have c:¬((19:Nat):Int)<19:=by omega
   simp (disch:=omega)only[go_sem,wc,AP.f341L2,c]
 | d :: q, p, R, h, rv, hp, hx, hfl, o, hR, hid, hn => by
   have hl:19=p.length+(q.length+1):=by
    have:=Wj List.length hp
    simpa [we]using this
   obtain⟨ad,a1,a2⟩:=(yB h we).xj
   have ol:we.length=19:=rfl
   have b1:=a1 p.length ⟨by omega,by omega⟩
   have hd:we[p.length]?=some d:=by rw[hp];simp
   have b2:=a2 h (Ext.refl h) p.length d hd
   have dm:d∈we:=vE hd
   have dr:0≤d∧d<19:=by
    have:∀y∈we,0≤y∧y<19:=by decide
    exact this d dm
   have c1:((p.length:Nat):Int)<19:=by omega
   obtain⟨k,rfl⟩:=VF dr.1
   obtain⟨cd,d1,d2⟩:=rd.xj
   have e1:=d1 k ⟨by omega,by omega⟩
   have lg:Lc[k]?=some (Lc.getD k 0):=by rw[Vx,Vz (by omega)];rfl
   have e2:=d2 h hx k _ lg
   obtain⟨v',h1,p1,p2,p3,p4,p5,p6⟩:=o.push hfl (z:=8) (m:=1) (by omega) (by omega) [.int .i64 (Lc.getD k 0)] rfl rfl (xK (by omega))
   have hx1:Ext h0 h1:=fun i c hi=>by
    have:=h0.lt _ _ hi
    rw[p5 i (fun e=>by have:=hid i e;omega) (by omega),hx i c hi]
   have o2:wM 1 h1 v' (R++[Lc.getD k 0]).length (ints (R++[Lc.getD k 0])):=by rw[qf,vV];exact p2
   obtain⟨h',rv',L,q1,q2,q3,q4,q5⟩:=Fk hL h0 rd q (p++[(k:Int)]) (R++[Lc.getD k 0]) h1 v' (by rw[hp];simp) hx1 (by omega) o2 (by simp [hR]) (fun j hj=>by rw[p6]at hj;have:=vm hj;omega) (by omega)
   have n2:(((p++[(k:Int)]).length:Nat):Int)=(p.length:Int)+1:=by simp
   rw[n2]at L
   refine⟨h',rv',tX ?_ L, ?_,by omega,by omega,fun i hi=>by rw[q4 i hi,p5 i (fun e=>by have:=hid i e;omega) (by omega)],q5⟩
   · clear L q1 rd a1 a2 d1 d2 o2 hx hx1 q4 p2 o
     generalize Lc.getD k 0=z at *
     simp (disch:=omega)only[go_sem,wc,AP.f341L2,c1,b1,b2,e1,e2,p1]
   · rw[VH]at q1
     exact q1
theorem Fj {h0:H} {w:Nat} {av cv:AV} {rid:Nat} {R:List Int} (hR:R.length<1000) (hr:∀y∈R,0≤y∧y<8) (rid0:rid≠w):∀(q p:List Int) (bs:List Nat) (h:H) (ov:AV) (J:List AV),R=p++q→WX h0 h w bs ov→h.get rid=some (ints R++J)→ov.id?≠some rid→bs.length+3* q.length≤60000→
 ∃h' ov',Lp AP.A [0,6,10,77,78,79] AP.f341L1 [(0,.aE w 0),(6,av),(10,cv),(77,.aF rid 0 R.length 1),(78,.int .i64 R.length),(79,.int .i64 p.length)] h=some (.exit 4,[(0,.aE w 0),(6,av),(10,cv),(77,.aF rid 0 R.length 1),(78,.int .i64 R.length),(79,.int .i64 R.length),(80,.bool false)],h')∧WX h0 h' w (bs++zm q) ov'
 | [], p, bs, h, ov, J, hp, x, gr, hor, hb => by
   rw[VM]at hp;subst hp
   refine⟨h,ov,tW ?_,by simpa [zm]using x⟩
   simp (disch:=omega)only[go_sem,wc,AP.f341L1]
 | y :: q, p, bs, h, ov, J, hp, x, gr, hor, hb => by
   have hl:R.length=p.length+(q.length+1):=by rw[hp];simp
   have hy:R[p.length]?=some y:=by rw[hp];simp
   have yr:=hr y (vE hy)
   obtain⟨k,rfl⟩:=VF yr.1
   have c1:((p.length:Nat):Int)<R.length:=by omega
   have gy:(ints R++J)[p.length]?=some (.int .i64 k):=by
    rw[VQ (by rw[qg];omega)]
    exact tG hy
   have ib:cN (.int .i64 (p.length:Nat)) R.length=some p.length:=by simp [cN,n7];omega
   simp only[Vy]at hb
   obtain⟨h1,o1,k1,w1,f1⟩:=zk x.wr k 3 (by omega) (by omega) (by omega)
   have lr:=h.lt _ _ gr
   obtain⟨h',ov',L,x2⟩:=Fj hR hr rid0 q (p++[(k:Int)]) (bs++wA k 3) h1 o1 J (by rw[hp];simp) (x.step w1 f1) (by rw[f1.xc rid lr rid0 hor,gr]) (fun e=>by
    rcases f1.ids rid e with z|z
    · exact hor z
    · omega) (by simp [wA,wE];omega)
   have n2:(((p++[(k:Int)]).length:Nat):Int)=(p.length:Int)+1:=by simp
   rw[n2]at L
   have k1':aR AP.A 335 [.aE w 0,.int .i64 k,.int .i64 3] h=some (.int .i64 0,h1):=k1
   refine⟨h',ov',tX ?_ L, ?_⟩
   · clear L x x2 w1 f1 k1 hr
     generalize ints R++J=P at *
     simp (disch:=omega)only[go_sem,wc,AP.f341L1,c1,ib,gr,gy,k1']
   · have:zm ((k:Int)::q)=wA k 3++zm q:=by simp [zm]
     rw[this,←VH];exact x2
theorem Ed {h0 : H} {w : Nat} {cv : AV} {D : List Int} {E : List (Int × Int)} (hD : D.length < 1000) (ok : ∀ y ∈ D, 0 ≤ y ∧ BH E y.toNat) (av : AV) (rd : Rd h0 av (ints D)) (rl : xR 2 h0 cv E.length (E.flatMap wX)) : ∀ (q p : List Int) (bs : List Nat) (h : H) (ov : AV), D = p ++ q → WX h0 h w bs ov → bs.length + 15 * q.length ≤ 60000 →
 ∃h' ov',Lp AP.A [0,17,92,93,94] AP.f341L0 [(0,.aE w 0),(17,cv),(92,av),(93,.int .i64 D.length),(94,.int .i64 p.length)] h=some (.exit 6,[(0,.aE w 0),(17,cv),(92,av),(93,.int .i64 D.length),(94,.int .i64 D.length),(95,.bool false)],h')∧WX h0 h' w (bs++yS E q) ov'∧(h.next≤h'.next)
 | [], p, bs, h, ov, hp, x, hb => by
   rw[VM]at hp;subst hp
   refine⟨h,ov,tW ?_,by simpa [yS]using x,vB _⟩
   simp (disch:=omega)only[go_sem,wc,AP.f341L0]
 | y :: q, p, bs, h, ov, hp, x, hb => by
   have hl:D.length=p.length+(q.length+1):=by rw[hp];simp
   have hy:D[p.length]?=some y:=by rw[hp];simp
   obtain⟨y0,oy⟩:=ok y (vE hy)
   obtain⟨k,rfl⟩:=VF y0
   have tk:((k:Nat):Int).toNat=k:=by omega
   rw[tk]at oy
   have c1:((p.length:Nat):Int)<D.length:=by omega
   obtain⟨ad,a1,a2⟩:=rd.xj
   have b1:=a1 p.length ⟨by omega,by omega⟩
   have b2:=a2 h x.ext p.length _ hy
   obtain⟨le,l1,l2⟩:=rl.FE
   obtain⟨n,c,q0,q1,q2,q3,q4⟩:=oy.bits
   have e1:=l1 k ⟨by omega,by have:=oy.lt;omega⟩
   have e2:=l2 h x.ext _ _ q0
   simp only[Vy]at hb
   obtain⟨h1,o1,k1,w1,f1⟩:=JG x.wr c n q1 q2 q3 (by omega)
   obtain⟨h',ov',L,x2,nn⟩:=Ed hD ok av rd rl q (p++[(k:Int)]) (bs++yC c n) h1 o1 (by rw[hp];simp) (x.step w1 f1) (by simp [xm];omega)
   have n2:(((p++[(k:Int)]).length:Nat):Int)=(p.length:Int)+1:=by simp
   rw[n2]at L
   have fn:=f1.next
   refine⟨h',ov',tX ?_ L, ?_,by omega⟩
   · clear L x x2 w1 f1 ok rd rl a1 a2 l1 l2
     simp (disch:=omega)only[go_sem,wc,AP.f341L0,c1,b1,b2,e1,e2,k1]
   · have:yS E ((k:Int)::q)=yC c n++yS E q:=by
      rw[←q4];simp [yS]
     rw[this,←VH];exact x2
theorem Md {h0 h:H} {w:Nat} {bs:List Nat} {ov:AV} (x:WX h0 h w bs ov) {v1 v2:AV} {la lb Lc:List Int} {KC:Nat} (r1:Rd h0 v1 (ints la)) (r2:Rd h0 v2 (ints lb)) (sc1:v1.sc=true) (sc2:v2.sc=true) (ce1:v1.cells=[v1]) (ce2:v2.cells=[v2]) (hbs:bs.length≤100) (hla:257≤la.length∧la.length≤286) (hlb:1≤lb.length∧lb.length≤30) (hall:∀y∈la++lb,0≤y∧y<19) (rc:xU 7 KC (xA (xN (la++lb) (List.replicate 19 0)))) (ec:Lc=xh (xN (la++lb) (List.replicate 19 0)) KC) (row:∀y∈Lc,0≤y∧y<8) (cc:wH Lc=0∨wH Lc=302) (zo:∀y∈la++lb,BH (v7 Lc) y.toNat):
 ∃h' ov',aR AP.A 341 [.aE w 0,v1,v2] h=some (.bL [],h')∧WX h0 h' w (bs++(wA (la.length-257) 5++(wA (lb.length-1) 5++(wA (wK (we.map (fun o=>Lc.getD o.toNat 0)) 4 19-4) 4++(zm ((we.map (fun o=>Lc.getD o.toNat 0)).take (wK (we.map (fun o=>Lc.getD o.toNat 0)) 4 19))++yS (v7 Lc) (la++lb)))))) ov':=by
 obtain⟨D,eD⟩:∃D,D=la++lb:=⟨_,rfl⟩
 have lD:D.length=la.length+lb.length:=by rw[eD];simp
 have l1:jg false v1=some (.int .i64 la.length):=by
  have:=r1.len;rw[qg]at this;exact this
 have l2:jg false v2=some (.int .i64 lb.length):=by
  have:=r2.len;rw[qg]at this;exact this
 have lw:=h.lt _ _ x.wr.get
 have wfl:=x.wr.fl
 have wflx:=x.wr.GO
 obtain⟨h1,eh1⟩:∃g,g=h.alloc [v1,v2]:=⟨_,rfl⟩
 have n1:h1.next=h.next+1:=by rw[eh1];simp
 have f1:h1.floor=h.floor:=by rw[eh1];simp
 have k1e:∀i,i<h.next→h1.get i=h.get i:=fun i hi=>by rw[eh1,v8 (by omega)]
 have k62:aR AP.A 62 [.aF h.next 0 2 1] h1=some (xg D,h1):=by
  have e1:h1.get h.next=some [v1,v2]:=by rw[eh1,wh rfl]
  have rr:Rd h1 (.aF h.next 0 2 1) ([(v1,la),(v2,lb)].map (·.1)):=⟨by simp [aS,e1],by intro s e;cases e⟩
  have e:cat [(v1,la),(v2,lb)]=D:=by rw[eD];simp [cat]
  have up:∀i c,h0.get i=some c→h1.get i=some c:=fun i c hi=>by
   have e:=x.ext i c hi
   rw[k1e i (h.lt _ _ e),e]
  have:=D4 h1 (.aF h.next 0 2 1) [(v1,la),(v2,lb)] rr (fun p hp=>by
   simp at hp
   rcases hp with rfl|rfl
   · exact r1.mono up
   · exact r2.mono up) (by rw[e];omega) (by simp) (by rw[e];omega)
  rw[e]at this;exact this
 have lnD:jg false (xg D)=some (.int .i64 D.length):=rfl
 have ko:=fun g=>JD g
 have lnO:jg false (xg we)=some (.int .i64 19):=rfl
 obtain⟨h2,eh2⟩:∃g,g=h1.alloc (yo 19 [.int .i64 0]):=⟨_,rfl⟩
 have n2:h2.next=h.next+2:=by rw[eh2];simp;omega
 have g2:h2.get h1.next=some (ints (List.replicate 19 0)):=by rw[eh2,wh rfl,xV]
 rw[←eD]at hall rc ec zo ⊢
 obtain⟨h3,L3,g3,f3,n3,k3⟩:=Fi (w:=.aE w 0) (v1:=v1) (v2:=v2) (av:=xg D) (by omega) hall h1.next H.empty (yB _ _) (by simp [H.empty,H.get]) D [] (List.replicate 19 0) h2 rfl (fun i c q=>by simp [H.empty,H.get]at q) g2 (by simp) (fun y hy=>by have:=VU hy;simp;omega) (by rw[eh2];simp;omega)
 have L3':Lp AP.A [0,1,2,6,7,28,29,30] AP.f341L3 [(0,.aE w 0),(1,v1),(2,v2),(6,xg D),(7,.aF h1.next 0 19 1),(28,xg D),(29,.int .i64 D.length),(30,.int .i64 0)] h2=_:=L3
 have c1:(xN D (List.replicate 19 0)).length=19:=by rw[AX,VR]
 have c2:∀y∈xN D (List.replicate 19 0),0≤y∧y≤2147483647:=fun y hy=>by
  have:=AY D _ 0 (by omega) (AG 19) y hy
  omega
 have k7:=Gx h3 (.aF h1.next 0 19 1) (xN D (List.replicate 19 0)) 7 KC (by omega) (by omega) (GF g3 c1) (by omega) c2 (by have:=EN (xN D (List.replicate 19 0));omega) rc
 rw[←ec,c1]at k7
 have lLc:Lc.length=19:=by rw[ec,xZ,c1]
 have f3':h3.floor=h.floor:=by rw[f3,eh2];simp;exact f1
 obtain⟨h4,rv,L2,o4,f4,n4,k4,id4⟩:=Fk (w:=.aE w 0) (v1:=v1) (v2:=v2) (av:=xg D) lLc h3 (cv:=yx 1 19 (ints Lc)) (by have:=zL h3 Lc;rwa [lLc]at this) we [] [] h3 .aP rfl (Ext.refl _) (by omega) wM.nil rfl (fun j hj=>by cases hj) (vB _)
 have L2':Lp AP.A [0,1,2,6,10,12,46,47,48] AP.f341L2 [(0,.aE w 0),(1,v1),(2,v2),(6,xg D),(10,yx 1 19 (ints Lc)),(12,.aP),(46,xg we),(47,.int .i64 19),(48,.int .i64 0)] h3=_:=L2
 obtain⟨R,eR⟩:∃R,R=we.map (fun o=>Lc.getD o.toNat 0):=⟨_,rfl⟩
 rw[Wd,←eR]at o4
 rw[←eR]
 have lR:R.length=19:=by rw[eR];rfl
 obtain⟨rid,erv,gr,_⟩:=DN o4 (by omega)
 have rid3:h3.next≤rid:=id4 rid (by rw[erv];rfl)
 have pR:∀y∈R,0≤y∧y<8:=fun y hy=>by
  rw[eR]at hy
  obtain⟨o,ho,rfl⟩:=VN.1 hy
  rw[Vx]
  cases e:Lc[o.toNat]? with
  |none=>simp
  |some z=>exact row z (vE e)
 have kt:=KJ h4 rid R gr (by omega) (fun y hy=>(pR y hy).1) 4 (by omega)
 rw[lR]at kt
 have ur:=xz R 4 19
 obtain⟨U,eU⟩:∃U,U=wK R 4 19:=⟨_,rfl⟩
 rw[←eU]at kt ur ⊢
 have k4e:∀i,i<h.next→h4.get i=h.get i:=fun i hi=>by rw[k4 i (by omega),k3 i (by omega),eh2,v8 (by omega),k1e i hi]
 have x4:WX h0 h4 w bs ov:=x.turn (by omega) (by omega) k4e
 have hon:ov.id?≠some rid:=fun q=>by have:=(x.wr.own.lt q).2;omega
 obtain⟨h5,o5,k5,w5,r5⟩:=zk x4.wr (la.length-257) 5 (by omega) (by omega) (by omega)
 have x5:=x4.step w5 r5
 have lr4:=h4.lt _ _ gr
 have g5:h5.get rid=some (ints R):=by rw[r5.xc rid lr4 (by omega) hon,gr]
 have hon5:o5.id?≠some rid:=fun e=>by
  rcases r5.ids rid e with z|z
  · exact hon z
  · omega
 obtain⟨h6,o6,k6,w6,r6⟩:=zk x5.wr (lb.length-1) 5 (by omega) (by omega) (by simp [wA,wE];omega)
 have x6:=x5.step w6 r6
 have lr5:=h5.lt _ _ g5
 have g6:h6.get rid=some (ints R):=by rw[r6.xc rid lr5 (by omega) hon5,g5]
 have hon6:o6.id?≠some rid:=fun e=>by
  rcases r6.ids rid e with z|z
  · exact hon5 z
  · omega
 obtain⟨h7,o7,k7p,w7,r7⟩:=zk x6.wr (U-4) 4 (by omega) (by omega) (by simp [wA,wE];omega)
 have x7:=x6.step w7 r7
 have lr6:=h6.lt _ _ g6
 have g7:h7.get rid=some (ints R):=by rw[r7.xc rid lr6 (by omega) hon6,g6]
 have hon7:o7.id?≠some rid:=fun e=>by
  rcases r7.ids rid e with z|z
  · exact hon6 z
  · omega
 have lT:(R.take U).length=U:=by rw[VZ];omega
 have eT:ints R=ints (R.take U)++ints (R.drop U):=by rw[←qf,List.take_append_drop]
 rw[eT]at g7
 obtain⟨h8,o8,L1,x8⟩:=Fj (av:=xg D) (cv:=yx 1 19 (ints Lc)) (R:=R.take U) (by omega) (fun y hy=>pR y (List.mem_of_mem_take hy)) (by omega) (R.take U) [] _ h7 o7 (ints (R.drop U)) rfl x7 g7 hon7 (by simp [wA,wE];omega)
 rw[lT]at L1
 have L1':Lp AP.A [0,6,10,77,78,79] AP.f341L1 [(0,.aE w 0),(6,xg D),(10,yx 1 19 (ints Lc)),(77,.aF rid 0 U 1),(78,.int .i64 U),(79,.int .i64 0)] h7=_:=L1
 have kc:=Be h8 (yx 1 19 (ints Lc)) Lc (by omega) (by omega) (by have:=zL h8 Lc;rwa [lLc]at this) cc
 obtain⟨h9,o9,L0,x9,_⟩:=Ed (by omega) (fun y hy=>⟨(hall y hy).1,zo y hy⟩) (xg D) (yB h0 D) (yw h0 Lc) D [] _ h8 o8 rfl x8 (by simp [wA,wE,At];omega)
 have L0':Lp AP.A [0,17,92,93,94] AP.f341L0 [(0,.aE w 0),(17,zh Lc),(92,xg D),(93,.int .i64 D.length),(94,.int .i64 0)] h8=_:=L0
 refine⟨h9,o9,xb (fn:=AP.f341) (e:=[]) (vs:=[]) rfl rfl rfl ?_ rfl,by simpa only[VH]using x9⟩
 have z1:((la.length-257:Nat):Int)=(la.length:Int)-257:=by omega
 have z2:((lb.length-1:Nat):Int)=(lb.length:Int)-1:=by omega
 have z3:((U-4:Nat):Int)=(U:Int)-4:=by omega
 rw[z1]at k5
 rw[z2]at k6
 rw[z3]at k7p
 have k5':aR AP.A 335 [.aE w 0,.int .i64 ((la.length:Int)-257),.int .i64 5] h4=some (.int .i64 0,h5):=k5
 have k6':aR AP.A 335 [.aE w 0,.int .i64 ((lb.length:Int)-1),.int .i64 5] h5=some (.int .i64 0,h6):=k6
 have k7':aR AP.A 335 [.aE w 0,.int .i64 ((U:Int)-4),.int .i64 4] h6=some (.int .i64 0,h7):=k7p
 have k351:aR AP.A 351 [.aF h1.next 0 19 1,.int .i64 7] h3=some (.bL [yx 1 19 (ints Lc),.int .i64 0],h3):=k7
 have kt':aR AP.A 342 [.aF rid 0 19 1,.int .i64 4] h4=some (.aF rid 0 U 1,h4):=kt
 have ia:(la.length:Int)≤286:=by omega
 have ib:(lb.length:Int)≤30:=by omega
 have iU:(U:Int)≤19:=by omega
 have e19:∀V,jg false (AV.aF V 0 19 1)=some (.int .i64 19):=fun _=>rfl
 rw[erv]at L2'
 rw[lR]at L2'
 clear x x4 x5 x6 x7 x8 x9 w5 w6 w7 r5 r6 r7 r1 r2 hall rc row cc zo k5 k6 k7p k7 kt L0 L1 L2 L3 o4 pR k4 k3 k4e k1e g5 g6 g7 gr eT c2 ec
 generalize xg D=ID at *
 generalize yx 1 19 (ints Lc)=CV at *
 generalize zh Lc=EV at *
 generalize xg we=IO at *
 generalize (la.length:Int)=LA at *
 generalize (lb.length:Int)=LB at *
 generalize (D.length:Int)=LD at *
 simp (disch:=omega)only[go_sem,wc,AP.f341,sc1,sc2,ce1,ce2,←eh1,k62,ko,lnO,←eh2,lnD,sX,L3',k351,L2',kt',l1,l2,k5',k6',k7',AN,L1',kc,L0']
theorem K7 (p q:List Int) (n:Nat) (h:∀y∈q,y=0):xM (p++q) n=xM p n:=by
 unfold xM
 by_cases c:n=0
 · rw[if_pos c,if_pos c]
 · rw[if_neg c,if_neg c,List.countP_append]
   have:q.countP (fun x=>x==(n:Int))=0:=by
    rw[List.countP_eq_zero]
    intro y hy
    rw[h y hy]
    simp;omega
   omega
theorem Dl (p q:List Int) (h:∀y∈q,y=0):∀n,wk (p++q) n=wk p n
 |0=>rfl
 |n+1=>by rw[wk,wk,Dl p q h n,K7 p q n h]
theorem La {l:List Int} (hr:∀y∈l,0≤y) (k:Nat) (hk:k≤l.length):∀y∈l.drop (wK l k l.length),y=0:=by
 intro y hy
 obtain⟨i,hi,e⟩:=Wa.1 hy
 rw[List.getElem_drop]at e
 rw[List.length_drop]at hi
 have z:=zP l k l.length (wK l k l.length+i) (by omega) (by omega)
 have e2:l.getD (wK l k l.length+i) 0=y:=by
  rw[Vx,Vz (by omega),e];rfl
 rw[e2]at z
 have:=hr y (List.mem_of_mem_drop hy)
 omega
def GP (E E':List (Int×Int)):Prop:=∀s,s<E.length→E'[s]?=E[s]?
theorem E6 {l:List Int} (hr:∀y∈l,0≤y) (k:Nat) (hk:k≤l.length):GP (v7 (zt l k)) (v7 l):=by
 intro s hs
 have hd:=La hr k hk
 have cl:=Af l hk
 have ur:=xz l k l.length
 rw[zF]at hs
 have hs2:s<l.length:=by omega
 have el:l=zt l k++l.drop (wK l k l.length):=(List.take_append_drop _ _).symm
 unfold v7
 rw[vJ,vJ,V6 hs,V6 hs2]
 show some (Ac l s)=some (Ac (zt l k) s)
 have g:l.getD s 0=(zt l k).getD s 0:=by
  conv=>lhs;rw[el]
  rw[Vx,VQ hs,←Vx]
 have f:∀n,wk l n=wk (zt l k) n:=fun n=>by
  conv=>lhs;rw[el]
  exact Dl _ _ hd n
 have t:l.take s=(zt l k).take s:=by
  conv=>lhs;rw[el]
  rw[List.take_append_of_le_length (by omega)]
 unfold Ac
 rw[g,f,t]
theorem BH.pre {E E':List (Int×Int)} (p:GP E E') {s:Nat} (o:BH E s):BH E' s∧wy E' s=wy E s:=by
 have hl:=o.lt
 have e:=p s hl
 obtain⟨n,v,h,r⟩:=o
 refine⟨⟨n,v,e.trans h,r⟩, ?_⟩
 unfold wy
 rw[Vx,Vx,e]
theorem HM.pre {E E' D D':List (Int×Int)} (p:GP E E') (q:GP D D') {t:Tok} (o:HM E D t):HM E' D' t∧wS E' D' t=wS E D t:=by
 rcases o with ⟨c0,h2,h3⟩|⟨h1,h2,h3,h4,h5,h6⟩
 · obtain⟨a,b⟩:=h3.pre p
   refine⟨.inl ⟨c0,h2,a⟩, ?_⟩
   rw[wS,wS,if_pos c0,if_pos c0,b]
 · obtain⟨a,b⟩:=h5.pre p
   obtain⟨c,d⟩:=h6.pre q
   have z:¬t.len=0:=by omega
   refine⟨.inr ⟨h1,h2,h3,h4,a,c⟩, ?_⟩
   rw[wS,wS,if_neg z,if_neg z,b,d]
theorem FX {E E' D D':List (Int×Int)} (p:GP E E') (q:GP D D'):∀ts:List Tok,(∀t∈ts,HM E D t)→xp E' D' ts=xp E D ts
 |[],_=>rfl
 | t :: r, h => by
   have a:=((h t (by simp)).pre p q).2
   have b:=FX p q r fun x hx=>h x (by simp [hx])
   simp only[xp,VJ]at b ⊢
   rw[a,b]
theorem Pc {ts:List Tok} (AM:Ag ts=true):∃KA KB KC la lb Lc,Dd ts KA KB KC la lb Lc:=by
 obtain⟨_,hn,t2,_,_⟩:=Gd AM
 exact Jp hn AM t2
theorem Mb (h : H) (v : AV) (ts : List Tok) (KA KB KC : Nat) (la lb Lc : List Int) (ok : Dd ts KA KB KC la lb Lc) (rd : xR 3 h v ts.length (wG ts)) :
 aR AP.A 327 [v] h=some (.bL [.str (bytesOf (wJ (wV ts la lb Lc))),.int .i64 0],h):=by
 obtain⟨AM,hn,tok,ra,rb,ea,eb,hall,rc,ec,hrow,ca,cb,cc,zo,LR,BG⟩:=ok
 obtain⟨_,_,_,lit,_⟩:=Gd AM
 have rd0:xR 3 h.dQ v ts.length (wG ts):=rd.mono fun i c q=>q
 have k1:=IZ h.dQ v ts (by omega) rd0
 rw[AM]at k1
 have k2:=IY h.dQ v ts KA KB hn tok lit ra rb rd0
 obtain⟨a1,a2,a3⟩:=He ts hn
 obtain⟨b1,b2⟩:=Hf ts hn
 obtain⟨A,eA⟩:∃A,A=xh (dA ts) KA:=⟨_,rfl⟩
 obtain⟨B,eB⟩:∃B,B=xh (dB ts) KB:=⟨_,rfl⟩
 have lA:A.length=286:=by rw[eA,xZ,a1]
 have lB:B.length=30:=by rw[eB,xZ,b1]
 obtain⟨fA1,fA2,fA3,fA4,fA5⟩:=zy a2 (by omega) (by omega) (by omega) ra
 obtain⟨fB1,fB2,fB3,fB4,fB5⟩:=zy b2 (by omega) (by omega) (by omega) rb
 rw[←eA]at k2 ea fA2
 rw[←eB]at k2 eb fB2
 have rgA:∀y∈A,0≤y∧y<16:=fun y hy=>by have:=fA2 y hy;omega
 have rgB:∀y∈B,0≤y∧y<16:=fun y hy=>by have:=fB2 y hy;omega
 have pA:∀y∈A,0≤y:=fun y hy=>(rgA y hy).1
 have pB:∀y∈B,0≤y:=fun y hy=>(rgB y hy).1
 have uA:=xz A 257 A.length
 have uB:=xz B 1 B.length
 have lla:la.length=wK A 257 A.length:=by rw[ea];exact Af A (by omega)
 have llb:lb.length=wK B 1 B.length:=by rw[eb];exact Af B (by omega)
 have cfA:wH A=0∨wH A=302:=by
  have e:=DD pA 257 15
  rw[←ea]at e
  have hl:0≤wC A 15:=by
   rw[←e]
   unfold wH at ca
   by_cases q:Ap la=false
   · rw[if_pos q]at ca;omega
   · rw[if_neg q]at ca
     by_cases z:wC la 15<0
     · rw[if_pos z]at ca;omega
     · omega
  rw[yq (by omega) (by omega) rgA hl]
  split
  · exact .inl rfl
  · exact .inr rfl
 have cfB:wH B=0∨wH B=302:=by
  have e:=DD pB 1 15
  rw[←eb]at e
  have hl:0≤wC B 15:=by
   rw[←e]
   unfold wH at cb
   by_cases q:Ap lb=false
   · rw[if_pos q]at cb;omega
   · rw[if_neg q]at cb
     by_cases z:wC lb 15<0
     · rw[if_pos z]at cb;omega
     · omega
  rw[yq (by omega) (by omega) rgB hl]
  split
  · exact .inl rfl
  · exact .inr rfl
 have prA:GP (v7 la) (v7 A):=by rw[ea];exact E6 pA 257 (by omega)
 have prB:GP (v7 lb) (v7 B):=by rw[eb];exact E6 pB 1 (by omega)
 obtain⟨h1,o1,k3,x1,f1⟩:=Jg (h:=h.dQ) rfl 2 (by omega)
 have hN:h.dQ.next=h.next:=rfl
 have kt1:=FM h1 A (by omega) (by omega) pA 257 (by omega)
 have kt2:=FM h1 B (by omega) (by omega) pB 1 (by omega)
 rw[←lla]at kt1
 rw[←llb]at kt2
 have r1:Rd h.dQ (.aV false (ints A) 0 la.length 1) (ints la):=by
  have:=DK h.dQ A (k:=la.length) (by omega)
  rw[show A.take la.length=la by rw[ea];unfold zt;rw[VZ];congr 1;omega]at this
  exact this
 have r2:Rd h.dQ (.aV false (ints B) 0 lb.length 1) (ints lb):=by
  have:=DK h.dQ B (k:=lb.length) (by omega)
  rw[show B.take lb.length=lb by rw[eb];unfold zt;rw[VZ];congr 1;omega]at this
  exact this
 obtain⟨h2,o2,k4,x2⟩:=Md x1 r1 r2 rfl rfl rfl rfl (by simp [wA,wE]) ⟨by omega,by omega⟩ ⟨by omega,by omega⟩ hall rc ec hrow cc zo
 have kcA:=Be h2 (yx 1 A.length (ints A)) A (by omega) (by omega) (zL h2 A) cfA
 have kcB:=Be h2 (yx 1 B.length (ints B)) B (by omega) (by omega) (zL h2 B) cfB
 obtain⟨R,eR⟩:∃R,R=we.map (fun o=>Lc.getD o.toNat 0):=⟨_,rfl⟩
 have urR:=xz R 4 19
 have abl:=Cd zo
 rw[←eR]at x2
 obtain⟨h3,k5⟩:=JJ (v:=v) (by omega) h.dQ rd0 (yw h.dQ A) (yw h.dQ B) (fun t ht=>⟨((LR t ht).pre prA prB).1,tok t ht,lit t ht⟩) (BG.pre prA).1 h.dQ.next _ h2 o2 x2 (by
  have:=At (R.take (wK R 4 19))
  have:=List.length_take_le (wK R 4 19) R
  have lR:R.length=19:=by rw[eR];rfl
  rw[vV]at abl
  simp only[vV,wA,wE]
  omega)
 have e:wA 1 1++wA 2 2++(wA (la.length-257) 5++(wA (lb.length-1) 5++(wA (wK R 4 19-4) 4++(zm (R.take (wK R 4 19))++yS (v7 Lc) (la++lb)))))++(xp (v7 A) (v7 B) ts++wy (v7 A) 256)=wV ts la lb Lc:=by
  rw[FX prA prB ts LR,(BG.pre prA).2]
  have:wA 1 1++wA 2 2=wA 5 3:=by decide
  rw[this]
  unfold wV
  rw[←eR]
  simp only[VH]
 rw[e]at k5
 rw[hN]at k3 k4 k5
 have k3':aR AP.A 333 [.int .i64 2] h.dQ=some (.aE h.next 0,h1):=k3
 rw[lA]at kt1 kcA
 rw[lB]at kt2 kcB
 have kt1':aR AP.A 342 [yx 1 286 (ints A),.int .i64 257] h1=_:=kt1
 have kt2':aR AP.A 342 [yx 1 30 (ints B),.int .i64 1] h1=_:=kt2
 refine uL (fn:=AP.f327) (h2:=h3) (e:=[(2,.str (bytesOf (wJ (wV ts la lb Lc)))),(3,.int .i64 0)]) (vs:=[.str (bytesOf (wJ (wV ts la lb Lc))),.int .i64 0]) rfl rfl rfl ?_ rfl rfl
 clear x1 x2 r1 r2 rd rd0 e k3 kt1 kt2 zo hall rc hrow ra rb prA prB abl LR tok lit ec ea eb
 generalize bytesOf (wJ (wV ts la lb Lc))=SB at *
 generalize AV.aV false (ints A) 0 la.length 1=TA at *
 generalize AV.aV false (ints B) 0 lb.length 1=TB at *
 generalize yx 1 286 (ints A)=VA at *
 generalize yx 1 30 (ints B)=VB at *
 generalize zh A=CA at *
 generalize zh B=CB at *
 simp (disch:=omega)only[go_sem,wc,AP.f327,k1,k2,k3',kt1',kt2',k4,kcA,kcB,k5]
theorem H4 (h:H) (ts:List Tok):xR 3 h (EM ts) ts.length (wG ts):=GG (by rw[yk])
theorem Mc (h:H) (v:AV) (ts:List Tok) (hn:ts.length<1125899906842624) (AM:Ag ts=false) (rd:xR 3 h v ts.length (wG ts)):aR AP.A 327 [v] h=some (.bL [.str ⟨#[]⟩,.int .i64 800],h):=by
 have k1:=IZ h.dQ v ts hn (rd.mono fun i c q=>q)
 rw[AM]at k1
 refine uL (fn:=AP.f327) (h2:=h.dQ) (e:=[(2,.str ⟨#[]⟩),(3,.int .i64 800)]) (vs:=[.str ⟨#[]⟩,.int .i64 800]) rfl rfl rfl ?_ rfl rfl
 clear rd
 simp (disch:=omega)only[go_sem,wc,AP.f327,k1]
theorem I5 (h:H) (s:ByteArray) (hs:300<s.size):aR AP.A 170 [.str s] h=some (.bL [.str ⟨#[]⟩,.int .i64 800],h):=by
 have c':(300:Int)<s.size:=by omega
 refine uL (fn:=AP.f170) (h2:=h.dQ) (e:=[(2,.str ⟨#[]⟩),(3,.int .i64 800)]) (vs:=[.str ⟨#[]⟩,.int .i64 800]) rfl rfl rfl ?_ rfl rfl
 simp (disch:=omega)only[go_sem,wc,AP.f170,yd,c']
theorem Ho (h:H) (v:AV) (ts:List Tok) (hn:ts.length<1125899906842624) (AM:Ag ts=false) (rd:xR 3 h v ts.length (wG ts)):aR AP.A 171 [v] h=some (.bL [.str ⟨#[]⟩,.int .i64 800],h):=by
 have k1:=Jt h.dQ v ts hn (rd.mono fun i c q=>q)
 rw[AM]at k1
 refine uL (fn:=AP.f171) (h2:=h.dQ) (e:=[(2,.str ⟨#[]⟩),(3,.int .i64 800)]) (vs:=[.str ⟨#[]⟩,.int .i64 800]) rfl rfl rfl ?_ rfl rfl
 simp (disch:=omega)only[go_sem,wc,AP.f171,k1]
theorem M6 (h:H) (v:AV) (ts:List Tok) (hn:ts.length<1125899906842624) (AM:Ag ts=false) (rd:xR 3 h v ts.length (wG ts)):aR AP.A 13 [v] h=some (.bL [.str ⟨#[]⟩,.int .i64 800],h):=by
 have k1:=Jt h.dQ v ts hn (rd.mono fun i c q=>q)
 rw[AM]at k1
 refine uL (fn:=AP.f13) (h2:=h.dQ) (e:=[(2,.str ⟨#[]⟩),(3,.int .i64 800)]) (vs:=[.str ⟨#[]⟩,.int .i64 800]) rfl rfl rfl ?_ rfl rfl
 simp (disch:=omega)only[go_sem,wc,AP.f13,k1]
def ML:Tok:=⟨77777,0,0⟩
def AJ:List AV:=[.int .i64 77777,.int .i64 0,.int .i64 0,.int .i64 77777,.int .i64 0,.int .i64 0]
def Am (l:List Tok):List AV:=wG l++AJ
theorem CU (l:List Tok):(Am l).length=(l.length+2)* 3:=by unfold Am;rw[vV,yk];show _+6=_;omega
theorem IL (l:List Tok):Am l=wG (l++[ML,ML]):=by unfold Am wG;rw[List.flatMap_append];rfl
theorem It (l:List Tok):AV.aC (wG l)=true:=by rw[AH];exact BR _
theorem Nk (h:H) (hf:h.floor≤h.next) (v:AV) (l:List Tok) (rd:xR 3 h v l.length (wG l)) (hl:l.length<9000000000000):
 ∃h' q,aR AP.A 377 [v] h=some (.aF q 0 l.length 3,h')∧h'.get q=some (Am l)∧h'.floor=h.floor∧q<h'.next∧h.next≤q∧∀i,i<h.next→h'.get i=h.get i:=by
 have ln:=rd.len
 have al:=It l
 have ll:=yk l
 have lc:=CU l
 by_cases c:l=[]
 · subst c
   have sr:∀g:H,Ext h g→aS g 3 v=some (0,[]):=fun g x=>(rd.mono (fun i c q=>x i c q)).1
   have x1:Ext h (h.alloc []):=(Ext.refl h).alloc _
   have s1:=sr _ x1
   have k1:aR AP.A 379 [v] h=some (.aF h.next 0 0 3,h.alloc []):=by
    refine um (fn:=AP.f379) (e:=[(2,.aF h.next 0 0 3)]) (vs:=[.aF h.next 0 0 3]) rfl rfl rfl ?_ rfl
    simp (disch:=first|omega|(simp only[wY,Vy,VC,vF,Nat.reduceAdd];first|done|omega|fail)|(simp (disch:=first|omega|(simp only[wY,Vy,VC,vF,Nat.reduceAdd];first|done|omega|fail)|fail)only[wY,zX,VG,Vy,VC,vF,Nat.reduceAdd];done)|fail)only[go_sem,wc,zW,AP.f379,s1]
   refine⟨(((h.alloc []).alloc AJ).del h.next).alloc AJ,h.next+1+1, ?_, ?_,by simp,by simp,by omega,fun i hi=> ?_⟩
   · have hg:((((h.alloc []).alloc AJ).del h.next).alloc AJ).get (h.next+1+1)=some AJ:=wh (by simp)
     have sh:=Ia (n:=3) (o:=0) (k:=2) (m:=0) hg (by omega) (by simp [AJ]) (by simp [AJ])
     unfold AJ at sh ⊢
     refine um (fn:=AP.f377) (e:=[(2,.aF (h.next+1+1) 0 0 3)]) (vs:=[.aF (h.next+1+1) 0 0 3]) rfl rfl rfl ?_ rfl
     have ln':jg false v=some (.int .i64 0):=ln
     simp (disch:=first|omega|(simp only[wY,Vy,VC,vF,Nat.reduceAdd];first|done|omega|fail)|(simp (disch:=first|omega|(simp only[wY,Vy,VC,vF,Nat.reduceAdd];first|done|omega|fail)|fail)only[wY,zX,VG,Vy,VC,vF,Nat.reduceAdd];done)|fail)only[go_sem,wc,zW,AP.f377,k1,ln',sh]
   · exact wh (by simp)
   · rw[v8 (by simp;omega),yY (by omega),v8 (by simp;omega),v8 (by omega)]
 · have hp:0<l.length:=Wf.2 c
   have x1:Ext h (h.alloc []):=(Ext.refl h).alloc _
   have s1:aS (h.alloc []) 3 v=some (l.length,wG l):=(rd.mono (fun i c q=>x1 i c q)).1
   have k1:aR AP.A 379 [v] h=some (.aF (h.next+1) 0 l.length 3,((h.alloc []).del h.next).alloc (wG l)):=by
    refine um (fn:=AP.f379) (e:=[(2,.aF (h.next+1) 0 l.length 3)]) (vs:=[.aF (h.next+1) 0 l.length 3]) rfl rfl rfl ?_ rfl
    simp (disch:=first|omega|(simp only[wY,Vy,VC,vF,Nat.reduceAdd];first|done|omega|fail)|(simp (disch:=first|omega|(simp only[wY,Vy,VC,vF,Nat.reduceAdd];first|done|omega|fail)|fail)only[wY,zX,VG,Vy,VC,vF,Nat.reduceAdd];done)|fail)only[go_sem,wc,zW,AP.f379,s1,al,ll]
   refine⟨(((((h.alloc []).del h.next).alloc (wG l)).alloc AJ).del (h.next+1)).alloc (Am l),h.next+1+1+1, ?_, ?_,by simp,by simp,by omega,fun i hi=> ?_⟩
   · have hg:((((((h.alloc []).del h.next).alloc (wG l)).alloc AJ).del (h.next+1)).alloc (Am l)).get (h.next+1+1+1)=some (Am l):=wh (by simp)
     have sh:=Ia (n:=3) (o:=0) (k:=l.length+2) (m:=(l.length:Int)) hg (by omega) (by rw[lc];omega) (by rw[lc];simp<;>omega)
     have hc:Am l=wG l++[.int .i64 77777,.int .i64 0,.int .i64 0,.int .i64 77777,.int .i64 0,.int .i64 0]:=rfl
     unfold AJ at sh ⊢
     rw[Wg]at sh
     refine um (fn:=AP.f377) (e:=[(2,.aF (h.next+1+1+1) 0 l.length 3)]) (vs:=[.aF (h.next+1+1+1) 0 l.length 3]) rfl rfl rfl ?_ rfl
     simp (disch:=first|omega|(simp only[wY,Vy,VC,vF,Nat.reduceAdd];first|done|omega|fail)|(simp (disch:=first|omega|(simp only[wY,Vy,VC,vF,Nat.reduceAdd];first|done|omega|fail)|fail)only[wY,zX,VG,Vy,VC,vF,Nat.reduceAdd];done)|fail)only[go_sem,wc,zW,AP.f377,k1,ln,al,ll,←hc,sh]
   · exact wh (by simp)
   · rw[v8 (by simp;omega),yY (by omega),v8 (by simp;omega),v8 (by simp;omega),yY (by omega),v8 (by omega)]
theorem H3 {h:H} {q:Nat} {l:List Tok} (hq:h.get q=some (Am l)):xR 3 h (.aF q 0 l.length 3) l.length (wG l):=by
 have lc:=CU l
 refine⟨?_,yk l,fun s e=>by cases e⟩
 simp only[aS,if_true,hq,vu]
 rw[if_pos (by rw[lc];omega),VW]
 have:List.take (l.length* 3) (Am l)=wG l:=by
  unfold Am;rw[List.take_append_of_le_length (by rw[yk];omega),vP (by rw[yk];omega)]
 rw[this]
def Pd (h:H) (neg:Bool) (n:Nat) (x y:AV):Option (AV×H):=match x,y with| .agg a,.agg b=>if a.length=n∧b.length=n then(cP a b).bind fun t=>some (pV neg t,h)else none|_,_=>none
theorem LV (c:ah) (e:Env) (h:H) (neg:Bool) (n:Nat) (x y:X):ai c e h (.eqs neg n x y)=Pd h neg n (x.ev e) (y.ev e):=vq rfl rfl
theorem Jq (h:H) (neg:Bool) (a b c:Int):Pd h neg 3 (.agg [.int .i64 a,.int .i64 b,.int .i64 c]) (.agg [.int .i64 a,.int .i64 b,.int .i64 c])=some (.bool (!neg),h):=by
 cases neg<;>simp [Pd,cP,fI,pV]
theorem Ic {v w:AV} {ts:List Tok} (hl:ts.length<9000000000000) (h:H) (ra:xR 3 h v ts.length (wG ts)) (rb:xR 3 h w ts.length (wG ts)):∀(q p:List Tok),ts=p++q→
 ∃e',Lp AP.A [0,1,5] AP.f380L0 [(0,v),(1,w),(5,.int .i64 p.length)] h=some (.exit 0,e',h)
 | [], p, hp => by
   rw[VM]at hp;subst hp
   have ln:=ra.len
   refine⟨[(0,v),(1,w),(5,.int .i64 ts.length),(14,.bool false)],tW ?_⟩
   clear ra rb
   simp (disch:=omega)only[go_sem,wc,AP.f380L0,ln]
 | t :: q, p, hp => by
   have hlen:ts.length=p.length+(q.length+1):=by rw[hp];simp
   have ht:ts[p.length]?=some t:=by rw[hp];simp
   have ln:=ra.len
   obtain⟨ad,a1,_,a2⟩:=ra.DA
   obtain⟨bd,b1,_,b2⟩:=rb.DA
   have i1:=a1 p.length ⟨by omega,by omega⟩
   have i2:=b1 p.length ⟨by omega,by omega⟩
   obtain⟨_,_,_,l1⟩:=a2 h (Ext.refl h) p.length t ht
   obtain⟨_,_,_,l2⟩:=b2 h (Ext.refl h) p.length t ht
   obtain⟨e',r⟩:=Ic hl h ra rb q (p++[t]) (by rw[hp];simp)
   have w1:(((p++[t]).length:Nat):Int)=(p.length:Int)+1:=by simp
   have lt:(p.length:Int)<(ts.length:Int):=by omega
   rw[w1]at r
   refine⟨e',tX ?_ r⟩
   clear r ra rb a1 a2 b1 b2 hp ht
   have es:=fun neg=>Jq h neg t.lit t.len t.wL
   simp (disch:=omega)only[go_sem,wc,AP.f380L0,ln,dt lt,i1,i2,l1,l2,LV,es]
theorem Nv (h:H) (v w:AV) (ts:List Tok) (hl:ts.length<9000000000000) (ra:xR 3 h v ts.length (wG ts)) (rb:xR 3 h w ts.length (wG ts)):aR AP.A 380 [v,w] h=some (.bool true,h):=by
 have la:=ra.len
 have lb:=rb.len
 obtain⟨e',r⟩:=Ic hl h.dQ (ra.mono fun i c q=>q) (rb.mono fun i c q=>q) ts [] rfl
 have r':Lp AP.A [0,1,5] AP.f380L0 [(0,v),(1,w),(5,.int .i64 0)] h.dQ=some (.exit 0,e',h.dQ):=r
 refine uL (fn:=AP.f380) (h2:=h.dQ) (e:=[(4,.bool true)]) (vs:=[.bool true]) rfl rfl rfl ?_ rfl rfl
 have nz:((ts.length:Int) !=(ts.length:Int))=false:=by simp
 clear r ra rb
 simp (disch:=omega)only[go_sem,wc,AP.f380,la,lb,nz,sX,r']
theorem Nj (h:H) (q:Nat) (w:AV) (l:List Tok) (hq:h.get q=some (Am l)) (rd:xR 3 h w l.length (wG l)) (hl:l.length<9000000000000):aR AP.A 378 [.aF q 0 l.length 3,w] h=some (.bool true,h):=by
 have ln:=rd.len
 have lc:=CU l
 have k1:=Nv h (.aF q 0 l.length 3) w l hl (H3 hq) rd
 have sh:=Ia (n:=3) (o:=0) (k:=l.length) (m:=(l.length:Int)+2) hq (by omega) (by rw[lc];omega) (by rw[lc];simp<;>omega)
 rw[show((l.length:Int)+2).toNat=l.length+2 by omega]at sh
 have ll:(l++[ML,ML]).length=l.length+2:=by simp
 have rf:xR 3 h (.aF q 0 (l.length+2) 3) (l++[ML,ML]).length (wG (l++[ML,ML])):=by
  rw[←IL,ll]
  refine⟨?_,lc,fun s e=>by cases e⟩
  simp only[aS,if_true,hq,vu]
  rw[if_pos (by rw[lc];omega),VW,vP (by rw[lc];omega)]
 obtain⟨ad,a1,_,a2⟩:=rf.DA
 have i1:=a1 l.length ⟨by omega,by rw[ll];omega⟩
 have i2:=a1 ((l.length:Int)+1) ⟨by omega,by rw[ll];omega⟩
 obtain⟨_,_,_,l1⟩:=a2 h (Ext.refl h) l.length ML (by simp)
 obtain⟨_,_,_,l2⟩:=a2 h (Ext.refl h) (l.length+1) ML (by rw[VL (by omega)];simp)
 rw[show(((l.length+1:Nat)):Int)=(l.length:Int)+1 by omega]at l2
 have l1':bP true 3 (ad (l.length:Int) 0) h=some (.agg [.int .i64 77777,.int .i64 0,.int .i64 0]):=l1
 have l2':bP true 3 (ad ((l.length:Int)+1) 0) h=some (.agg [.int .i64 77777,.int .i64 0,.int .i64 0]):=l2
 have es:=fun neg=>Jq h neg 77777 0 0
 refine um (fn:=AP.f378) (e:=[(4,.bool true)]) (vs:=[.bool true]) rfl rfl rfl ?_ rfl
 clear rf a1 a2 l1 l2 rd
 simp (disch:=first|omega|(simp only[wY,Vy,VC,vF,Nat.reduceAdd];first|done|omega|fail)|(simp (disch:=first|omega|(simp only[wY,Vy,VC,vF,Nat.reduceAdd];first|done|omega|fail)|fail)only[wY,zX,VG,Vy,VC,vF,Nat.reduceAdd];done)|fail)only[go_sem,wc,zW,AP.f378,ln,k1,sh,i1,i2,l1',l2',LV,es]
def AA:ByteArray:=⟨#[97,97]⟩
def HI:ByteArray:=⟨#[104,105]⟩
def QN:List Tok:=[⟨0,3,1⟩]
theorem S9:xX HI=⟨#[1,2,0,253,255,104,105]⟩:=by
 have:(xX HI).data.toList=[1,2,0,253,255,104,105]:=by decide+kernel
 apply ByteArray.ext
 apply Array.ext'
 exact this
theorem N6:Qg AA=⟨#[75,76,4,0]⟩:=by
 have:(Qg AA).data.toList=[75,76,4,0]:=by decide+kernel
 apply ByteArray.ext
 apply Array.ext'
 exact this
theorem QF:Ag QN=false:=by decide+kernel
theorem KZ (h:H) (hf:h.floor≤h.next):aR AP.A 324 [] h=some (.bool true,h):=by
 obtain⟨KA,KB,KC,la,lb,Lc,ok⟩:=Pb AA (by decide)
 have AM:=Ea AA (by decide)
 have tl:=(Ja AA (by decide)).1
 have k1:=CZ h.dQ HI
 rw[if_neg (by decide),S9]at k1
 have k2:=KI h.dQ AA
 rw[if_neg (by decide)]at k2
 have k3:=CD h.dQ (EM (tokens AA)) (tokens AA) (by omega) (H4 _ _)
 rw[if_pos AM]at k3
 change aR AP.A 326 [EM (tokens AA)] h.dQ=some (.bL [.str (Qg AA),.int .i64 0],h.dQ)at k3
 rw[N6]at k3
 have k4:=Mb h.dQ (EM (tokens AA)) (tokens AA) KA KB KC la lb Lc ok (H4 _ _)
 change aR AP.A 327 [EM (tokens AA)] h.dQ=some (.bL [.str (D8 AA la lb Lc),.int .i64 0],h.dQ)at k4
 have i1:A6 (D8 AA la lb Lc) 9=.ok (preB AA AA.size,(D8 AA la lb Lc).size):=Hy (s:=AA) (by decide) ok (by decide) (by omega)
 have sz:(D8 AA la lb Lc).size<1125899906842624:=by
  have:=(M9 ok).2
  unfold D8;rw[Ga];omega
 have k5:=Kl h.dQ (by simp) (D8 AA la lb Lc) 9 sz
 rw[i1]at k5
 have k5':aR AP.A 7 [.str (D8 AA la lb Lc),.int .i64 9] h.dQ=some (.bL [.str AA,.int .i64 (D8 AA la lb Lc).size,.int .i64 0],h.dQ):=by
  have this:aR AP.A 7 [.str (D8 AA la lb Lc),.int .i64 9] h.dQ=some (.bL [.str (bytesOf (preB AA AA.size)),.int .i64 (D8 AA la lb Lc).size,.int .i64 0],h.dQ):=k5
  rw[show bytesOf (preB AA AA.size)=AA from I0 AA]at this
  exact this
 obtain⟨g,eg⟩:∃g,g=h.dQ.alloc (wG QN):=⟨_,rfl⟩
 have hN:h.dQ.next=h.next:=rfl
 have gg:g.get h.next=some (wG QN):=by rw[eg,wh (by simp)]
 have k6:=CD g (.aF h.next 0 1 3) QN (by decide) (wM.rd ⟨rfl,.inr ⟨h.next,rfl,gg,by rw[eg];simp,by decide⟩⟩)
 rw[QF]at k6
 simp only[vw,vS]at k6
 have eT:wG QN=[.int .i64 0,.int .i64 3,.int .i64 1]:=rfl
 rw[eT]at eg
 have n0:∀(k:Int) (g:H),aR AP.A 9 [.int .i64 k] g=some (.int .i64 k,g):=fun k g=>NP g k
 generalize D8 AA la lb Lc=D at *
 generalize EM (tokens AA)=TV at *
 have e1:(⟨#[97,97]⟩:ByteArray)=AA:=rfl
 have e2:(⟨#[104,105]⟩:ByteArray)=HI:=rfl
 have q1:bj .eql (.str ⟨#[1,2,0,253,255,104,105]⟩) (.str ⟨#[1,2,0,253,255,104,105]⟩)=some (.bool true):=by simp [bj,jU]
 have q2:bj .eql (.str ⟨#[75,76,4,0]⟩) (.str ⟨#[75,76,4,0]⟩)=some (.bool true):=by simp [bj,jU]
 have q3:bj .eql (.str AA) (.str AA)=some (.bool true):=by simp [bj,jU]
 have zd:((D.size:Int)==(D.size:Int))=true:=by simp
 have z0:((0:Int)==0)=true:=by decide
 have z8:((800:Int)==800)=true:=by decide
 refine uL (fn:=AP.f324) (h2:=g) (e:=[(0,.bool true)]) (vs:=[.bool true]) rfl rfl rfl ?_ rfl rfl
 clear ok AM tl i1 sz k5 gg eT
 simp (disch:=omega)only[go_sem,wc,AP.f324,e1,e2,k1,k2,k3,k4,k5',hN,←eg,k6,yd,n0,q1,q2,q3,zd,z0,z8]
theorem Nz (s:ByteArray):∃(A:ByteArray) (e:Int),(∀h:H,aR AP.A 325 [.str s] h=some (.bL [.str A,.int .i64 e],h))∧∀h:H,aR AP.A 170 [.str s] h=some (.bL [.str A,.int .i64 e],h):=by
 by_cases c:300<s.size
 · exact⟨⟨#[]⟩,800,fun h=>by have:=CZ h s;rw[if_pos c]at this;exact this,fun h=>I5 h s c⟩
 · exact⟨xX s,0,fun h=>by have:=CZ h s;rw[if_neg c]at this;exact this,fun h=>KL h s (by omega)⟩
theorem G3 (ts:List Tok) (hn:ts.length<9000000000000):∃(B C:ByteArray) (e:Int),∀(h:H) (v:AV),xR 3 h v ts.length (wG ts)→
 aR AP.A 326 [v] h=some (.bL [.str B,.int .i64 e],h)∧aR AP.A 171 [v] h=some (.bL [.str B,.int .i64 e],h)∧aR AP.A 327 [v] h=some (.bL [.str C,.int .i64 e],h)∧aR AP.A 13 [v] h=some (.bL [.str C,.int .i64 e],h):=by
 by_cases AM:Ag ts=true
 · obtain⟨KA,KB,KC,la,lb,Lc,ok⟩:=Pc AM
   obtain⟨_,t1,t2,_,_⟩:=Gd AM
   refine⟨bytesOf (wJ (yA ts)),bytesOf (wJ (wV ts la lb Lc)),0,fun h v rd=>⟨?_,IF h v ts AM t1 t2 rd,Mb h v ts KA KB KC la lb Lc ok rd, ?_⟩⟩
   · have:=CD h v ts (by omega) rd
     rw[if_pos AM]at this;exact this
   · exact IC h v ts KA KB KC la lb Lc ok rd
 · have few':Ag ts=false:=by simpa using AM
   refine⟨⟨#[]⟩,⟨#[]⟩,800,fun h v rd=>⟨?_,Ho h v ts (by omega) few' rd,Mc h v ts (by omega) few' rd,M6 h v ts (by omega) few' rd⟩⟩
   have:=CD h v ts (by omega) rd
   rw[if_neg AM]at this;exact this
theorem K4 (h:H) (hf:h.floor≤h.next) (s:ByteArray) (v:AV) (ts:List Tok) (hn:ts.length<9000000000000) (rd:∀g,xR 3 g v ts.length (wG ts)):aR AP.A 375 [.str s,v] h=some (.bool true,h):=by
 have n0:∀(k:Int) (g:H),aR AP.A 9 [.int .i64 k] g=some (.int .i64 k,g):=fun k g=>NP g k
 obtain⟨g,q,k1,gq,g1,g2,g3,g4⟩:=Nk h.dQ (by simp) v ts (rd _) hn
 have ka:=KZ g (by rw[g1];have:h.dQ.next=h.next:=rfl;have:h.dQ.floor=h.next:=rfl;omega)
 obtain⟨A,e,s1,s2⟩:=Nz s
 obtain⟨B,C,f,bb⟩:=G3 ts hn
 obtain⟨b1,_,b3,_⟩:=bb g (.aF q 0 ts.length 3) (H3 gq)
 obtain⟨_,b2,_,b4⟩:=bb g v (rd g)
 have kk:=Nj g q v ts gq (rd g) hn
 have s1:=s1 g
 have s2:=s2 g
 have qs:∀t:ByteArray,bj .eql (.str t) (.str t)=some (.bool true):=fun t=>by simp [bj,jU]
 have qz:∀n:Int,(n==n)=true:=fun n=>by simp
 refine uL (fn:=AP.f375) (h2:=g) (e:=[(4,.bool true)]) (vs:=[.bool true]) rfl rfl rfl ?_ rfl rfl
 clear rd bb gq g4
 simp (disch:=omega)only[go_sem,wc,AP.f375,k1,s1,s2,b1,b2,b3,b4,kk,ka,n0,qs,qz]
theorem IJ (r:List (Ty×List AV)) (h:r.map (·.1)=[QD,JV]) (hp:∀x∈r,Sh reachBytes x.1 x.2):aR AP.A 375 (r.map jT) H.empty=some (.bool true,H.empty):=by
 obtain⟨x,y,rfl,h1,h2⟩:=Ua h hp
 obtain⟨s,rfl,_⟩:=Qz h1
 obtain⟨v,ts,rfl,hv,rd,hn⟩:=Ny h2
 exact K4 H.empty (vB _) s v ts (by omega) rd
end Ab
