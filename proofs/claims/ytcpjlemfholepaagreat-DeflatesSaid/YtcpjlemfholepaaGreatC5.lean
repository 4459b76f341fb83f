/- Part C5. -/
import Derived.Test.YtcpjlemfholepaaGreatC4
set_option linter.unusedSimpArgs false
set_option linter.unusedVariables false
set_option maxRecDepth 100000
namespace Ab
open Go
theorem Gv {w:AV} {v1 v2 av:AV} {D:List Int} (hD:D.length<1000) (hr:∀d∈D,0≤d∧d<19) (ic:Nat) (hb:H) (rd:Rd hb av (ints D)) (hno:hb.get ic=none):∀(q p C:List Int) (h:H),D=p++q→Ext hb h→h.get ic=some (ints C)→C.length=19→(∀y∈C,0≤y∧y≤(p.length:Int))→h.floor≤ic→
 ∃h',Lp AP.A [0,1,2,6,7,28,29,30] AP.f341L3 [(0,w),(1,v1),(2,v2),(6,av),(7,.aE ic 0 19 1),(28,av),(29,.int .i64 D.length),(30,.int .i64 p.length)] h=some (.exit 0,[(0,w),(1,v1),(2,v2),(6,av),(7,.aE ic 0 19 1),(28,av),(29,.int .i64 D.length),(30,.int .i64 D.length),(31,.bool false)],h')∧h'.get ic=some (ints (xU q C))∧h'.floor=h.floor∧h'.next=h.next∧(∀i,i≠ic→h'.get i=h.get i)
 | [], p, C, h, hp, hx, gc, hC, rC, fc => by
   rw[XZ]at hp;subst hp
   refine⟨h,tM ?_,gc,rfl,rfl,fun _ _=>rfl⟩
   simp (disch:=omega)only[go_sem,vT,AP.f341L3]
 | d :: q, p, C, h, hp, hx, gc, hC, rC, fc => by
   have hl:D.length=p.length+(q.length+1):=by rw[hp];simp
   obtain⟨ad,a1,a2⟩:=rd.xi
   have b1:=a1 p.length ⟨by omega,by omega⟩
   have hd:D[p.length]?=some d:=by rw[hp];simp
   have b2:=a2 h hx p.length d hd
   have dr:=hr d (vq hd)
   have c1:((p.length:Nat):Int)<D.length:=by omega
   obtain⟨k,rfl⟩:=XT dr.1
   have gx:=zu (l:=C) (i:=k) (by omega)
   have xr:0≤C.getD k 0∧C.getD k 0≤(p.length:Int):=by
    rw[XN,XQ (by omega)]
    exact rC _ (X4 _)
   have es:=xj C k (C.getD k 0+1)
   change _=ints (xz C k)at es
   have lC:(ints C).length=19:=by rw[pY,hC]
   have ib:cN (.int .i64 (k:Nat)) 19=some k:=by simp [cN,nR];omega
   obtain⟨h',L,g1,f1,n1,k1⟩:=Gv hD hr ic hb rd hno q (p++[(k:Int)]) (xz C k) (h.set ic (ints (xz C k))) (by rw[hp];simp) (hx.Df hno _) (by rw[v9 rfl,gc];rfl) (by rw[yo,hC]) (fun y hy=>by
    have:=z5 rC (by omega) y hy
    simp;omega) (by simpa using fc)
   have e1:xU ((k:Int)::q) C=xU q (xz C k):=by rw[xU];rfl
   refine⟨h',tN ?_ L,by rw[e1];exact g1,by rw[f1];simp,by rw[n1];simp,fun i hi=>by rw[k1 i hi,vN hi]⟩
   have n2:(((p++[(k:Int)]).length:Nat):Int)=(p.length:Int)+1:=by simp
   rw[n2]
   clear L rd a1 a2 g1 k1 rC hr hx
   generalize C.getD k 0=z at *
   generalize ints (xz C k)=C2 at *
   generalize ints C=C1 at *
   simp (disch:=omega)only[go_sem,vT,AP.f341L3,c1,b1,b2,ib,gc,lC,gx,es,fc]
theorem Gy {w v1 v2 av cv:AV} {Lc:List Int} (hL:Lc.length=19) (h0:H) (rd:Rd h0 cv (ints Lc)):∀(q p R:List Int) (h:H) (rv:AV),vQ=p++q→Ext h0 h→h.floor≤h.next→wz 1 h rv R.length (ints R)→R.length=p.length→(∀j,rv.id?=some j→h0.next≤j)→h0.next≤h.next→
 ∃h' rv',Lp AP.A [0,1,2,6,10,12,46,47,48] AP.f341L2 [(0,w),(1,v1),(2,v2),(6,av),(10,cv),(12,rv),(46,wP vQ),(47,.int .i64 19),(48,.int .i64 p.length)] h=some (.exit 2,[(0,w),(1,v1),(2,v2),(6,av),(10,cv),(12,rv'),(46,wP vQ),(47,.int .i64 19),(48,.int .i64 19),(49,.bool false)],h')∧wz 1 h' rv' (R++q.map (fun o=>Lc.getD o.toNat 0)).length (ints (R++q.map (fun o=>Lc.getD o.toNat 0)))∧h'.floor=h.floor∧h.next≤h'.next∧(∀i,i<h0.next→h'.get i=h.get i)∧(∀j,rv'.id?=some j→h0.next≤j)
 | [], p, R, h, rv, hp, hx, hfl, o, hR, hid, hn => by
   have:p.length=19:=by
    have:=Yh List.length hp
    rw[XZ]at this
    rw[←this];rfl
   rw[this]
   refine⟨h,rv,tM ?_,by simpa using o,rfl,vm _,fun _ _=>rfl,hid⟩
   have c:¬((19:Nat):Int)<19:=by omega
   simp (disch:=omega)only[go_sem,vT,AP.f341L2,c]
 | d :: q, p, R, h, rv, hp, hx, hfl, o, hR, hid, hn => by
   have hl:19=p.length+(q.length+1):=by
    have:=Yh List.length hp
    simpa [vQ]using this
   obtain⟨ad,a1,a2⟩:=(yu h vQ).xi
   have ol:vQ.length=19:=rfl
   have b1:=a1 p.length ⟨by omega,by omega⟩
   have hd:vQ[p.length]?=some d:=by rw[hp];simp
   have b2:=a2 h (Ext.refl h) p.length d hd
   have dm:d∈vQ:=vq hd
   have dr:0≤d∧d<19:=by
    have:∀y∈vQ,0≤y∧y<19:=by decide
    exact this d dm
   have c1:((p.length:Nat):Int)<19:=by omega
   obtain⟨k,rfl⟩:=XT dr.1
   obtain⟨cd,d1,d2⟩:=rd.xi
   have e1:=d1 k ⟨by omega,by omega⟩
   have lg:Lc[k]?=some (Lc.getD k 0):=by rw[XN,XQ (by omega)];rfl
   have e2:=d2 h hx k _ lg
   obtain⟨v',h1,p1,p2,p3,p4,p5,p6⟩:=o.push hfl (z:=8) (m:=1) (by omega) (by omega) [.int .i64 (Lc.getD k 0)] rfl rfl (xP (by omega))
   have hx1:Ext h0 h1:=fun i c hi=>by
    have:=h0.lt _ _ hi
    rw[p5 i (fun e=>by have:=hid i e;omega) (by omega),hx i c hi]
   have o2:wz 1 h1 v' (R++[Lc.getD k 0]).length (ints (R++[Lc.getD k 0])):=by rw[pX,vI];exact p2
   obtain⟨h',rv',L,q1,q2,q3,q4,q5⟩:=Gy hL h0 rd q (p++[(k:Int)]) (R++[Lc.getD k 0]) h1 v' (by rw[hp];simp) hx1 (by omega) o2 (by simp [hR]) (fun j hj=>by rw[p6]at hj;have:=u6 hj;omega) (by omega)
   have n2:(((p++[(k:Int)]).length:Nat):Int)=(p.length:Int)+1:=by simp
   rw[n2]at L
   refine⟨h',rv',tN ?_ L, ?_,by omega,by omega,fun i hi=>by rw[q4 i hi,p5 i (fun e=>by have:=hid i e;omega) (by omega)],q5⟩
   · clear L q1 rd a1 a2 d1 d2 o2 hx hx1 q4 p2 o
     generalize Lc.getD k 0=z at *
     simp (disch:=omega)only[go_sem,vT,AP.f341L2,c1,b1,b2,e1,e2,p1]
   · rw[XV]at q1
     exact q1
theorem Gx {h0:H} {w:Nat} {av cv:AV} {rid:Nat} {R:List Int} (hR:R.length<1000) (hr:∀y∈R,0≤y∧y<8) (rid0:rid≠w):∀(q p:List Int) (bs:List Nat) (h:H) (ov:AV) (J:List AV),R=p++q→WX h0 h w bs ov→h.get rid=some (ints R++J)→ov.id?≠some rid→bs.length+3* q.length≤60000→
 ∃h' ov',Lp AP.A [0,6,10,77,78,79] AP.f341L1 [(0,.aD w 0),(6,av),(10,cv),(77,.aE rid 0 R.length 1),(78,.int .i64 R.length),(79,.int .i64 p.length)] h=some (.exit 4,[(0,.aD w 0),(6,av),(10,cv),(77,.aE rid 0 R.length 1),(78,.int .i64 R.length),(79,.int .i64 R.length),(80,.bool false)],h')∧WX h0 h' w (bs++zJ q) ov'
 | [], p, bs, h, ov, J, hp, x, gr, hor, hb => by
   rw[XZ]at hp;subst hp
   refine⟨h,ov,tM ?_,by simpa [zJ]using x⟩
   simp (disch:=omega)only[go_sem,vT,AP.f341L1]
 | y :: q, p, bs, h, ov, J, hp, x, gr, hor, hb => by
   have hl:R.length=p.length+(q.length+1):=by rw[hp];simp
   have hy:R[p.length]?=some y:=by rw[hp];simp
   have yr:=hr y (vq hy)
   obtain⟨k,rfl⟩:=XT yr.1
   have c1:((p.length:Nat):Int)<R.length:=by omega
   have gy:(ints R++J)[p.length]?=some (.int .i64 k):=by
    rw[X2 (by rw[pY];omega)]
    exact tu hy
   have ib:cN (.int .i64 (p.length:Nat)) R.length=some p.length:=by simp [cN,nR];omega
   simp only[XO]at hb
   obtain⟨h1,o1,k1,w1,f1⟩:=zI x.wr k 3 (by omega) (by omega) (by omega)
   have lr:=h.lt _ _ gr
   obtain⟨h',ov',L,x2⟩:=Gx hR hr rid0 q (p++[(k:Int)]) (bs++wc k 3) h1 o1 J (by rw[hp];simp) (x.step w1 f1) (by rw[f1.wV rid lr rid0 hor,gr]) (fun e=>by
    rcases f1.ids rid e with z|z
    · exact hor z
    · omega) (by simp [wc,wm];omega)
   have n2:(((p++[(k:Int)]).length:Nat):Int)=(p.length:Int)+1:=by simp
   rw[n2]at L
   have k1':aR AP.A 335 [.aD w 0,.int .i64 k,.int .i64 3] h=some (.int .i64 0,h1):=k1
   refine⟨h',ov',tN ?_ L, ?_⟩
   · clear L x x2 w1 f1 k1 hr
     generalize ints R++J=P at *
     simp (disch:=omega)only[go_sem,vT,AP.f341L1,c1,ib,gr,gy,k1']
   · have:zJ ((k:Int)::q)=wc k 3++zJ q:=by simp [zJ]
     rw[this,←XV];exact x2
theorem E1 {h0 : H} {w : Nat} {cv : AV} {D : List Int} {E : List (Int × Int)} (hD : D.length < 1000) (ok : ∀ y ∈ D, 0 ≤ y ∧ B9 E y.toNat) (av : AV) (rd : Rd h0 av (ints D)) (rl : yC 2 h0 cv E.length (E.flatMap wU)) : ∀ (q p : List Int) (bs : List Nat) (h : H) (ov : AV), D = p ++ q → WX h0 h w bs ov → bs.length + 15 * q.length ≤ 60000 →
 ∃h' ov',Lp AP.A [0,17,92,93,94] AP.f341L0 [(0,.aD w 0),(17,cv),(92,av),(93,.int .i64 D.length),(94,.int .i64 p.length)] h=some (.exit 6,[(0,.aD w 0),(17,cv),(92,av),(93,.int .i64 D.length),(94,.int .i64 D.length),(95,.bool false)],h')∧WX h0 h' w (bs++zd E q) ov'∧(h.next≤h'.next)
 | [], p, bs, h, ov, hp, x, hb => by
   rw[XZ]at hp;subst hp
   refine⟨h,ov,tM ?_,by simpa [zd]using x,vm _⟩
   simp (disch:=omega)only[go_sem,vT,AP.f341L0]
 | y :: q, p, bs, h, ov, hp, x, hb => by
   have hl:D.length=p.length+(q.length+1):=by rw[hp];simp
   have hy:D[p.length]?=some y:=by rw[hp];simp
   obtain⟨y0,oy⟩:=ok y (vq hy)
   obtain⟨k,rfl⟩:=XT y0
   have tk:((k:Nat):Int).toNat=k:=by omega
   rw[tk]at oy
   have c1:((p.length:Nat):Int)<D.length:=by omega
   obtain⟨ad,a1,a2⟩:=rd.xi
   have b1:=a1 p.length ⟨by omega,by omega⟩
   have b2:=a2 h x.ext p.length _ hy
   obtain⟨le,l1,l2⟩:=rl.GP
   obtain⟨n,c,q0,q1,q2,q3,q4⟩:=oy.bits
   have e1:=l1 k ⟨by omega,by have:=oy.lt;omega⟩
   have e2:=l2 h x.ext _ _ q0
   simp only[XO]at hb
   obtain⟨h1,o1,k1,w1,f1⟩:=Ld x.wr c n q1 q2 q3 (by omega)
   obtain⟨h',ov',L,x2,nn⟩:=E1 hD ok av rd rl q (p++[(k:Int)]) (bs++yQ c n) h1 o1 (by rw[hp];simp) (x.step w1 f1) (by simp [xc];omega)
   have n2:(((p++[(k:Int)]).length:Nat):Int)=(p.length:Int)+1:=by simp
   rw[n2]at L
   have fn:=f1.next
   refine⟨h',ov',tN ?_ L, ?_,by omega⟩
   · clear L x x2 w1 f1 ok rd rl a1 a2 l1 l2
     simp (disch:=omega)only[go_sem,vT,AP.f341L0,c1,b1,b2,e1,e2,k1]
   · have:zd E ((k:Int)::q)=yQ c n++zd E q:=by
      rw[←q4];simp [zd]
     rw[this,←XV];exact x2
theorem NL {h0 h:H} {w:Nat} {bs:List Nat} {ov:AV} (x:WX h0 h w bs ov) {v1 v2:AV} {la lb Lc:List Int} {KC:Nat} (r1:Rd h0 v1 (ints la)) (r2:Rd h0 v2 (ints lb)) (sc1:v1.sc=true) (sc2:v2.sc=true) (ce1:v1.cells=[v1]) (ce2:v2.cells=[v2]) (hbs:bs.length≤100) (hla:257≤la.length∧la.length≤286) (hlb:1≤lb.length∧lb.length≤30) (hall:∀y∈la++lb,0≤y∧y<19) (rc:yc 7 KC (xE (xU (la++lb) (List.replicate 19 0)))) (ec:Lc=xe (xU (la++lb) (List.replicate 19 0)) KC) (row:∀y∈Lc,0≤y∧y<8) (cc:we Lc=0∨we Lc=302) (Au:∀y∈la++lb,B9 (vO Lc) y.toNat):
 ∃h' ov',aR AP.A 341 [.aD w 0,v1,v2] h=some (.bM [],h')∧WX h0 h' w (bs++(wc (la.length-257) 5++(wc (lb.length-1) 5++(wc (wA (vQ.map (fun o=>Lc.getD o.toNat 0)) 4 19-4) 4++(zJ ((vQ.map (fun o=>Lc.getD o.toNat 0)).take (wA (vQ.map (fun o=>Lc.getD o.toNat 0)) 4 19))++zd (vO Lc) (la++lb)))))) ov':=by
 obtain⟨D,eD⟩:∃D,D=la++lb:=⟨_,rfl⟩
 have lD:D.length=la.length+lb.length:=by rw[eD];simp
 have l1:jc false v1=some (.int .i64 la.length):=by
  have:=r1.len;rw[pY]at this;exact this
 have l2:jc false v2=some (.int .i64 lb.length):=by
  have:=r2.len;rw[pY]at this;exact this
 have lw:=h.lt _ _ x.wr.get
 have wfl:=x.wr.fl
 have wflx:=x.wr.H5
 obtain⟨h1,eh1⟩:∃g,g=h.alloc [v1,v2]:=⟨_,rfl⟩
 have n1:h1.next=h.next+1:=by rw[eh1];simp
 have f1:h1.floor=h.floor:=by rw[eh1];simp
 have k1e:∀i,i<h.next→h1.get i=h.get i:=fun i hi=>by rw[eh1,vW (by omega)]
 have k62:aR AP.A 62 [.aE h.next 0 2 1] h1=some (wP D,h1):=by
  have e1:h1.get h.next=some [v1,v2]:=by rw[eh1,vZ rfl]
  have rr:Rd h1 (.aE h.next 0 2 1) ([(v1,la),(v2,lb)].map (·.1)):=⟨by simp [aS,e1],by intro s e;cases e⟩
  have e:cat [(v1,la),(v2,lb)]=D:=by rw[eD];simp [cat]
  have up:∀i c,h0.get i=some c→h1.get i=some c:=fun i c hi=>by
   have e:=x.ext i c hi
   rw[k1e i (h.lt _ _ e),e]
  have:=EN h1 (.aE h.next 0 2 1) [(v1,la),(v2,lb)] rr (fun p hp=>by
   simp at hp
   rcases hp with rfl|rfl
   · exact r1.mono up
   · exact r2.mono up) (by rw[e];omega) (by simp) (by rw[e];omega)
  rw[e]at this;exact this
 have lnD:jc false (wP D)=some (.int .i64 D.length):=rfl
 have ko:=fun g=>La g
 have lnO:jc false (wP vQ)=some (.int .i64 19):=rfl
 obtain⟨h2,eh2⟩:∃g,g=h1.alloc (yE 19 [.int .i64 0]):=⟨_,rfl⟩
 have n2:h2.next=h.next+2:=by rw[eh2];simp;omega
 have g2:h2.get h1.next=some (ints (List.replicate 19 0)):=by rw[eh2,vZ rfl,yd]
 rw[←eD]at hall rc ec Au ⊢
 obtain⟨h3,L3,g3,f3,n3,k3⟩:=Gv (w:=.aD w 0) (v1:=v1) (v2:=v2) (av:=wP D) (by omega) hall h1.next H.empty (yu _ _) (by simp [H.empty,H.get]) D [] (List.replicate 19 0) h2 rfl (fun i c q=>by simp [H.empty,H.get]at q) g2 (by simp) (fun y hy=>by have:=X7 hy;simp;omega) (by rw[eh2];simp;omega)
 have L3':Lp AP.A [0,1,2,6,7,28,29,30] AP.f341L3 [(0,.aD w 0),(1,v1),(2,v2),(6,wP D),(7,.aE h1.next 0 19 1),(28,wP D),(29,.int .i64 D.length),(30,.int .i64 0)] h2=_:=L3
 have c1:(xU D (List.replicate 19 0)).length=19:=by rw[Br,X3]
 have c2:∀y∈xU D (List.replicate 19 0),0≤y∧y≤2147483647:=fun y hy=>by
  have:=Bs D _ 0 (by omega) (Bd 19) y hy
  omega
 have k7:=HK h3 (.aE h1.next 0 19 1) (xU D (List.replicate 19 0)) 7 KC (by omega) (by omega) (HQ g3 c1) (by omega) c2 (by have:=FR (xU D (List.replicate 19 0));omega) rc
 rw[←ec,c1]at k7
 have lLc:Lc.length=19:=by rw[ec,yS,c1]
 have f3':h3.floor=h.floor:=by rw[f3,eh2];simp;exact f1
 obtain⟨h4,rv,L2,o4,f4,n4,k4,id4⟩:=Gy (w:=.aD w 0) (v1:=v1) (v2:=v2) (av:=wP D) lLc h3 (cv:=yJ 1 19 (ints Lc)) (by have:=Ad h3 Lc;rwa [lLc]at this) vQ [] [] h3 .aP rfl (Ext.refl _) (by omega) wz.nil rfl (fun j hj=>by cases hj) (vm _)
 have L2':Lp AP.A [0,1,2,6,10,12,46,47,48] AP.f341L2 [(0,.aD w 0),(1,v1),(2,v2),(6,wP D),(10,yJ 1 19 (ints Lc)),(12,.aP),(46,wP vQ),(47,.int .i64 19),(48,.int .i64 0)] h3=_:=L2
 obtain⟨R,eR⟩:∃R,R=vQ.map (fun o=>Lc.getD o.toNat 0):=⟨_,rfl⟩
 rw[Yr,←eR]at o4
 rw[←eR]
 have lR:R.length=19:=by rw[eR];rfl
 obtain⟨rid,erv,gr,_⟩:=Ez o4 (by omega)
 have rid3:h3.next≤rid:=id4 rid (by rw[erv];rfl)
 have pR:∀y∈R,0≤y∧y<8:=fun y hy=>by
  rw[eR]at hy
  obtain⟨o,ho,rfl⟩:=X1.1 hy
  rw[XN]
  cases e:Lc[o.toNat]? with
  |none=>simp
  |some z=>exact row z (vq e)
 have kt:=Mw h4 rid R gr (by omega) (fun y hy=>(pR y hy).1) 4 (by omega)
 rw[lR]at kt
 have ur:=xB R 4 19
 obtain⟨U,eU⟩:∃U,U=wA R 4 19:=⟨_,rfl⟩
 rw[←eU]at kt ur ⊢
 have k4e:∀i,i<h.next→h4.get i=h.get i:=fun i hi=>by rw[k4 i (by omega),k3 i (by omega),eh2,vW (by omega),k1e i hi]
 have x4:WX h0 h4 w bs ov:=x.turn (by omega) (by omega) k4e
 have hon:ov.id?≠some rid:=fun q=>by have:=(x.wr.own.lt q).2;omega
 obtain⟨h5,o5,k5,w5,r5⟩:=zI x4.wr (la.length-257) 5 (by omega) (by omega) (by omega)
 have x5:=x4.step w5 r5
 have lr4:=h4.lt _ _ gr
 have g5:h5.get rid=some (ints R):=by rw[r5.wV rid lr4 (by omega) hon,gr]
 have hon5:o5.id?≠some rid:=fun e=>by
  rcases r5.ids rid e with z|z
  · exact hon z
  · omega
 obtain⟨h6,o6,k6,w6,r6⟩:=zI x5.wr (lb.length-1) 5 (by omega) (by omega) (by simp [wc,wm];omega)
 have x6:=x5.step w6 r6
 have lr5:=h5.lt _ _ g5
 have g6:h6.get rid=some (ints R):=by rw[r6.wV rid lr5 (by omega) hon5,g5]
 have hon6:o6.id?≠some rid:=fun e=>by
  rcases r6.ids rid e with z|z
  · exact hon5 z
  · omega
 obtain⟨h7,o7,k7p,w7,r7⟩:=zI x6.wr (U-4) 4 (by omega) (by omega) (by simp [wc,wm];omega)
 have x7:=x6.step w7 r7
 have lr6:=h6.lt _ _ g6
 have g7:h7.get rid=some (ints R):=by rw[r7.wV rid lr6 (by omega) hon6,g6]
 have hon7:o7.id?≠some rid:=fun e=>by
  rcases r7.ids rid e with z|z
  · exact hon6 z
  · omega
 have lT:(R.take U).length=U:=by rw[Yb];omega
 have eT:ints R=ints (R.take U)++ints (R.drop U):=by rw[←pX,List.take_append_drop]
 rw[eT]at g7
 obtain⟨h8,o8,L1,x8⟩:=Gx (av:=wP D) (cv:=yJ 1 19 (ints Lc)) (R:=R.take U) (by omega) (fun y hy=>pR y (Yt hy)) (by omega) (R.take U) [] _ h7 o7 (ints (R.drop U)) rfl x7 g7 hon7 (by simp [wc,wm];omega)
 rw[lT]at L1
 have L1':Lp AP.A [0,6,10,77,78,79] AP.f341L1 [(0,.aD w 0),(6,wP D),(10,yJ 1 19 (ints Lc)),(77,.aE rid 0 U 1),(78,.int .i64 U),(79,.int .i64 0)] h7=_:=L1
 have kc:=BI h8 (yJ 1 19 (ints Lc)) Lc (by omega) (by omega) (by have:=Ad h8 Lc;rwa [lLc]at this) cc
 obtain⟨h9,o9,L0,x9,_⟩:=E1 (by omega) (fun y hy=>⟨(hall y hy).1,Au y hy⟩) (wP D) (yu h0 D) (yI h0 Lc) D [] _ h8 o8 rfl x8 (by simp [wc,wm,BL];omega)
 have L0':Lp AP.A [0,17,92,93,94] AP.f341L0 [(0,.aD w 0),(17,zG Lc),(92,wP D),(93,.int .i64 D.length),(94,.int .i64 0)] h8=_:=L0
 refine⟨h9,o9,wF (fn:=AP.f341) (e:=[]) (vs:=[]) rfl rfl rfl ?_ rfl,by simpa only[XV]using x9⟩
 have z1:((la.length-257:Nat):Int)=(la.length:Int)-257:=by omega
 have z2:((lb.length-1:Nat):Int)=(lb.length:Int)-1:=by omega
 have z3:((U-4:Nat):Int)=(U:Int)-4:=by omega
 rw[z1]at k5
 rw[z2]at k6
 rw[z3]at k7p
 have k5':aR AP.A 335 [.aD w 0,.int .i64 ((la.length:Int)-257),.int .i64 5] h4=some (.int .i64 0,h5):=k5
 have k6':aR AP.A 335 [.aD w 0,.int .i64 ((lb.length:Int)-1),.int .i64 5] h5=some (.int .i64 0,h6):=k6
 have k7':aR AP.A 335 [.aD w 0,.int .i64 ((U:Int)-4),.int .i64 4] h6=some (.int .i64 0,h7):=k7p
 have k351:aR AP.A 351 [.aE h1.next 0 19 1,.int .i64 7] h3=some (.bM [yJ 1 19 (ints Lc),.int .i64 0],h3):=k7
 have kt':aR AP.A 342 [.aE rid 0 19 1,.int .i64 4] h4=some (.aE rid 0 U 1,h4):=kt
 have ia:(la.length:Int)≤286:=by omega
 have ib:(lb.length:Int)≤30:=by omega
 have iU:(U:Int)≤19:=by omega
 have e19:∀V,jc false (AV.aE V 0 19 1)=some (.int .i64 19):=fun _=>rfl
 rw[erv]at L2'
 rw[lR]at L2'
 clear x x4 x5 x6 x7 x8 x9 w5 w6 w7 r5 r6 r7 r1 r2 hall rc row cc Au k5 k6 k7p k7 kt L0 L1 L2 L3 o4 pR k4 k3 k4e k1e g5 g6 g7 gr eT c2 ec
 generalize wP D=ID at *
 generalize yJ 1 19 (ints Lc)=CV at *
 generalize zG Lc=EV at *
 generalize wP vQ=IO at *
 generalize (la.length:Int)=LA at *
 generalize (lb.length:Int)=LB at *
 generalize (D.length:Int)=LD at *
 simp (disch:=omega)only[go_sem,vT,AP.f341,sc1,sc2,ce1,ce2,←eh1,k62,ko,lnO,←eh2,lnD,sG,L3',k351,L2',kt',l1,l2,k5',k6',k7',Bi,L1',kc,L0']
theorem MV (p q:List Int) (n:Nat) (h:∀y∈q,y=0):xw (p++q) n=xw p n:=by
 unfold xw
 by_cases c:n=0
 · rw[if_pos c,if_pos c]
 · rw[if_neg c,if_neg c,List.countP_append]
   have:q.countP (fun x=>x==(n:Int))=0:=by
    rw[List.countP_eq_zero]
    intro y hy
    rw[h y hy]
    simp;omega
   omega
theorem D0 (p q:List Int) (h:∀y∈q,y=0):∀n,vR (p++q) n=vR p n
 |0=>rfl
 |n+1=>by rw[vR,vR,D0 p q h n,MV p q n h]
theorem MY {l:List Int} (hr:∀y∈l,0≤y) (k:Nat) (hk:k≤l.length):∀y∈l.drop (wA l k l.length),y=0:=by
 intro y hy
 obtain⟨i,hi,e⟩:=Yp.1 hy
 rw[List.getElem_drop]at e
 rw[List.length_drop]at hi
 have z:=Ah l k l.length (wA l k l.length+i) (by omega) (by omega)
 have e2:l.getD (wA l k l.length+i) 0=y:=by
  rw[XN,XQ (by omega),e];rfl
 rw[e2]at z
 have:=hr y (List.mem_of_mem_drop hy)
 omega
def H7 (E E':List (Int×Int)):Prop:=∀s,s<E.length→E'[s]?=E[s]?
theorem Ge {l:List Int} (hr:∀y∈l,0≤y) (k:Nat) (hk:k≤l.length):H7 (vO (Ak l k)) (vO l):=by
 intro s hs
 have hd:=MY hr k hk
 have cl:=AF l hk
 have ur:=xB l k l.length
 rw[zY]at hs
 have hs2:s<l.length:=by omega
 have el:l=Ak l k++l.drop (wA l k l.length):=(List.take_append_drop _ _).symm
 unfold vO
 rw[vx,vx,Yl hs,Yl hs2]
 show some (AB l s)=some (AB (Ak l k) s)
 have g:l.getD s 0=(Ak l k).getD s 0:=by
  conv=>lhs;rw[el]
  rw[XN,X2 hs,←XN]
 have f:∀n,vR l n=vR (Ak l k) n:=fun n=>by
  conv=>lhs;rw[el]
  exact D0 _ _ hd n
 have t:l.take s=(Ak l k).take s:=by
  conv=>lhs;rw[el]
  rw[List.take_append_of_le_length (by omega)]
 unfold AB
 rw[g,f,t]
theorem B9.pre {E E':List (Int×Int)} (p:H7 E E') {s:Nat} (o:B9 E s):B9 E' s∧vY E' s=vY E s:=by
 have hl:=o.lt
 have e:=p s hl
 obtain⟨n,v,h,r⟩:=o
 refine⟨⟨n,v,e.trans h,r⟩, ?_⟩
 unfold vY
 rw[XN,XN,e]
theorem HF.pre {E E' D D':List (Int×Int)} (p:H7 E E') (q:H7 D D') {t:Tok} (o:HF E D t):HF E' D' t∧wH E' D' t=wH E D t:=by
 rcases o with ⟨c0,h2,h3⟩|⟨h1,h2,h3,h4,h5,h6⟩
 · obtain⟨a,b⟩:=h3.pre p
   refine⟨.inl ⟨c0,h2,a⟩, ?_⟩
   rw[wH,wH,if_pos c0,if_pos c0,b]
 · obtain⟨a,b⟩:=h5.pre p
   obtain⟨c,d⟩:=h6.pre q
   have z:¬t.len=0:=by omega
   refine⟨.inr ⟨h1,h2,h3,h4,a,c⟩, ?_⟩
   rw[wH,wH,if_neg z,if_neg z,b,d]
theorem G9 {E E' D D':List (Int×Int)} (p:H7 E E') (q:H7 D D'):∀ts:List Tok,(∀t∈ts,HF E D t)→w9 E' D' ts=w9 E D ts
 |[],_=>rfl
 | t :: r, h => by
   have a:=((h t (by simp)).pre p q).2
   have b:=G9 p q r fun x hx=>h x (by simp [hx])
   simp only[w9,XW]at b ⊢
   rw[a,b]
theorem R5 (h : H) (v : AV) (ts : List Tok) (KA KB KC : Nat) (la lb Lc : List Int) (ok : Bh ts KA KB KC la lb Lc) (rd : yC 3 h v ts.length (wJ ts)) :
 aR AP.A 327 [v] h=some (.bM [.str (bytesOf (wD (wX ts la lb Lc))),.int .i64 0],h):=by
 obtain⟨H4,hn,tok,ra,rb,ea,eb,hall,rc,ec,hrow,ca,cb,cc,Au,MK,D8⟩:=ok
 obtain⟨_,_,_,lit,_⟩:=Nc H4
 have rd0:yC 3 h.dN v ts.length (wJ ts):=rd.mono fun i c q=>q
 have k1:=NM h.dN v ts (by omega) rd0
 rw[H4]at k1
 have k2:=Kv h.dN v ts KA KB hn tok lit ra rb rd0
 obtain⟨a1,a2,a3⟩:=KU ts hn
 obtain⟨b1,b2⟩:=KV ts hn
 obtain⟨A,eA⟩:∃A,A=xe (dA ts) KA:=⟨_,rfl⟩
 obtain⟨B,eB⟩:∃B,B=xe (dB ts) KB:=⟨_,rfl⟩
 have lA:A.length=286:=by rw[eA,yS,a1]
 have lB:B.length=30:=by rw[eB,yS,b1]
 obtain⟨fA1,fA2,fA3,fA4,fA5⟩:=zT a2 (by omega) (by omega) (by omega) ra
 obtain⟨fB1,fB2,fB3,fB4,fB5⟩:=zT b2 (by omega) (by omega) (by omega) rb
 rw[←eA]at k2 ea fA2
 rw[←eB]at k2 eb fB2
 have rgA:∀y∈A,0≤y∧y<16:=fun y hy=>by have:=fA2 y hy;omega
 have rgB:∀y∈B,0≤y∧y<16:=fun y hy=>by have:=fB2 y hy;omega
 have pA:∀y∈A,0≤y:=fun y hy=>(rgA y hy).1
 have pB:∀y∈B,0≤y:=fun y hy=>(rgB y hy).1
 have uA:=xB A 257 A.length
 have uB:=xB B 1 B.length
 have lla:la.length=wA A 257 A.length:=by rw[ea];exact AF A (by omega)
 have llb:lb.length=wA B 1 B.length:=by rw[eb];exact AF B (by omega)
 have cfA:we A=0∨we A=302:=by
  have e:=Ep pA 257 15
  rw[←ea]at e
  have hl:0≤wh A 15:=by
   rw[←e]
   unfold we at ca
   by_cases q:AL la=false
   · rw[if_pos q]at ca;omega
   · rw[if_neg q]at ca
     by_cases z:wh la 15<0
     · rw[if_pos z]at ca;omega
     · omega
  rw[yF (by omega) (by omega) rgA hl]
  split
  · exact .inl rfl
  · exact .inr rfl
 have cfB:we B=0∨we B=302:=by
  have e:=Ep pB 1 15
  rw[←eb]at e
  have hl:0≤wh B 15:=by
   rw[←e]
   unfold we at cb
   by_cases q:AL lb=false
   · rw[if_pos q]at cb;omega
   · rw[if_neg q]at cb
     by_cases z:wh lb 15<0
     · rw[if_pos z]at cb;omega
     · omega
  rw[yF (by omega) (by omega) rgB hl]
  split
  · exact .inl rfl
  · exact .inr rfl
 have prA:H7 (vO la) (vO A):=by rw[ea];exact Ge pA 257 (by omega)
 have prB:H7 (vO lb) (vO B):=by rw[eb];exact Ge pB 1 (by omega)
 obtain⟨h1,o1,k3,x1,f1⟩:=KL (h:=h.dN) rfl 2 (by omega)
 have hN:h.dN.next=h.next:=rfl
 have kt1:=GY h1 A (by omega) (by omega) pA 257 (by omega)
 have kt2:=GY h1 B (by omega) (by omega) pB 1 (by omega)
 rw[←lla]at kt1
 rw[←llb]at kt2
 have r1:Rd h.dN (.aV false (ints A) 0 la.length 1) (ints la):=by
  have:=Ew h.dN A (k:=la.length) (by omega)
  rw[show A.take la.length=la by rw[ea];unfold Ak;rw[Yb];congr 1;omega]at this
  exact this
 have r2:Rd h.dN (.aV false (ints B) 0 lb.length 1) (ints lb):=by
  have:=Ew h.dN B (k:=lb.length) (by omega)
  rw[show B.take lb.length=lb by rw[eb];unfold Ak;rw[Yb];congr 1;omega]at this
  exact this
 obtain⟨h2,o2,k4,x2⟩:=NL x1 r1 r2 rfl rfl rfl rfl (by simp [wc,wm]) ⟨by omega,by omega⟩ ⟨by omega,by omega⟩ hall rc ec hrow cc Au
 have kcA:=BI h2 (yJ 1 A.length (ints A)) A (by omega) (by omega) (Ad h2 A) cfA
 have kcB:=BI h2 (yJ 1 B.length (ints B)) B (by omega) (by omega) (Ad h2 B) cfB
 obtain⟨R,eR⟩:∃R,R=vQ.map (fun o=>Lc.getD o.toNat 0):=⟨_,rfl⟩
 have urR:=xB R 4 19
 have abl:=EB Au
 rw[←eR]at x2
 obtain⟨h3,k5⟩:=Lg (v:=v) (by omega) h.dN rd0 (yI h.dN A) (yI h.dN B) (fun t ht=>⟨((MK t ht).pre prA prB).1,tok t ht,lit t ht⟩) (D8.pre prA).1 h.dN.next _ h2 o2 x2 (by
  have:=BL (R.take (wA R 4 19))
  have:=List.length_take_le (wA R 4 19) R
  have lR:R.length=19:=by rw[eR];rfl
  rw[vI]at abl
  simp only[vI,wc,wm]
  omega)
 have e:wc 1 1++wc 2 2++(wc (la.length-257) 5++(wc (lb.length-1) 5++(wc (wA R 4 19-4) 4++(zJ (R.take (wA R 4 19))++zd (vO Lc) (la++lb)))))++(w9 (vO A) (vO B) ts++vY (vO A) 256)=wX ts la lb Lc:=by
  rw[G9 prA prB ts MK,(D8.pre prA).2]
  have:wc 1 1++wc 2 2=wc 5 3:=by decide
  rw[this]
  unfold wX
  rw[←eR]
  simp only[XV]
 rw[e]at k5
 rw[hN]at k3 k4 k5
 have k3':aR AP.A 333 [.int .i64 2] h.dN=some (.aD h.next 0,h1):=k3
 rw[lA]at kt1 kcA
 rw[lB]at kt2 kcB
 have kt1':aR AP.A 342 [yJ 1 286 (ints A),.int .i64 257] h1=_:=kt1
 have kt2':aR AP.A 342 [yJ 1 30 (ints B),.int .i64 1] h1=_:=kt2
 refine uz (fn:=AP.f327) (h2:=h3) (e:=[(2,.str (bytesOf (wD (wX ts la lb Lc)))),(3,.int .i64 0)]) (vs:=[.str (bytesOf (wD (wX ts la lb Lc))),.int .i64 0]) rfl rfl rfl ?_ rfl rfl
 clear x1 x2 r1 r2 rd rd0 e k3 kt1 kt2 Au hall rc hrow ra rb prA prB abl MK tok lit ec ea eb
 generalize bytesOf (wD (wX ts la lb Lc))=SB at *
 generalize AV.aV false (ints A) 0 la.length 1=TA at *
 generalize AV.aV false (ints B) 0 lb.length 1=TB at *
 generalize yJ 1 286 (ints A)=VA at *
 generalize yJ 1 30 (ints B)=VB at *
 generalize zG A=CA at *
 generalize zG B=CB at *
 simp (disch:=omega)only[go_sem,vT,AP.f327,k1,k2,k3',kt1',kt2',k4,kcA,kcB,k5]
theorem Jw (h:H) (ts:List Tok):yC 3 h (Aw ts) ts.length (wJ ts):=Fv (by rw[Ha])
theorem Cv (h:H) (s:ByteArray) (hs:s.size≤300) {KA KB KC:Nat} {la lb Lc:List Int} (ok:Bh (tokens s) KA KB KC la lb Lc):aR AP.A 330 [.str s] h=some (.bM [.str (wL s la lb Lc),.int .i64 0],h):=by
 have k1:=GW h.dN s
 rw[if_neg (by omega)]at k1
 have k2:=Mv h.dN s
 rw[if_neg (by omega)]at k2
 obtain⟨g,eg⟩:∃g,g=h.dN.alloc [.fn 326 [] [],.fn 327 [] []]:=⟨_,rfl⟩
 have H4:=Cj s hs
 have tl:=(CG s hs).1
 have k3:=NK g (Aw (tokens s)) (tokens s) (by omega) (Jw g _)
 rw[if_pos H4]at k3
 have k4:=R5 g (Aw (tokens s)) (tokens s) KA KB KC la lb Lc ok (Jw g _)
 have gg:g.get h.next=some [.fn 326 [] [],.fn 327 [] []]:=by rw[eg,vZ (by simp)]
 have hN:h.dN.next=h.next:=rfl
 change aR AP.A 326 [Aw (tokens s)] g=some (.bM [.str (A6 s),.int .i64 0],g)at k3
 change aR AP.A 327 [Aw (tokens s)] g=some (.bM [.str (Ek s la lb Lc),.int .i64 0],g)at k4
 have b:aY [(4,.str (xG s)),(6,Aw (tokens s))] (.cD 1 2 [.eN] [(0,(.c (.fn 326 [] []))),(1,(.c (.fn 327 [] [])))])=some ([.fn 326 [] [],.fn 327 [] []],fun i=>.aE i 0 2 1):=rfl
 unfold wL
 generalize A6 s=F at *
 generalize xG s=S at *
 generalize Ek s la lb Lc=D at *
 generalize Aw (tokens s)=TV at *
 have step:∀(FL:List AV) (B O:ByteArray) (i:Int) (f:Nat),g.get h.next=some FL→0≤i∧i<2→FL[i.toNat]?=some (.fn f [] [])→aR AP.A f [TV] g=some (.bM [.str O,.int .i64 0],g)→aL (aR AP.A) bq AP.f330L0 (ay [(4,.str B),(6,TV),(24,.aE h.next 0 2 1),(25,.int .i64 2),(26,.int .i64 i)] [4,6,24,25,26]) g=some (.normal,[(4,.str (shorter O B)),(6,TV),(24,.aE h.next 0 2 1),(25,.int .i64 2),(26,.int .i64 (i+1))],g):=by
  intro FL B O i f gF hi fe kf
  have c0:i<2:=hi.2
  unfold shorter
  have t0:cN (.int .i64 i) 2=some i.toNat:=by simp [cN,nR,hi]
  by_cases c1:O.size<B.size
  · have c1':(O.size:Int)<B.size:=by omega
    rw[if_pos c1]
    simp (disch:=omega)only[go_sem,vT,AP.f330L0,c0,t0,gF,fe,kf,xD,c1']
  · have c1':¬(O.size:Int)<B.size:=by omega
    rw[if_neg c1]
    simp (disch:=omega)only[go_sem,vT,AP.f330L0,c0,t0,gF,fe,kf,xD,c1']
 have s0:=step _ S F 0 326 gg (by omega) rfl k3
 have s1:=step _ (shorter F S) D 1 327 gg (by omega) rfl k4
 have s2:Lp AP.A [4,6,24,25,26] AP.f330L0 [(4,.str (shorter D (shorter F S))),(6,TV),(24,.aE h.next 0 2 1),(25,.int .i64 2),(26,.int .i64 2)] g=some (.exit 0,[(4,.str (shorter D (shorter F S))),(6,TV),(24,.aE h.next 0 2 1),(25,.int .i64 2),(26,.int .i64 2),(27,.bool false)],g):=by
  refine tM ?_
  simp (disch:=omega)only[go_sem,vT,AP.f330L0]
 have L:=tN s0 (tN s1 s2)
 have bs:aY [(6,TV),(4,.str S)] (.cD 1 2 [.eN] [(0,(.c (.fn 326 [] []))),(1,(.c (.fn 327 [] [])))])=some ([.fn 326 [] [],.fn 327 [] []],fun i=>.aE i 0 2 1):=rfl
 generalize shorter D (shorter F S)=T at *
 have eb:∀e:Env,aY e (.cD 1 2 [.eN] [(0,(.c (.fn 326 [] []))),(1,(.c (.fn 327 [] [])))])=some ([.fn 326 [] [],.fn 327 [] []],fun i=>.aE i 0 2 1):=fun _=>rfl
 refine uz (fn:=AP.f330) (h2:=g) (e:=[(2,.str T),(3,.int .i64 0)]) (vs:=[.str T,.int .i64 0]) rfl rfl rfl ?_ rfl rfl
 clear step s0 s1 s2 bs b gg k3 k4
 simp (disch:=omega)only[go_sem,vT,AP.f330,k1,k2,eb,hN,←eg,sG,L]
def Ca (T s:ByteArray):AV:=if T.size<s.size then .bM [.int .i64 8,.str T,.int .i64 0]else .bM [.int .i64 0,.str s,.int .i64 0]
theorem HM (h:H) (s:ByteArray) (hs:s.size≤300) {KA KB KC:Nat} {la lb Lc:List Int} (ok:Bh (tokens s) KA KB KC la lb Lc):aR AP.A 331 [.str s] h=some (Ca (wL s la lb Lc) s,h):=by
 have k:=Cv h.dN s hs ok
 unfold Ca
 generalize wL s la lb Lc=T at *
 by_cases c:T.size<s.size
 · rw[if_pos c]
   have c':(T.size:Int)<s.size:=by omega
   refine uz (fn:=AP.f331) (h2:=h.dN) (e:=[(2,.int .i64 8),(3,.str T),(4,.int .i64 0)]) (vs:=[.int .i64 8,.str T,.int .i64 0]) rfl rfl rfl ?_ rfl rfl
   clear ok
   simp (disch:=omega)only[go_sem,vT,AP.f331,k,xD,c']
 · rw[if_neg c]
   have c':¬(T.size:Int)<s.size:=by omega
   refine uz (fn:=AP.f331) (h2:=h.dN) (e:=[(2,.int .i64 0),(3,.str s),(4,.int .i64 0)]) (vs:=[.int .i64 0,.str s,.int .i64 0]) rfl rfl rfl ?_ rfl rfl
   clear ok
   simp (disch:=omega)only[go_sem,vT,AP.f331,k,xD,c']
theorem Cb (h:H) (s:ByteArray) (hs:300<s.size):aR AP.A 330 [.str s] h=some (.bM [.str ⟨#[]⟩,.int .i64 900],h):=by
 have k1:=GW h.dN s
 rw[if_pos hs]at k1
 have cb:((800:Int) !=0)=true:=by decide
 refine uz (fn:=AP.f330) (h2:=h.dN) (e:=[(2,.str ⟨#[]⟩),(3,.int .i64 900)]) (vs:=[.str ⟨#[]⟩,.int .i64 900]) rfl rfl rfl ?_ rfl rfl
 simp (disch:=omega)only[go_sem,vT,AP.f330,k1,cb]
theorem Kw (h:H) (s:ByteArray) (hs:300<s.size):aR AP.A 331 [.str s] h=some (.bM [.int .i64 0,.str ⟨#[]⟩,.int .i64 900],h):=by
 have k:=Cb h.dN s hs
 have cb:((900:Int) !=0)=true:=by decide
 refine uz (fn:=AP.f331) (h2:=h.dN) (e:=[(2,.int .i64 0),(3,.str ⟨#[]⟩),(4,.int .i64 900)]) (vs:=[.int .i64 0,.str ⟨#[]⟩,.int .i64 900]) rfl rfl rfl ?_ rfl rfl
 simp (disch:=omega)only[go_sem,vT,AP.f331,k,cb]
def Hh:ByteArray:=⟨#[97,97,97,97,97,97,97,97,97,97,97,97,97,97,97,97,97,97,97,97]⟩
theorem Oq:(xh (tokens Hh)).length≤100:=by decide+kernel
theorem RM (ts:List Tok):9≤(xh ts).length:=by
 unfold xh
 have:(vY (vO wy) 256).length=7:=by decide+kernel
 simp only[vI,wc,wm,this]
 omega
theorem QM (ts:List Tok) (la lb Lc:List Int):9≤(wX ts la lb Lc).length:=by
 unfold wX
 simp only[vI,wc,wm]
 omega
theorem OC (s:ByteArray) (la lb Lc:List Int):2≤(wL s la lb Lc).size:=by
 have h1:2≤(Ek s la lb Lc).size:=by
  have:=QM (tokens s) la lb Lc
  unfold Ek;rw[zL];omega
 have h2:2≤(A6 s).size:=by
  have:=RM (tokens s)
  unfold A6;rw[zL];omega
 have h3:=Be s
 unfold wL shorter;(repeat' split)<;>omega
theorem OD (s:ByteArray) (la lb Lc:List Int):(wL s la lb Lc).size≤(Ek s la lb Lc).size∧(wL s la lb Lc).size≤(A6 s).size∧(wL s la lb Lc).size≤(xG s).size:=by
 unfold wL shorter
 refine⟨?_, ?_, ?_⟩<;>(repeat' split)<;>omega
theorem JY {s:ByteArray} (hs:s.size≤300) {KA KB KC:Nat} {la lb Lc:List Int} (ok:Bh (tokens s) KA KB KC la lb Lc) (hlt:(wL s la lb Lc).size<s.size+5) {most:Int} (h1:(s.size:Int)≤most) (h2:most≤8192):wT (wL s la lb Lc) most=.ok (preB s s.size,(wL s la lb Lc).size):=by
 have idn:wT (Ek s la lb Lc) most=.ok (preB s s.size,(Ek s la lb Lc).size):=by
  unfold Ek
  exact I4 (s:=s) hs ok h1 h2
 have ifx:wT (A6 s) most=.ok (preB s s.size,(A6 s).size):=I5 hs h1 h2
 have ss:=Be s
 unfold wL at hlt ⊢
 rcases FB (Ek s la lb Lc) (shorter (A6 s) (xG s))with e|e
 · rw[e];exact idn
 · rw[e]at hlt ⊢
   rcases FB (A6 s) (xG s)with e2|e2
   · rw[e2];exact ifx
   · rw[e2]at hlt;omega
theorem MG {s p:ByteArray} (hs:s.size≤300) (hi:wT p s.size=.ok (preB s s.size,p.size)):yB 8 p s.size=some s:=by
 unfold yB
 rw[if_neg (by omega),if_neg (by omega),if_pos rfl,hi]
 have e:((preB s s.size).length:Int)=s.size:=by rw[yH]
 show(if((preB s s.size).length:Int)=s.size∧p.size=p.size then some (bytesOf (preB s s.size))else none)=some s
 rw[if_pos ⟨e,rfl⟩,Kx]
theorem MQ (h:H) (hf:h.floor≤h.next):aR AP.A 329 [] h=some (.bool true,h):=by
 have s20:Hh.size=20:=rfl
 obtain⟨KA,KB,KC,la,lb,Lc,ok⟩:=J5 Hh (by omega)
 have k1:=Cv h.dN Hh (by omega) ok
 have k2:=HM h.dN Hh (by omega) ok
 have le:=(OD Hh la lb Lc).2.1
 have fx:(A6 Hh).size≤13:=by
  have:=Oq
  unfold A6;rw[zL];omega
 have i1:=JY (by omega) ok (by omega) (most:=(Hh.size:Int)) (by omega) (by omega)
 have u1:=MG (by omega) i1
 have u2:yB 8 (wL Hh la lb Lc) 19=none:=by
  unfold yB
  rw[if_neg (by omega),if_neg (by omega),if_pos rfl,FX i1 (by omega) (by rw[yH];omega)]
 have pv:Ca (wL Hh la lb Lc) Hh=.bM [.int .i64 8,.str (wL Hh la lb Lc),.int .i64 0]:=by unfold Ca;rw[if_pos (by omega)]
 rw[pv]at k2
 generalize wL Hh la lb Lc=T at *
 have b7:T.size≤13:=by omega
 have k4:=Dk h.dN (by simp) 8 T 20 (by omega)
 have u1':yB 8 T 20=some Hh:=u1
 rw[u1']at k4
 have k5:=Dk h.dN (by simp) 8 T 19 (by omega)
 rw[u2]at k5
 have k6:=Dk h.dN (by simp) 1 ⟨#[]⟩ 0 (by decide)
 have u3:yB 1 ⟨#[]⟩ 0=none:=by unfold yB;rw[if_neg (by omega),if_neg (by omega),if_neg (by omega)]
 rw[u3]at k6
 obtain⟨KA',KB',KC',la',lb',Lc',ok'⟩:=J5 ⟨#[120,121]⟩ (by decide)
 have k3:=HM h.dN ⟨#[120,121]⟩ (by decide) ok'
 have pv':Ca (wL ⟨#[120,121]⟩ la' lb' Lc') ⟨#[120,121]⟩=.bM [.int .i64 0,.str ⟨#[120,121]⟩,.int .i64 0]:=by
  have:=OC ⟨#[120,121]⟩ la' lb' Lc'
  unfold Ca
  rw[if_neg]
  have:(⟨#[120,121]⟩:ByteArray).size=2:=rfl
  omega
 rw[pv']at k3
 simp only[O8]at k4 k5 k6
 have n0:∀(k:Int) (g:H),aR AP.A 9 [.int .i64 k] g=some (.int .i64 k,g):=fun k g=>Po g k
 have ea:(⟨#[97,97,97,97,97,97,97,97,97,97,97,97,97,97,97,97,97,97,97,97]⟩:ByteArray)=Hh:=rfl
 have q1:(T.toList==T.toList)=true:=by simp
 have q2:(Hh.toList==Hh.toList)=true:=by simp
 have q3:((⟨#[120,121]⟩:ByteArray).toList==(⟨#[120,121]⟩:ByteArray).toList)=true:=by simp
 have b1:bj .eql (.str T) (.str T)=some (.bool true):=by simp [bj,jQ]
 have b2:bj .eql (.str Hh) (.str Hh)=some (.bool true):=by simp [bj,jQ]
 have b3:bj .eql (.str ⟨#[120,121]⟩) (.str ⟨#[120,121]⟩)=some (.bool true):=by simp [bj,jQ]
 have z0:((0:Int)==0)=true:=by decide
 have z8:((8:Int)==8)=true:=by decide
 have z9:((900:Int)==900)=true:=by decide
 refine uz (fn:=AP.f329) (h2:=h.dN) (e:=[(0,.bool true)]) (vs:=[.bool true]) rfl rfl rfl ?_ rfl rfl
 clear ok ok' le fx i1 u1 u1' u2 pv pv' u3 q1 q2 q3
 simp (disch:=omega)only[go_sem,vT,AP.f329,ea,k1,k2,k3,k4,k5,k6,n0,b1,b2,b3,z0,z8,z9]
theorem V6 (a b:ByteArray):bj .eql (.str a) (.str b)=some (.bool (a.toList==b.toList)):=by simp [bj,jQ]
theorem OY (h:H) (s:ByteArray) (hs:s.size≤300) {KA KB KC:Nat} {la lb Lc:List Int} (ok:Bh (tokens s) KA KB KC la lb Lc):aR AP.A 154 [.str s] h=some (Ca (wL s la lb Lc) s,h):=by
 have k:=EU h.dN s hs ok
 unfold Ca
 generalize wL s la lb Lc=T at *
 by_cases c:T.size<s.size
 · rw[if_pos c]
   have c':(T.size:Int)<s.size:=by omega
   refine uz (fn:=AP.f154) (h2:=h.dN) (e:=[(2,.int .i64 8),(3,.str T),(4,.int .i64 0)]) (vs:=[.int .i64 8,.str T,.int .i64 0]) rfl rfl rfl ?_ rfl rfl
   clear ok
   simp (disch:=omega)only[go_sem,vT,AP.f154,k,xD,XS c']
 · rw[if_neg c]
   have c':¬(T.size:Int)<s.size:=by omega
   refine uz (fn:=AP.f154) (h2:=h.dN) (e:=[(2,.int .i64 0),(3,.str s),(4,.int .i64 0)]) (vs:=[.int .i64 0,.str s,.int .i64 0]) rfl rfl rfl ?_ rfl rfl
   clear ok
   simp (disch:=omega)only[go_sem,vT,AP.f154,k,xD,XP c']
theorem B7 (h:H) (s:ByteArray) (hs:300<s.size) (hb:s.size<1125899906842624):aR AP.A 163 [.str s] h=some (.bM [.str ⟨#[]⟩,.int .i64 900],h):=by
 have k1:=JO h.dN s hb
 rw[if_pos hs]at k1
 have c':(300:Int)<s.size:=by omega
 refine uz (fn:=AP.f163) (h2:=h.dN) (e:=[(2,.str ⟨#[]⟩),(3,.int .i64 900)]) (vs:=[.str ⟨#[]⟩,.int .i64 900]) rfl rfl rfl ?_ rfl rfl
 simp (disch:=omega)only[go_sem,vT,AP.f163,k1,xD,c']
theorem Ks (h:H) (s:ByteArray) (hs:300<s.size) (hb:s.size<1125899906842624):aR AP.A 154 [.str s] h=some (.bM [.int .i64 0,.str ⟨#[]⟩,.int .i64 900],h):=by
 have k:=B7 h.dN s hs hb
 have cb:((900:Int) !=0)=true:=by decide
 refine uz (fn:=AP.f154) (h2:=h.dN) (e:=[(2,.int .i64 0),(3,.str ⟨#[]⟩),(4,.int .i64 900)]) (vs:=[.int .i64 0,.str ⟨#[]⟩,.int .i64 900]) rfl rfl rfl ?_ rfl rfl
 simp (disch:=omega)only[go_sem,vT,AP.f154,k,cb]
theorem JZ (h : H) (hf : h.floor ≤ h.next) (s : ByteArray) (hb : s.size < 1125899906842624) (m : Int) (p : ByteArray) (hp : p.size < 1125899906842624) (z : Int) : aR AP.A 376 [.str s, .int .i64 m, .str p, .int .i64 z] h = some (.bool true, h) := by
 have ka:=MQ h.dN (by simp)
 have n0:∀(k:Int) (g:H),aR AP.A 9 [.int .i64 k] g=some (.int .i64 k,g):=fun k g=>Po g k
 have ku:=Dk h.dN (by simp) m p z hp
 have kv:=MF h.dN m p z hp
 obtain⟨U,e,eu⟩:∃(U:ByteArray) (e:Int),O8 (yB m p z)=.bM [.str U,.int .i64 e]:=by
  cases yB m p z with
  |some t=>exact⟨_,_,rfl⟩
  |none=>exact⟨_,_,rfl⟩
 rw[eu]at ku kv
 obtain⟨T,e1,M,P,e2,k1,k2,k3,k4⟩:∃(T:ByteArray) (e1 M:Int) (P:ByteArray) (e2:Int),aR AP.A 330 [.str s] h.dN=some (.bM [.str T,.int .i64 e1],h.dN)∧aR AP.A 163 [.str s] h.dN=some (.bM [.str T,.int .i64 e1],h.dN)∧aR AP.A 331 [.str s] h.dN=some (.bM [.int .i64 M,.str P,.int .i64 e2],h.dN)∧aR AP.A 154 [.str s] h.dN=some (.bM [.int .i64 M,.str P,.int .i64 e2],h.dN):=by
  by_cases c:300<s.size
  · exact⟨_,_,_,_,_,Cb _ s c,B7 _ s c hb,Kw _ s c,Ks _ s c hb⟩
  · obtain⟨KA,KB,KC,la,lb,Lc,ok⟩:=J5 s (by omega)
    have p1:=HM h.dN s (by omega) ok
    have p2:=OY h.dN s (by omega) ok
    have pe:∃(M:Int) (P:ByteArray),Ca (wL s la lb Lc) s=.bM [.int .i64 M,.str P,.int .i64 0]:=by
     unfold Ca;split
     · exact⟨_,_,rfl⟩
     · exact⟨_,_,rfl⟩
    obtain⟨M,P,pe⟩:=pe
    rw[pe]at p1 p2
    exact⟨_,_,_,_,_,Cv _ s (by omega) ok,EU _ s (by omega) ok,p1,p2⟩
 have q1:bj .eql (.str T) (.str T)=some (.bool true):=by rw[V6];simp
 have q2:bj .eql (.str P) (.str P)=some (.bool true):=by rw[V6];simp
 have q3:bj .eql (.str U) (.str U)=some (.bool true):=by rw[V6];simp
 have z1:(e1==e1)=true:=by simp
 have z2:(M==M)=true:=by simp
 have z3:(e2==e2)=true:=by simp
 have z4:(e==e)=true:=by simp
 refine uz (fn:=AP.f376) (h2:=h.dN) (e:=[(8,.bool true)]) (vs:=[.bool true]) rfl rfl rfl ?_ rfl rfl
 clear eu
 simp (disch:=omega)only[go_sem,vT,AP.f376,ka,k1,k2,k3,k4,ku,kv,n0,q1,q2,q3,z1,z2,z3,z4]
theorem Hw (r:List (Ty×List AV)) (h:r.map (·.1)=[MA,Ki,MA,Ki]) (hp:∀x∈r,Sh reachBytes x.1 x.2):aR AP.A 376 (r.map jP) H.empty=some (.bool true,H.empty):=by
 obtain⟨x,y,z,w,rfl,h1,h2,h3,h4⟩:=Wg h hp
 obtain⟨a,rfl,ha⟩:=NX h1
 obtain⟨b,rfl,_⟩:=NW h2
 obtain⟨c,rfl,hc⟩:=NX h3
 obtain⟨d,rfl,_⟩:=NW h4
 exact JZ H.empty (vm _) a (by omega) b c (by omega) d
end Ab
