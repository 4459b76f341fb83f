/- Part C3. -/
import Derived.Test.YtbihdlhgfnoejaaGreatDoorC2
set_option linter.unusedSimpArgs false
set_option linter.unusedVariables false
set_option maxRecDepth 100000
namespace Ab
open Go
theorem Ext.MQ {h h':H} (low:∀i,i<h.next→h'.get i=h.get i):Ext h h':=fun i c q=>by rw[low i (h.lt _ _ q)];exact q
theorem JD (h:H) (v w:AV) (a b:List Int) (ra:Rd h v (ints a)) (rb:Rd h w (ints b)) (ha:Bg a=true) (hb:Bg b=true) (hfn:h.floor≤h.next):∃h',aV AP.A 110 [v,w] h=some (.cf [.aI (h.next+1) 0 4 1,.int .i64 0],h')∧h'.get (h.next+1)=some (ints (zr a b))∧h'.floor=h.floor∧h'.next=h.next+2∧∀i,i<h.next→h'.get i=h.get i:=by
 have la:a.length=4:=by unfold Bg at ha;simp only[yc,QW]at ha;exact ha.1
 have lb:b.length=4:=by unfold Bg at hb;simp only[yc,QW]at hb;exact hb.1
 have k1:=Jg h v a ra (by omega)
 have k2:=Jg h w b rb (by omega)
 rw[ha]at k1;rw[hb]at k2
 have k3:=Jn h v a ra (by omega) (by omega) hfn
 rw[la]at k3
 obtain⟨h1,eh1⟩:∃g,g=((h.alloc []).del h.next).alloc (ints a):=⟨_,rfl⟩
 rw[←eh1]at k3
 have n1:h1.next=h.next+2:=by rw[eh1];simp
 have f1:h1.floor=h.floor:=by rw[eh1];simp
 have g1:h1.get (h.next+1)=some (ints a):=by rw[eh1];exact yS (by simp)
 have e1:Ext h h1:=fun i c q=>by
  have:=h.lt _ _ q
  rw[eh1,H.bc,if_neg (by simp;omega),H.fg,if_neg (by omega),H.bc,if_neg (by omega)];exact q
 have ln:=(rb.mono fun i c q=>e1 i c q).len
 rw[sD,lb]at ln
 obtain⟨adv,a1,a2⟩:=rb.Bb
 obtain⟨a0,b0,c0,d0,rfl⟩:=J1 la
 obtain⟨p0,p1,p2,p3,rfl⟩:=J1 lb
 obtain⟨h2,eh2⟩:∃g,g=h1.set (h.next+1) (ints [zE a0 p0,b0,c0,d0]):=⟨_,rfl⟩
 obtain⟨h3,eh3⟩:∃g,g=h2.set (h.next+1) (ints [zE a0 p0,zE b0 p1,c0,d0]):=⟨_,rfl⟩
 obtain⟨h4,eh4⟩:∃g,g=h3.set (h.next+1) (ints [zE a0 p0,zE b0 p1,zE c0 p2,d0]):=⟨_,rfl⟩
 obtain⟨h5,eh5⟩:∃g,g=h4.set (h.next+1) (ints [zE a0 p0,zE b0 p1,zE c0 p2,zE d0 p3]):=⟨_,rfl⟩
 have g2:h2.get (h.next+1)=some (ints [zE a0 p0,b0,c0,d0]):=by rw[eh2,zc rfl,g1];rfl
 have g3:h3.get (h.next+1)=some (ints [zE a0 p0,zE b0 p1,c0,d0]):=by rw[eh3,zc rfl,g2];rfl
 have g4:h4.get (h.next+1)=some (ints [zE a0 p0,zE b0 p1,zE c0 p2,d0]):=by rw[eh4,zc rfl,g3];rfl
 have g5:h5.get (h.next+1)=some (ints [zE a0 p0,zE b0 p1,zE c0 p2,zE d0 p3]):=by rw[eh5,zc rfl,g4];rfl
 have e2:Ext h h2:=by rw[eh2];exact e1.set (by omega) _
 have e3:Ext h h3:=by rw[eh3];exact e2.set (by omega) _
 have e4:Ext h h4:=by rw[eh4];exact e3.set (by omega) _
 have s0:=BE h1 (h.next+1) w adv 0 a0 p0 _ (by omega) g1 rfl rfl (by omega) (a1 0 (by simp)) (a2 h1 e1 0 _ rfl)
 have s1:=BE h2 (h.next+1) w adv 1 b0 p1 _ (by omega) g2 rfl rfl (by rw[eh2];simp;omega) (a1 1 (by simp)) (a2 h2 e2 1 _ rfl)
 have s2:=BE h3 (h.next+1) w adv 2 c0 p2 _ (by omega) g3 rfl rfl (by rw[eh3,eh2];simp;omega) (a1 2 (by simp)) (a2 h3 e3 2 _ rfl)
 have s3:=BE h4 (h.next+1) w adv 3 d0 p3 _ (by omega) g4 rfl rfl (by rw[eh4,eh3,eh2];simp;omega) (a1 3 (by simp)) (a2 h4 e4 3 _ rfl)
 have st0:h1.set (h.next+1) ((ints [a0,b0,c0,d0]).set 0 (.int .i64 (zE a0 p0)))=h2:=eh2.symm
 have IY:h2.set (h.next+1) ((ints [zE a0 p0,b0,c0,d0]).set 1 (.int .i64 (zE b0 p1)))=h3:=eh3.symm
 have st2:h3.set (h.next+1) ((ints [zE a0 p0,zE b0 p1,c0,d0]).set 2 (.int .i64 (zE c0 p2)))=h4:=eh4.symm
 have st3:h4.set (h.next+1) ((ints [zE a0 p0,zE b0 p1,zE c0 p2,d0]).set 3 (.int .i64 (zE d0 p3)))=h5:=eh5.symm
 rw[st0]at s0;rw[IY]at s1;rw[st2]at s2;rw[st3]at s3
 have fin:Lp AP.A [6,19,20,21] AP.f110L0 [(6,.aI (h.next+1) 0 4 1),(19,w),(20,.int .i64 4),(21,.int .i64 4)] h5=some (.exit 0,[(6,.aI (h.next+1) 0 4 1),(19,w),(20,.int .i64 4),(21,.int .i64 4),(22,.bool false)],h5):=by
  refine wh ?_
  simp (disch:=omega)only[go_sem,yZ,AP.f110L0]
 have lp:Lp AP.A [6,19,20,21] AP.f110L0 [(6,.aI (h.next+1) 0 4 1),(19,w),(20,.int .i64 4),(21,.int .i64 0)] h1=some (.exit 0,[(6,.aI (h.next+1) 0 4 1),(19,w),(20,.int .i64 4),(21,.int .i64 4),(22,.bool false)],h5):=
  wj s0 (wj s1 (wj s2 (wj s3 fin)))
 simp only[I]at ln
 have ln':j6 false w=some (.int .i64 4):=ln
 refine⟨h5,wF (fn:=AP.f110) (h2:=h5) (e:=[(4,.aI (h.next+1) 0 4 1),(5,.int .i64 0)]) (vs:=[.aI (h.next+1) 0 4 1,.int .i64 0]) rfl rfl rfl ?_ rfl,g5,by rw[eh5,eh4,eh3,eh2];simp [f1],by rw[eh5,eh4,eh3,eh2];simp [n1],fun i hi=>by rw[eh5,yX (by omega),eh4,yX (by omega),eh3,yX (by omega),eh2,yX (by omega),eh1,H.bc,if_neg (by simp;omega),H.fg,if_neg (by omega),H.bc,if_neg (by omega)]⟩
 clear a1 a2 e1 e2 e3 e4 s0 s1 s2 s3 ra rb fin ha hb
 simp (disch:=omega)only[go_sem,yZ,AP.f110,k1,k2,k3,ln',vp,lp]
theorem FH {h h1 h2 h3 h4 h5 h6 h7 hj8 h8 h9:H} {A B W R:List AV} {va vb vj:AV} {na nb:ByteArray} {wn:Bool} {sa sb da db ca cb oo:Int}
 (lA:A.length=9) (sA:AV.aG A=true) (lB:B.length=9) (sB:AV.aG B=true)
 (ra:jj true 9 A 0=some (.agg A)) (rb:jj true 9 B 0=some (.agg B)) (rr:jj true 9 R 0=some (.agg R))
 (a0:A[0]?=some (.str na)) (a2:A[2]?=some va) (a3:A[3]?=some (.int .i64 sa)) (a4:A[4]?=some (.int .i64 da))
 (b0:B[0]?=some (.str nb)) (b2:B[2]?=some vb) (b3:B[3]?=some (.int .i64 sb)) (b4:B[4]?=some (.int .i64 db))
 (n1:h1.next=h.next+1) (n2:h2.next=h.next+2) (n3:h3.next=h.next+3) (n5:h5.next=h.next+4)
 (e1:h.alloc A=h1) (e2:h1.alloc B=h2) (e3:h2.alloc [.str ⟨#[]⟩,.bool false,.aT,.int .i64 0,.int .i64 0,.int .i64 0,.str ⟨#[]⟩,.int .i64 0,.int .i64 0]=h3)
 (ga3:h3.get h.next=some A) (gb3:h3.get (h.next+1)=some B)
 (k1:aV AP.A 96 [.agg A] h3=some (.bool true,h3)) (k2:aV AP.A 96 [.agg B] h3=some (.bool true,h3)) (cm:bH .neq (.str na) (.str nb)=some (.bool false))
 (e4:h3.alloc [.str ⟨#[]⟩,.bool false,.aT,.int .i64 0,.int .i64 0,.int .i64 0,.str ⟨#[]⟩,.int .i64 0,.int .i64 0]=h4) (gz4:h4.get (h.next+3)=some Z9)
 (st5:wZ h4 (h.next+3) 0 9 A (some Z9)=some h5)
 (ga5:h5.get h.next=some A) (gb5:h5.get (h.next+1)=some B)
 (m1:aV AP.A 109 [.int .i64 sa,.int .i64 sb] h5=some (.int .i64 ca,h5)) (m2:aV AP.A 109 [.int .i64 da,.int .i64 db] h5=some (.int .i64 cb,h5))
 (e6:h5.alloc [.int .i64 ca,.int .i64 cb]=h6) (m3:aV AP.A 108 [.aI (h.next+4) 0 2 1] h6=some (.int .i64 oo,h6)) (hw:decide (oo<0)=wn)
 (ga6:h6.get h.next=some A) (gb6:h6.get (h.next+1)=some B) (gd6:h6.get (h.next+3)=some A)
 (st7:wZ h6 (h.next+3) 0 9 B (some A)=some (h6.set (h.next+3) B)) (e7:h7=if wn then h6.set (h.next+3) B else h6)
 (ga7:h7.get h.next=some A) (gb7:h7.get (h.next+1)=some B) (gd7:h7.get (h.next+3)=some W)
 (m4:aV AP.A 110 [va,vb] h7=some (.cf [vj,.int .i64 0],hj8)) (gj8:hj8.get (h.next+3)=some W) (hj:vj.cells=[vj])
 (st8:wZ hj8 (h.next+3) 2 1 [vj] (some W)=some h8) (gd8:h8.get (h.next+3)=some R) (gc8:h8.get (h.next+2)=some Z9)
 (st9:wZ h8 (h.next+2) 0 9 R (some Z9)=some h9):
 aP (aV AP.A) bL AP.f97.body (params 0 [.agg A,.agg B]) h=some (.ret,[(4,.aH (h.next+2) 0),(5,.int .i64 0)],h9):=by
 cases wn with
 | true =>
   rw[if_pos rfl]at e7
   rw[←e7]at st7
   simp (disch:=omega)only[go_sem,yZ,AP.f97,lA,sA,lB,sB,ra,rb,rr,a0,a2,a3,a4,b0,b2,b3,b4,n1,n2,n3,n5,e1,e2,e3,ga3,gb3,k1,k2,cm,e4,gz4,st5,ga5,gb5,m1,m2,e6,m3,hw,ga6,gb6,gd6,st7,ga7,gb7,gd7,m4,gj8,hj,st8,gd8,gc8,st9]
 | false =>
   rw[if_neg (by decide)]at e7
   subst e7
   simp (disch:=omega)only[go_sem,yZ,AP.f97,lA,sA,lB,sB,ra,rb,rr,a0,a2,a3,a4,b0,b2,b3,b4,n1,n2,n3,n5,e1,e2,e3,ga3,gb3,k1,k2,cm,e4,gz4,st5,ga5,gb5,m1,m2,e6,m3,hw,ga7,gb7,gd7,m4,gj8,hj,st8,gd8,gc8,st9]
theorem Hw (h : H) (hf : h.floor ≤ h.next) (a b : zO) (va vb : AV) (sa : va.sc = true) (sb : vb.sc = true) (oka : Av h (a, va)) (okb : Av h (b, vb)) (hm : zy a b = none) :
 ∃h',aV AP.A 97 [.agg (yL a va),.agg (yL b vb)] h=some (.cf [.agg (yL zw .aT),.int .i64 1500],h')∧h'.floor=h.floor∧h'.next=h.next+3∧∀i,i<h.next→h'.get i=h.get i:=by
 obtain⟨h1,eh1⟩:∃g,g=h.alloc (yL a va):=⟨_,rfl⟩
 obtain⟨h2,eh2⟩:∃g,g=h1.alloc (yL b vb):=⟨_,rfl⟩
 obtain⟨h3,eh3⟩:∃g,g=h2.alloc (yL zw .aT):=⟨_,rfl⟩
 have x1:Ext h h1:=fun i c q=>by rw[eh1];exact((Ext.refl h).alloc _) i c q
 have x2:Ext h h2:=by rw[eh2];exact x1.alloc _
 have x3:Ext h h3:=by rw[eh3];exact x2.alloc _
 have n1:h1.next=h.next+1:=by rw[eh1];simp
 have n2:h2.next=h.next+2:=by rw[eh2];simp [n1]
 have n3:h3.next=h.next+3:=by rw[eh3];simp [n2]
 have f3:h3.floor=h.floor:=by rw[eh3,eh2,eh1];simp
 have ga3:h3.get h.next=some (yL a va):=by rw[eh3,yR (by omega),eh2,yR (by omega),eh1,yS (by simp)]
 have gb3:h3.get (h.next+1)=some (yL b vb):=by rw[eh3,yR (by omega),eh2,yS (by omega)]
 have gc3:h3.get (h.next+2)=some (yL zw .aT):=by rw[eh3,yS (by omega)]
 have k1:=BN h3 (by omega) a va sa (oka.mono x3)
 have k2:=BN h3 (by omega) b vb sb (okb.mono x3)
 have ra:jj true 9 (yL a va) 0=some (.agg (yL a va)):=rfl
 have rb:jj true 9 (yL b vb) 0=some (.agg (yL b vb)):=rfl
 have cm:bH .neq (.str a.name) (.str b.name)=some (.bool (!(a.name.data.toList==b.name.data.toList))):=Bf _ _
 have e3e:h2.alloc [.str ⟨#[]⟩,.bool false,.aT,.int .i64 0,.int .i64 0,.int .i64 0,.str ⟨#[]⟩,.int .i64 0,.int .i64 0]=h3:=eh3.symm
 unfold zy at hm
 have hbad:(zK a&&(zK b&&(a.name.data.toList==b.name.data.toList)))=false:=by
  cases hq:(zK a&&(zK b&&(a.name.data.toList==b.name.data.toList)))with
  |false=>rfl
  |true=>rw[hq,if_pos rfl]at hm;cases hm
 clear hm
 obtain⟨h4,eh4⟩:∃g,g=h3.set (h.next+2) (yL zw .aT):=⟨_,rfl⟩
 have g4:h4.get (h.next+2)=some (yL zw .aT):=by rw[eh4,zc rfl,gc3];rfl
 have e4e:h3.set (h.next+2) [.str ⟨#[]⟩,.bool false,.aT,.int .i64 0,.int .i64 0,.int .i64 0,.str ⟨#[]⟩,.int .i64 0,.int .i64 0]=h4:=eh4.symm
 refine⟨h4,wF (fn:=AP.f97) (h2:=h4) (e:=[(4,.aH (h.next+2) 0),(5,.int .i64 1500)]) (vs:=[.agg (yL zw .aT),.int .i64 1500]) rfl rfl rfl ?_ ?_,by rw[eh4];simp [f3],by rw[eh4];simp [n3],fun i hi=>by rw[eh4,yX (by omega),eh3,yR (by omega),eh2,yR (by omega),eh1,yR (by omega)]⟩
 · clear x1 x2 x3 oka okb g4
   generalize zK a=B1 at *
   generalize zK b=B2 at *
   generalize (a.name.data.toList==b.name.data.toList)=B3 at *
   simp only[yL,zw]at *
   cases B1 with
   |false=>simp (disch:=omega)only[go_sem,yZ,AP.f97,sa,sb,←eh1,n1,←eh2,n2,e3e,ga3,gb3,gc3,ra,rb,k1,k2,cm,e4e,f3]
   | true =>
     cases B2 with
     |false=>simp (disch:=omega)only[go_sem,yZ,AP.f97,sa,sb,←eh1,n1,←eh2,n2,e3e,ga3,gb3,gc3,ra,rb,k1,k2,cm,e4e,f3]
     | true =>
       cases B3 with
       |false=>simp (disch:=omega)only[go_sem,yZ,AP.f97,sa,sb,←eh1,n1,←eh2,n2,e3e,ga3,gb3,gc3,ra,rb,k1,k2,cm,e4e,f3]
       |true=>cases hbad
 · simp only[AP.f97,di,pG,pf,nE,ne_eq,Nat.reduceEqDiff,not_false_eq_true,ue,g4,v7]
   rfl
set_option maxHeartbeats 1600000 in
theorem Dz (h:H) (hf:h.floor≤h.next) (a b:zO) (va vb:AV) (sa:va.sc=true) (sb:vb.sc=true) (oka:Av h (a,va)) (okb:Av h (b,vb)):
 match zy a b with
  |some r=>∃h',aV AP.A 97 [.agg (yL a va),.agg (yL b vb)] h=some (.cf [.agg (yL r (.aI (h.next+6) 0 4 1)),.int .i64 0],h')∧h'.get (h.next+6)=some (ints r.vec)∧h'.floor=h.floor∧h'.next=h.next+7∧∀i,i<h.next→h'.get i=h.get i
  |none=>∃h',aV AP.A 97 [.agg (yL a va),.agg (yL b vb)] h=some (.cf [.agg (yL zw .aT),.int .i64 1500],h')∧h'.floor=h.floor∧h'.next=h.next+3∧∀i,i<h.next→h'.get i=h.get i:=by
 obtain⟨h1,eh1⟩:∃g,g=h.alloc (yL a va):=⟨_,rfl⟩
 obtain⟨h2,eh2⟩:∃g,g=h1.alloc (yL b vb):=⟨_,rfl⟩
 obtain⟨h3,eh3⟩:∃g,g=h2.alloc (yL zw .aT):=⟨_,rfl⟩
 have x1:Ext h h1:=fun i c q=>by rw[eh1];exact((Ext.refl h).alloc _) i c q
 have x2:Ext h h2:=by rw[eh2];exact x1.alloc _
 have x3:Ext h h3:=by rw[eh3];exact x2.alloc _
 have n1:h1.next=h.next+1:=by rw[eh1];simp
 have n2:h2.next=h.next+2:=by rw[eh2];simp [n1]
 have n3:h3.next=h.next+3:=by rw[eh3];simp [n2]
 have f3:h3.floor=h.floor:=by rw[eh3,eh2,eh1];simp
 have ga3:h3.get h.next=some (yL a va):=by rw[eh3,yR (by omega),eh2,yR (by omega),eh1,yS (by simp)]
 have gb3:h3.get (h.next+1)=some (yL b vb):=by rw[eh3,yR (by omega),eh2,yS (by omega)]
 have gc3:h3.get (h.next+2)=some (yL zw .aT):=by rw[eh3,yS (by omega)]
 have k1:=BN h3 (by omega) a va sa (oka.mono x3)
 have k2:=BN h3 (by omega) b vb sb (okb.mono x3)
 have ra:jj true 9 (yL a va) 0=some (.agg (yL a va)):=rfl
 have rb:jj true 9 (yL b vb) 0=some (.agg (yL b vb)):=rfl
 have cm:bH .neq (.str a.name) (.str b.name)=some (.bool (!(a.name.data.toList==b.name.data.toList))):=Bf _ _
 have e3e:h2.alloc [.str ⟨#[]⟩,.bool false,.aT,.int .i64 0,.int .i64 0,.int .i64 0,.str ⟨#[]⟩,.int .i64 0,.int .i64 0]=h3:=eh3.symm
 cases hq:(zK a&&(zK b&&(a.name.data.toList==b.name.data.toList)))with
 | false =>
   have hn:zy a b=none:=by unfold zy;rw[hq];rfl
   rw[hn]
   exact Hw h hf a b va vb sa sb oka okb hn
 | true =>
   have hm:zy a b=some {(if BU a b then b else a)with vec:=zr a.vec b.vec}:=by unfold zy;rw[if_pos hq]
   rw[hm]
   simp only[yc]at hq
   obtain⟨q1,q2,q3⟩:=hq
   rw[q1]at k1;rw[q2]at k2;rw[q3]at cm
   clear hm
   obtain⟨h4,eh4⟩:∃g,g=h3.alloc (yL zw .aT):=⟨_,rfl⟩
   obtain⟨h5,eh5⟩:∃g,g=h4.set (h.next+3) (yL a va):=⟨_,rfl⟩
   obtain⟨h6,eh6⟩:∃g,g=h5.alloc (ints [Dh a.yW b.yW,Dh a.node b.node]):=⟨_,rfl⟩
   obtain⟨w,ew⟩:∃w,w=if BU a b then(b,vb)else(a,va):=⟨_,rfl⟩
   obtain⟨h7,eh7⟩:∃g,g=if BU a b then h6.set (h.next+3) (yL b vb)else h6:=⟨_,rfl⟩
   obtain⟨r,er⟩:∃r:zO,r={(if BU a b then b else a)with vec:=zr a.vec b.vec}:=⟨_,rfl⟩
   have x4:Ext h h4:=by rw[eh4];exact x3.alloc _
   have x5:Ext h h5:=by rw[eh5];exact x4.set (by omega) _
   have x6:Ext h h6:=by rw[eh6];exact x5.alloc _
   have x7 : Ext h h7 := by rw [eh7]; split; · exact x6.set (by omega) _
                            exact x6
   have n4:h4.next=h.next+4:=by rw[eh4];simp [n3]
   have n5:h5.next=h.next+4:=by rw[eh5];simp [n4]
   have n6:h6.next=h.next+5:=by rw[eh6];simp [n5]
   have f4:h4.floor=h.floor:=by rw[eh4];simp [f3]
   have f5:h5.floor=h.floor:=by rw[eh5];simp [f4]
   have f6:h6.floor=h.floor:=by rw[eh6];simp [f5]
   have f7:h7.floor=h.floor:=by rw[eh7];split<;>simp [f6]
   have n7:h7.next=h.next+5:=by rw[eh7];split<;>simp [n6]
   obtain⟨hj8,m4,gv8,fj8,nj8,low8⟩:=JD h7 va vb a.vec b.vec (oka.mono x7).vec (okb.mono x7).vec (Bq q1) (Bq q2) (by omega)
   have xj8:=Ext.MQ low8
   have e67:h7.next+1=h.next+6:=by omega
   rw[e67]at m4 gv8
   obtain⟨vj,hvj⟩:∃x,x=AV.aI (h.next+6) 0 4 1:=⟨_,rfl⟩
   rw[←hvj]at m4
   obtain⟨h8,eh8⟩:∃g,g=hj8.set (h.next+3) (yL r vj):=⟨_,rfl⟩
   obtain⟨h9,eh9⟩:∃g,g=h8.set (h.next+2) (yL r vj):=⟨_,rfl⟩
   have f8:h8.floor=h.floor:=by rw[eh8];simp [fj8,f7]
   have gz4:h4.get (h.next+3)=some (yL zw .aT):=by rw[eh4,yS (by omega)]
   have g5:∀i,i≠h.next+3→i<h.next+3→h5.get i=h3.get i:=fun i hi hl=>by rw[eh5,yX hi,eh4,yR (by omega)]
   have gd5:h5.get (h.next+3)=some (yL a va):=by rw[eh5,zc rfl,gz4];rfl
   have ga5:h5.get h.next=some (yL a va):=by rw[g5 _ (by omega) (by omega),ga3]
   have gb5:h5.get (h.next+1)=some (yL b vb):=by rw[g5 _ (by omega) (by omega),gb3]
   have g6:∀i,i<h.next+4→h6.get i=h5.get i:=fun i hl=>by rw[eh6,yR (by omega)]
   have ga6:h6.get h.next=some (yL a va):=by rw[g6 _ (by omega),ga5]
   have gb6:h6.get (h.next+1)=some (yL b vb):=by rw[g6 _ (by omega),gb5]
   have gd6:h6.get (h.next+3)=some (yL a va):=by rw[g6 _ (by omega),gd5]
   have g7 : ∀ i, i ≠ h.next + 3 → h7.get i = h6.get i := fun i hi => by rw [eh7]; split; · rw [yX hi]
                                                                         rfl
   have ga7:h7.get h.next=some (yL a va):=by rw[g7 _ (by omega),ga6]
   have gb7:h7.get (h.next+1)=some (yL b vb):=by rw[g7 _ (by omega),gb6]
   have gd7:h7.get (h.next+3)=some (yL w.1 w.2):=by
    rw[eh7,ew];split
    · rw[zc rfl,gd6];rfl
    · exact gd6
   have gj8:hj8.get (h.next+3)=some (yL w.1 w.2):=xj8 _ _ gd7
   have gc7:h7.get (h.next+2)=some (yL zw .aT):=by rw[g7 _ (by omega),g6 _ (by omega),g5 _ (by omega) (by omega),gc3]
   have gc8:h8.get (h.next+2)=some (yL zw .aT):=by rw[eh8,yX (by omega)];exact xj8 _ _ gc7
   have gd8:h8.get (h.next+3)=some (yL r vj):=by rw[eh8,zc rfl,gj8];rfl
   have gc9:h9.get (h.next+2)=some (yL r vj):=by rw[eh9,zc rfl,gc8];rfl
   have m1:=JW h5 a.yW b.yW
   have m2:=JW h5 a.node b.node
   have rd6:Rd h6 (.aI (h.next+4) 0 2 1) (ints [Dh a.yW b.yW,Dh a.node b.node]):=by
    refine⟨?_,fun _=>by simp⟩
    simp only[aW,if_true]
    rw[eh6,yS (by omega)];rfl
   have m3:=Ql h6 (.aI (h.next+4) 0 2 1) _ _ rd6
   have wn:=MY a b
   have st8:setFrom (yL w.1 w.2) 2 vj.cells=yL r vj:=by
    have hc:vj.cells=[vj]:=by rw[hvj];rfl
    rw[hc,ew,er]
    cases BU a b<;>rfl
   have sv:vj.sc=true:=by rw[hvj];rfl
   have hc:vj.cells=[vj]:=by rw[hvj];rfl
   have sw:AV.aG (yL w.1 w.2)=true:=by rw[ew];split<;>simp [yL,sa,sb]
   have rr:jj true 9 (yL r vj) 0=some (.agg (yL r vj)):=rfl
   have lr:(yL r vj).length=9:=rfl
   have lw:(yL w.1 w.2).length=9:=rfl
   have s4e:h3.alloc [.str ⟨#[]⟩,.bool false,.aT,.int .i64 0,.int .i64 0,.int .i64 0,.str ⟨#[]⟩,.int .i64 0,.int .i64 0]=h4:=eh4.symm
   have st5:wZ h4 (h.next+3) 0 9 (yL a va) (some (yL zw .aT))=some h5:=by rw[eh5];exact zD (by omega) rfl rfl (by simp [yL,sa])
   have st7:wZ h6 (h.next+3) 0 9 (yL b vb) (some (yL a va))=some (h6.set (h.next+3) (yL b vb)):=zD (by omega) rfl rfl (by simp [yL,sb])
   have st8':wZ hj8 (h.next+3) 2 1 [vj] (some (yL w.1 w.2))=some h8:=by
    rw[xG (by omega) (by rw[lw];omega) sv]
    rw[hc]at st8
    have:setFrom (yL w.1 w.2) 2 [vj]=(yL w.1 w.2).set 2 vj:=rfl
    rw[←this,st8,eh8]
   have st9:wZ h8 (h.next+2) 0 9 (yL r vj) (some (yL zw .aT))=some h9:=by rw[eh9];exact zD (by omega) rfl rfl (by simp [yL,sv])
   have ca3:(yL a va)[3]?=some (.int .i64 a.yW):=rfl
   have ca4:(yL a va)[4]?=some (.int .i64 a.node):=rfl
   have ca2:(yL a va)[2]?=some va:=rfl
   have ca0:(yL a va)[0]?=some (.str a.name):=rfl
   have cb3:(yL b vb)[3]?=some (.int .i64 b.yW):=rfl
   have cb4:(yL b vb)[4]?=some (.int .i64 b.node):=rfl
   have cb2:(yL b vb)[2]?=some vb:=rfl
   have cb0:(yL b vb)[0]?=some (.str b.name):=rfl
   have e1e:h.alloc (yL a va)=h1:=eh1.symm
   have e2e:h1.alloc (yL b vb)=h2:=eh2.symm
   have e6e:h5.alloc [.int .i64 (Dh a.yW b.yW),.int .i64 (Dh a.node b.node)]=h6:=eh6.symm
   have hvr:r.vec=zr a.vec b.vec:=by rw[er]
   have low9:∀i,i<h.next→h9.get i=h.get i:=fun i hi=>by rw[eh9,yX (by omega),eh8,yX (by omega),low8 i (by omega),g7 i (by omega),g6 i (by omega),g5 i (by omega) (by omega),eh3,yR (by omega),eh2,yR (by omega),eh1,yR (by omega)]
   refine⟨h9, ?_,by rw[eh9,yX (by omega),eh8,yX (by omega)];exact gv8,by rw[eh9];simp [f8],by rw[eh9,eh8];simp [nj8,n7],low9⟩
   have:=wF (A:=AP.A) (f:=97) (fn:=AP.f97) (args:=[.agg (yL a va),.agg (yL b vb)]) (h:=h) (h2:=h9) (e:=[(4,.aH (h.next+2) 0),(5,.int .i64 0)]) (vs:=[.agg (yL r vj),.int .i64 0]) rfl rfl rfl
    (FH rfl (by simp [yL,sa]) rfl (by simp [yL,sb]) ra rb rr ca0 ca2 ca3 ca4 cb0 cb2 cb3 cb4 n1 n2 n3 n5 e1e e2e e3e ga3 gb3 k1 k2 cm s4e gz4 st5 ga5 gb5 m1 m2 e6e m3 wn ga6 gb6 gd6 st7 eh7 ga7 gb7 gd7 m4 gj8 hc st8' gd8 gc8 st9) (by
    simp only[AP.f97,di,pG,pf,nE,ne_eq,Nat.reduceEqDiff,not_false_eq_true,ue,gc9,v7,rr]
    rfl)
   rw[this,←er,hvj];rfl
set_option maxHeartbeats 4000000 in
theorem Ha (h:H):aV AP.A 95 [] h=some (.bool true,h):=by
 obtain⟨A,hA⟩:∃x,x=yL eA (AM [1,0,0,0]):=⟨_,rfl⟩
 obtain⟨B,hB⟩:∃x,x=yL eB (AM [0,0,1,0]):=⟨_,rfl⟩
 obtain⟨C,hC⟩:∃x,x=yL eC (AM [1,0,0,0]):=⟨_,rfl⟩
 have lA:A.length=9:=by rw[hA];rfl
 have lB:B.length=9:=by rw[hB];rfl
 have cA:AV.aG A=true:=by rw[hA];exact zZ (AQ _)
 have cB:AV.aG B=true:=by rw[hB];exact zZ (AQ _)
 have tA:List.take 9 A=A:=by rw[hA];rfl
 have tB:List.take 9 B=B:=by rw[hB];rfl
 have s1:∀g,aV AP.A 99 [.str ⟨#[97]⟩,.int .i64 0,.int .i64 1,.str ⟨#[104,105]⟩] g=some (.agg A,g):=fun g=>by rw[hA];exact EZ g nA I8 0 1 (by omega) (by decide)
 have s2:∀g,aV AP.A 99 [.str ⟨#[97]⟩,.int .i64 2,.int .i64 1,.str ⟨#[104,111]⟩] g=some (.agg B,g):=fun g=>by rw[hB];exact EZ g nA Na 2 1 (by omega) (by decide)
 have s3:∀g,aV AP.A 99 [.str ⟨#[98]⟩,.int .i64 0,.int .i64 1,.str ⟨#[]⟩] g=some (.agg C,g):=fun g=>by rw[hC];exact EZ g nB ⟨#[]⟩ 0 1 (by omega) (by decide)
 have okA:∀g,Av g (eA,AM [1,0,0,0]):=fun g=>Av.au (e:=eA) rfl (by decide) (by decide)
 have okB':∀g,Av g (eB,AM [0,0,1,0]):=fun g=>Av.au (e:=eB) rfl (by decide) (by decide)
 have okC:∀g,Av g (eC,AM [1,0,0,0]):=fun g=>Av.au (e:=eC) rfl (by decide) (by decide)
 have k1:∀g:H,g.floor≤g.next→aV AP.A 100 [.agg A] g=some (.cf [.str ⟨#[104,105]⟩,.int .i64 0],g):=fun g hg=>by
  have:=EN g hg eA (AM [1,0,0,0]) (AQ _) (okA g)
  rw[QG]at this
  rw[hA];exact this
 obtain⟨KB,hKB⟩:∃K,K=((A8 Na:Nat):Int):=⟨_,rfl⟩
 have fill:∀g:H,∀n:Nat,∃h':H,h'.floor=g.floor∧h'.next=g.next+n∧∀i,i<g.next→h'.get i=g.get i:=fun g n=>by
  induction n with
  |zero=>exact⟨g,rfl,rfl,fun _ _=>rfl⟩
  | succ n ih =>
    obtain⟨h',q1,q2,q3⟩:=ih
    exact⟨h'.alloc [],by simp [q1],by simp [q2];omega,fun i hi=>by rw[yR (by omega)];exact q3 i hi⟩
 have xMH:∀g:H,∃h':H,(g.floor≤g.next→aV AP.A 97 [.agg A,.agg B] g=some (.cf [.agg [.str nA,.bool false,.aI (g.next+6) 0 4 1,.int .i64 1,.int .i64 2,.int .i64 0,.str Na,.int .i64 2,.int .i64 KB],.int .i64 0],h'))∧h'.get (g.next+6)=some [.int .i64 1,.int .i64 0,.int .i64 1,.int .i64 0]∧h'.floor=g.floor∧h'.next=g.next+7∧∀i,i<g.next→h'.get i=g.get i:=by
  intro g
  by_cases hg:g.floor≤g.next
  · have:=Dz g hg eA eB (AM [1,0,0,0]) (AM [0,0,1,0]) (AQ _) (AQ _) (okA g) (okB' g)
    rw[QA]at this
    obtain⟨h',q1,q2,q3,q4,q5⟩:=this
    exact⟨h',fun _=>by rw[hA,hB,q1,hKB];rfl,q2,q3,q4,q5⟩
  · obtain⟨h',q1,q2,q3⟩:=fill g 6
    exact⟨h'.alloc [.int .i64 1,.int .i64 0,.int .i64 1,.int .i64 0],fun q=>absurd q hg,by rw[yS (by omega)],by simp [q1],by simp [q2],fun i hi=>by rw[yR (by omega)];exact q3 i hi⟩
 obtain⟨MH,hM2⟩:∃MH:H→H,∀g:H,(g.floor≤g.next→aV AP.A 97 [.agg A,.agg B] g=some (.cf [.agg [.str nA,.bool false,.aI (g.next+6) 0 4 1,.int .i64 1,.int .i64 2,.int .i64 0,.str Na,.int .i64 2,.int .i64 KB],.int .i64 0],MH g))∧(MH g).get (g.next+6)=some [.int .i64 1,.int .i64 0,.int .i64 1,.int .i64 0]∧(MH g).floor=g.floor∧(MH g).next=g.next+7∧∀i,i<g.next→(MH g).get i=g.get i:=⟨fun g=>Classical.choose (xMH g),fun g=>yo (xMH g)⟩
 have xNH:∀g:H,∃h':H,(g.floor≤g.next→aV AP.A 97 [.agg A,.agg C] g=some (.cf [.agg (yL zw .aT),.int .i64 1500],h'))∧h'.floor=g.floor∧h'.next=g.next+3∧∀i,i<g.next→h'.get i=g.get i:=by
  intro g
  by_cases hg:g.floor≤g.next
  · have:=Dz g hg eA eC (AM [1,0,0,0]) (AM [1,0,0,0]) (AQ _) (AQ _) (okA g) (okC g)
    rw[QB]at this
    obtain⟨h',q1,q3,q4,q5⟩:=this
    exact⟨h',fun _=>by rw[hA,hC];exact q1,q3,q4,q5⟩
  · obtain⟨h',q1,q2,q3⟩:=fill g 3
    exact⟨h',fun q=>absurd q hg,q1,q2,q3⟩
 obtain⟨NH,hN2⟩:∃NH:H→H,∀g:H,(g.floor≤g.next→aV AP.A 97 [.agg A,.agg C] g=some (.cf [.agg (yL zw .aT),.int .i64 1500],NH g))∧(NH g).floor=g.floor∧(NH g).next=g.next+3∧∀i,i<g.next→(NH g).get i=g.get i:=⟨fun g=>Classical.choose (xNH g),fun g=>yo (xNH g)⟩
 have k2:=fun g=>(hM2 g).1
 have m2g:=fun g (i:Nat) (hi:i=g.next+6)=>(by rw[hi];exact(hM2 g).2.1:(MH g).get i=some [.int .i64 1,.int .i64 0,.int .i64 1,.int .i64 0])
 have mfl:=fun g=>(hM2 g).2.2.1
 have mnx:=fun g=>(hM2 g).2.2.2.1
 have mlo:=fun g=>(hM2 g).2.2.2.2
 have k3:=fun g=>(hN2 g).1
 have nfl:=fun g=>(hN2 g).2.1
 have nnx:=fun g=>(hN2 g).2.2.1
 have nlo:=fun g=>(hN2 g).2.2.2
 have fA:setFrom Z9 0 A=A:=by rw[hA];rfl
 have fB:setFrom Z9 0 B=B:=by rw[hB];rfl
 have fE:setFrom Z9 0 (yL zw .aT)=Z9:=rfl
 have cE:AV.aG (yL zw .aT)=true:=rfl
 have lE:(yL zw .aT).length=9:=rfl
 have k4:∀(g:H) (p:Nat),g.floor≤g.next→g.get p=some [.int .i64 9,.int .i64 0,.int .i64 0,.int .i64 0]→aV AP.A 100 [.agg [.str ⟨#[97]⟩,.bool true,.aI p 0 4 1,.int .i64 9,.int .i64 0,.int .i64 0,.str ⟨#[]⟩,.int .i64 0,.int .i64 0]] g=some (.cf [.str ⟨#[]⟩,.int .i64 1501],g):=fun g p hg hp=>by
  have:=EN g hg eG (.aI p 0 4 1) rfl (Av.obj (l:=[9,0,0,0]) hp rfl rfl (by decide) (by decide))
  rw[QH]at this;exact this
 have k5:∀(g:H) (p:Nat),g.floor≤g.next→g.get p=some [.int .i64 9,.int .i64 0,.int .i64 0,.int .i64 0]→aV AP.A 96 [.agg [.str ⟨#[97]⟩,.bool true,.aI p 0 4 1,.int .i64 9,.int .i64 0,.int .i64 0,.str ⟨#[]⟩,.int .i64 0,.int .i64 0]] g=some (.bool true,g):=fun g p hg hp=>by
  have:=BN g hg eG (.aI p 0 4 1) rfl (Av.obj (l:=[9,0,0,0]) hp rfl rfl (by decide) (by decide))
  rw[show zK eG=true by decide+kernel]at this;exact this
 obtain⟨K,hK⟩:∃K,K=((A8 I8:Nat):Int):=⟨_,rfl⟩
 obtain⟨K',hK'⟩:∃K,K=((A8 I8^^^1:Nat):Int):=⟨_,rfl⟩
 have x1:bits .xor .i64 K 1=K':=by rw[hK,hK'];exact Hb (Jq _)
 have k6:∀g:H,g.floor≤g.next→aV AP.A 92 [.agg A] g=some (.agg [.str nA,.bool false,.aI (g.next+1+1+1) 0 4 1,.int .i64 1,.int .i64 0,.int .i64 0,.str I8,.int .i64 2,.int .i64 K],((((((g.alloc A).alloc Z9).alloc []).del (g.next+1+1)).alloc [.int .i64 1,.int .i64 0,.int .i64 0,.int .i64 0]).set g.next [.str nA,.bool false,.aI (g.next+1+1+1) 0 4 1,.int .i64 1,.int .i64 0,.int .i64 0,.str I8,.int .i64 2,.int .i64 K]).set (g.next+1) [.str nA,.bool false,.aI (g.next+1+1+1) 0 4 1,.int .i64 1,.int .i64 0,.int .i64 0,.str I8,.int .i64 2,.int .i64 K]):=fun g hg=>by
  rw[hA,hK]
  exact Jp g hg eA (AM [1,0,0,0]) (AQ _) (by decide) rfl (by decide)
 have k7:∀(g:H) (p:Nat),g.floor≤g.next→g.get p=some [.int .i64 1,.int .i64 0,.int .i64 0,.int .i64 0]→aV AP.A 96 [.agg [.str nA,.bool false,.aI p 0 4 1,.int .i64 1,.int .i64 0,.int .i64 0,.str I8,.int .i64 2,.int .i64 K']] g=some (.bool false,g):=fun g p hg hp=>by
  have:=BN g hg eD (.aI p 0 4 1) rfl (Av.obj (l:=[1,0,0,0]) hp rfl rfl (by decide) (by decide))
  rw[show zK eD=false from QF]at this
  rw[hK'];exact this
 have k8:∀(g:H) (r p:Nat),g.get r=some [.int .i64 1,.int .i64 0,.int .i64 1,.int .i64 0]→g.get p=some [.int .i64 1,.int .i64 0,.int .i64 1,.int .i64 0]→aV AP.A 106 [.aI r 0 4 1,.aI p 0 4 1] g=some (.bool true,g):=fun g r p hr hp=>by
  have:=GV g (.aI r 0 4 1) (.aI p 0 4 1) [1,0,1,0] [1,0,1,0] (Rd.obj (l:=[1,0,1,0]) hr rfl) (Rd.obj (l:=[1,0,1,0]) hp rfl) (by decide)
  exact this
 have k9:=fun (g:H) n=>J5 g n
 simp only[I]at k9
 have y1:bH .eql (.str ⟨#[104,105]⟩) (.str ⟨#[104,105]⟩)=some (.bool true):=by rw[zS];rfl
 have y3:bH .eql (.str Na) (.str ⟨#[104,111]⟩)=some (.bool true):=by rw[zS];rfl
 have y2:bH .eql (.str ⟨#[104,111]⟩) (.str ⟨#[104,111]⟩)=some (.bool true):=by rw[zS];rfl
 obtain⟨h2,hh⟩:∃h2,aP (aV AP.A) bL AP.f95.body (params 0 []) h.eY=some (.ret,[(0,.bool true)],h2):=by
  refine⟨?_, ?_⟩
  rotate_left
  simp (disch:=first|omega|(simp only[HC,QR,QU,ym,Nat.reduceAdd,mfl,mnx,mlo,nfl,nnx,nlo,m2g];first|done|omega|fail)|(simp (disch:=first|omega|(simp only[HC,QR,QU,ym,Nat.reduceAdd,mfl,mnx,mlo,nfl,nnx,nlo,m2g];first|done|omega|fail)|fail)only[HC,PZ,QN,QR,QU,ym,Nat.reduceAdd,mfl,mnx,mlo,nfl,nnx,nlo,m2g];done)|fail)only[go_sem,yZ,PY,AP.f95,lA,lB,cA,cB,s1,s2,s3,k1,k2,k3,mfl,mnx,mlo,nfl,nnx,nlo,m2g,fA,fB,fE,cE,lE,k4,k5,k6,k7,k8,k9,x1,y1,y2,y3,tA,tB]
  rfl
 exact wX (fn:=AP.f95) (h2:=h2) (e:=[(0,.bool true)]) rfl rfl rfl hh rfl rfl
theorem PE.obj {h:H} {id:Nat} {cs:List AV} (hg:h.get id=some cs):PE h (.aH id 0) cs:=
 ⟨fun g=>rfl,fun k=>.aH id (0+k),fun k=>rfl,fun g hx k c hc=>by
  show cq false 1 (.aH id (0+k)) g=_
  rw[ym]
  simp only[cq,hx _ _ hg,xX,jj,hc];rfl⟩
abbrev Qx:=ByteArray×List Int
structure Bu (h:H) (A:Nat) (C:Nat→AV) (ls:Nat→List Int):Prop where
 get:h.get A=some (pQ 8 C)
 fl:h.floor≤A
 nx:h.floor≤h.next
 own:∀n,n<8→Af 1 h (C n) (ls n).length (ints (ls n))
 JX:∀n m,n<8→m<8→n≠m→∀i,(C n).id?=some i→(C m).id?≠some i
 gt:∀n,n<8→∀i,(C n).id?=some i→A<i
theorem Bu.mono {h g:H} {A:Nat} {C:Nat→AV} {ls:Nat→List Int} (b:Bu h A C ls) (hf:g.floor=h.floor) (hn:h.next≤g.next) (hg:∀i,i<h.next→g.get i=h.get i):Bu g A C ls:=
 ⟨by rw[hg A (h.lt _ _ b.get)];exact b.get,by rw[hf];exact b.fl,by rw[hf];exact yF b.nx hn,fun n hn'=>(b.own n hn').mono hf fun i q=>hg i ((b.own n hn').lt q).2,b.JX,b.gt⟩
theorem Bu.push {h : H} {A : Nat} {C : Nat → AV} {ls : Nat → List Int} (b : Bu h A C ls) {n : Nat} (hn : n < 8) (hl : (ls n).length < 1000000) (x : Int) :
 ∃ v' h', mV (h.alloc [.int .i64 x]) 1 8 (C n) (.aI h.next 0 1 1) = some (v', h') ∧ v'.sc = true ∧ h'.get A = some (pQ 8 C) ∧ h'.floor = h.floor ∧ h.next ≤ h'.next ∧
   Bu (h'.set A (pQ 8 (w9 C n v'))) A (w9 C n v') (fun m=>if m=n then ls n++[x]else ls m)∧∀i,i<A→h'.get i=h.get i:=by
 have o:=b.own n hn
 obtain⟨v',h',p1,p2,p3,p4,p5,p6⟩:=o.push b.nx (z:=8) (m:=1) (by omega) (by omega) [.int .i64 x] rfl rfl (by simp [roomy];omega)
 have hA:=h.lt _ _ b.get
 have nA:(C n).id?≠some A:=fun q=>by have:=b.gt n hn A q;omega
 have gA:h'.get A=some (pQ 8 C):=by rw[p5 A nA hA];exact b.get
 refine⟨v',h',p1,p2.sc,gA,p3,by omega,⟨by rw[zc rfl,gA];rfl,by simp [p3,b.fl],by simp [p3];have:=b.nx;omega,fun m hm=> ?_,fun m k hm hk hmk i q=> ?_,fun m hm i q=> ?_⟩,fun i hi=>p5 i (fun q=>by have:=b.gt n hn i q;omega) (by omega)⟩
 · by_cases c:m=n
   · subst c
     have e:ints (ls m)++[.int .i64 x]=ints (ls m++[x]):=by simp [ints,I]
     rw[e]at p2
     simp only[w9,if_true,yH,List.length_singleton]
     exact p2.mono (by simp) fun i q=>by rw[yX];rw[p6]at q;have:=xO q;omega
   · simp only[w9,if_neg c]
     refine(b.own m hm).mono (by simp [p3]) fun i q=> ?_
     have h1:=((b.own m hm).lt q).2
     have h2:=b.gt m hm i q
     rw[yX (by omega),p5 i (fun q2=>b.JX m n hm hn c i q q2) h1]
 · unfold w9 at q ⊢
   by_cases c1:m=n
   · rw[if_pos c1,p6]at q
     have e:=xO q
     rw[if_neg (by omega)]
     intro q2
     have:=((b.own k hk).lt q2).2
     omega
   · rw[if_neg c1]at q
     by_cases c2:k=n
     · rw[if_pos c2,p6]
       intro q2
       have e:=xO q2
       have:=((b.own m hm).lt q).2
       omega
     · rw[if_neg c2]
       exact b.JX m k hm hk hmk i q
 · unfold w9 at q
   by_cases c:m=n
   · rw[if_pos c,p6]at q
     have e:=xO q
     omega
   · rw[if_neg c]at q
     exact b.gt m hm i q
theorem DY.DA {n:Nat} {h g:H} {v:AV} {k:Nat} {cs:List AV} (r:DY n h v k cs) (hg:∀i,v.id?=some i→g.get i=h.get i):DY n g v k cs:=by
 obtain⟨r,hl,hs⟩:=r
 refine⟨?_,hl,hs⟩
 unfold aW at r ⊢
 split at r
 · exact r
 · exact r
 · rename_i id off len s
   split at r
   · rename_i q
     rw[if_pos q,hg id rfl];exact r
   · cases r
 · exact r
 · cases r
theorem Rd.DA {h g:H} {v:AV} {cs:List AV} (r:Rd h v cs) (hg:∀i,v.id?=some i→g.get i=h.get i):Rd g v cs:=by
 have:=r.M7.DA hg
 exact⟨this.1,this.2.2⟩
theorem Av.DA {h g:H} {x:C8} (o:Av h x) (hg:∀i,x.2.id?=some i→g.get i=h.get i):Av g x:=⟨o.vec.DA hg,o.vl,o.nl,o.pl⟩
structure QK (n:Nat) (h:H) (w:AV) (h':H) (k:Nat) (cs:List AV):Prop where
 own:Af n h' w k cs
 ext:Ext h h'
 fl:h'.floor=h.floor
 nx:h.next≤h'.next
 ge:∀i,w.id?=some i→h.next≤i
theorem IC {v:AV} (h:v.sc=true):v.cells=[v]:=by cases v<;>first|rfl|cases h
abbrev EG:=Qx×AV
def Qq (x:EG):List AV:=[.str x.1.1,x.2]
def Nr (l:List EG):List AV:=l.flatMap Qq
theorem Jm (x:EG):(Qq x).length=2:=rfl
structure P2 (h0 h:H) (ov:AV) (x:EG):Prop where
 ex:∃j,x.2=.aI j 0 4 1∧h.get j=some (ints x.1.2)∧h0.next≤j∧ov.id?≠some j∧h.floor≤j
 l4:x.1.2.length=4
theorem P2.mono {h0 h g:H} {ov ov':AV} {x:EG} (b:P2 h0 h ov x) (hf:g.floor=h.floor) (hg:∀j,j<h.next→ov.id?≠some j→g.get j=h.get j) (ho:∀j,j<h.next→ov.id?≠some j→ov'.id?≠some j):P2 h0 g ov' x:=by
 obtain⟨j,e1,e2,e3,e4,e5⟩:=b.ex
 have:=h.lt _ _ e2
 exact⟨⟨j,e1,by rw[hg j this e4];exact e2,e3,ho j this e4,by rw[hf];exact e5⟩,b.l4⟩
structure P3 (h0 h:H) (ov:AV) (x:C8):Prop where
 ok:Av h x
 sc:x.2.sc=true
 id:∀i,x.2.id?=some i→h0.next≤i∧i<h.next∧ov.id?≠some i∧h.floor≤i
 wr:∃i cs,x.2=.aI i 0 x.1.vec.length 1∧h.get i=some cs∧(0<x.1.vec.length→cs=ints x.1.vec)
theorem P3.mono {h0 h g:H} {ov ov':AV} {x:C8} (b:P3 h0 h ov x) (hf:g.floor=h.floor) (hn:h.next≤g.next) (hg:∀j c,ov.id?≠some j→h.get j=some c→g.get j=some c) (ho:∀j,j<h.next→ov.id?≠some j→ov'.id?≠some j):P3 h0 g ov' x:=by
 obtain⟨i,cs,e1,e2,e3⟩:=b.wr
 have q:=b.id i (by rw[e1];rfl)
 have e4:=hg i cs q.2.2.1 e2
 exact⟨b.ok.DA fun k q'=>(by rw[e1]at q';obtain rfl:=xO q';rw[e4,e2]),b.sc,fun i q=>⟨(b.id i q).1,by have:=(b.id i q).2.1;omega,ho i (b.id i q).2.1 (b.id i q).2.2.1,by rw[hf];exact(b.id i q).2.2.2⟩,⟨i,cs,e1,e4,e3⟩⟩
structure Nf (h:H) (v:AV) (l:List EG):Prop where
 rd:DY 2 h v l.length (Nr l)
 vec:∀x∈l,Rd h x.2 (ints x.1.2)∧x.1.2.length<1125899906842624
theorem Nf.mono {h g:H} {v:AV} {l:List EG} (r:Nf h v l) (e:Ext h g):Nf g v l:=⟨r.rd.mono fun i c q=>e i c q,fun x hx=>⟨(r.vec x hx).1.mono fun i c q=>e i c q,(r.vec x hx).2⟩⟩
theorem Nf.at_ {h:H} {v:AV} {l:List EG} (r:Nf h v l):∃ad:Int→Nat→AV,(∀i:Int,0≤i∧i<l.length→iy 2 v (.int .i64 i)=some (ad i 0)∧gJ 0 (ad i 0)=some (ad i 0)∧gJ 1 (ad i 0)=some (ad i 1))∧
 (∀(i:Nat) (x:EG),l[i]?=some x→cq false 1 (ad i 0) h=some (.str x.1.1)∧cq false 1 (ad i 1) h=some x.2):=by
 obtain⟨ad,a1,a2,a4,a3⟩:=r.rd.at_
 refine⟨ad,fun i hi=>⟨a1 i hi,a2 i 0 0 hi,a2 i 0 1 hi⟩,fun i x hx=> ?_⟩
 have hi:i<l.length:=(xW.1 hx).1
 have g:=fun k (hk:k<2)=>EP (f:=k) Jm hx hk
 refine⟨(a3 h fun _ _ q=>q).1 i 0 _ ⟨by omega,by omega⟩ ?_,(a3 h fun _ _ q=>q).1 i 1 _ ⟨by omega,by omega⟩ ?_⟩
 · rw[Bt];exact g 0 (by omega)
 · rw[Bt];exact g 1 (by omega)
instance:DecidableEq zO:=fun a b=>decidable_of_iff _ (DI a b)
theorem F5 {A : bw} {f g : Nat} {fn gn : gI} (ef : A f = some fn) (eg : A g = some gn) (hp : fn.pure = true) (gp : gn.pure = false) (hb : fn.body = gn.body) (hn : fn.np = gn.np) (hr : fn.res = gn.res) {args : List AV} {h h' : H} {v v' : AV}
 (k:aV A g args h.eY=some (v,h')) (s:snap h'.get h.next 16 true v=some v'):aV A f args h=some (v',h):=by
 obtain⟨n,hn'⟩:=fQ k
 cases n with
 |zero=>cases hn'
 | succ d =>
   refine oR (n:=d+1) ?_
   simp only[aX,ef,eg,xX,gG,hn,hb,hp,gp,if_true]at hn' ⊢
   split at hn'
   · rename_i c
     rw[if_pos c]
     have e0:(if(false:Bool)=true then h.eY.eY else h.eY)=h.eY:=rfl
     rw[e0]at hn'
     cases hx:aP (aX A d) (aN d) gn.body (params 0 args) h.eY with
     |none=>rw[hx]at hn';cases hn'
     | some r =>
       rw[hx]at hn'
       rw[xX]at hn' ⊢
       obtain⟨x,e,hh⟩:=r
       unfold fin at hn' ⊢
       cases x with
       |exit m=>cases hn'
       | normal =>
         simp only[hr,hp,gp,if_true]at hn' ⊢
         cases hq:di e hh gn.res with
         |none=>rw[hq]at hn';cases hn'
         | some vs =>
           rw[hq,xX]at hn'
           have:=xO hn'
           obtain⟨rfl,rfl⟩:=xR this
           rw[xX]
           unfold jb
           rw[s];rfl
       | ret =>
         simp only[hr,hp,gp,if_true]at hn' ⊢
         cases hq:di e hh gn.res with
         |none=>rw[hq]at hn';cases hn'
         | some vs =>
           rw[hq,xX]at hn'
           have:=xO hn'
           obtain⟨rfl,rfl⟩:=xR this
           rw[xX]
           unfold jb
           rw[s];rfl
   · cases hn'
theorem Fh (h:H) (e:zO) (v:AV) (hv:v.sc=true) (ok:Av h (e,v)) (h0:0<e.vec.length) (hb:e.vec.length<20000000000000):aV AP.A 165 [.agg (yL e v)] h=some (.agg (yL e (zj e.vec)),h):=by
 obtain⟨h',v',k,q1,q2,q3,q4,q5,q6⟩:=EM h.eY (ya _) e v hv (ok.mono fun i c q=>q) hb
 rw[if_neg (by intro c;rw[c]at h0;simp at h0)]at q1
 subst q1
 refine F5 (fn:=AP.f165) (gn:=AP.f92) rfl rfl rfl rfl rfl rfl rfl k ?_
 have g:=q6 h0
 have s1:snap h'.get h.next 14 true (.aI (h.next+3) 0 e.vec.length 1)=some (zj e.vec):=by
  have o:Af 1 ⟨h'.next,h.next,h'.cU,h'.len⟩ (.aI (h.next+3) 0 e.vec.length 1) e.vec.length (ints e.vec):=⟨by rw[sD];omega,.inr ⟨h.next+3,rfl,g,by show h.next≤_;omega,h0⟩⟩
  have:=o.Aj (fl:=h.next) (m:=12) (t:=true) (ya _)
  have e:IJ 1 e.vec.length (ints e.vec)=zj e.vec:=by unfold IJ zj;rw[if_neg (by omega)]
  rw[e]at this;exact this
 have e1:h.eY.next=h.next:=rfl
 rw[e1]
 show(gX (snap h'.get h.next 15 true) (yL e (.aI (h.next+3) 0 e.vec.length 1))).bind _=_
 have s1':snap h'.get h.next 15 true (.aI (h.next+3) 0 e.vec.length 1)=some (zj e.vec):=by
  have o:Af 1 ⟨h'.next,h.next,h'.cU,h'.len⟩ (.aI (h.next+3) 0 e.vec.length 1) e.vec.length (ints e.vec):=⟨by rw[sD];omega,.inr ⟨h.next+3,rfl,g,by show h.next≤_;omega,h0⟩⟩
  have:=o.Aj (fl:=h.next) (m:=13) (t:=true) (ya _)
  have e:IJ 1 e.vec.length (ints e.vec)=zj e.vec:=by unfold IJ zj;rw[if_neg (by omega)]
  rw[e]at this;exact this
 have e2:gX (snap h'.get h.next 15 true) (yL e (.aI (h.next+3) 0 e.vec.length 1))=some (yL e (zj e.vec)):=by
  unfold yL
  simp only[gX,s1',xX]
  rfl
 rw[e2];rfl
theorem GZ (i:Nat):∀(n k:Nat) (l:List Int) (h:H),k+n=l.length→l.length<1000000→h.get i=some (ints l)→h.floor≤i→
 ∃e' l',Lp AP.A [0,2] AP.f168L0 [(0,.aI i 0 l.length 1),(2,.int .i64 k)] h=some (.exit 0,e',h.set i (ints l'))∧l'.length=l.length
 | 0, k, l, h, hk, hl, hg, hf => by
   obtain rfl:k=l.length:=by omega
   refine⟨[(0,.aI i 0 l.length 1),(2,.int .i64 l.length),(6,.bool false)],l, ?_,rfl⟩
   rw[H.kR hg]
   refine wh ?_
   simp (disch:=omega)only[go_sem,yZ,AP.f168L0]
 | n + 1, k, l, h, hk, hl, hg, hf => by
   obtain⟨x,hx⟩:∃x,l[k]?=some x:=⟨l[k]'(by omega),by simp⟩
   have ix:(ints l)[k]?=some (.int .i64 x):=vP hx
   have st:(ints l).set k (.int .i64 (IntKind.wrap .i64 (-9-x)))=ints (l.set k (IntKind.wrap .i64 (-9-x))):=by simp [ints,I,List.map_set]
   obtain⟨e',l',r1,r2⟩:=GZ i n (k+1) (l.set k (IntKind.wrap .i64 (-9-x))) (h.set i (ints (l.set k (IntKind.wrap .i64 (-9-x))))) (by simp;omega) (by simp;exact hl) (by rw[zc rfl,hg];rfl) (by simp;exact hf)
   rw[H.set_set,List.length_set]at r1
   have w1:((k+1:Nat):Int)=(k:Int)+1:=by omega
   rw[w1]at r1
   refine⟨e',l',wj ?_ r1,by rw[r2];simp⟩
   have il:=sD l
   clear r1 hx
   simp (disch:=first|omega|(simp only[HC,QR,QU,ym,Nat.reduceAdd];first|done|omega|fail)|(simp (disch:=first|omega|(simp only[HC,QR,QU,ym,Nat.reduceAdd];first|done|omega|fail)|fail)only[HC,PZ,QN,QR,QU,ym,Nat.reduceAdd];done)|fail)only[go_sem,yZ,PY,AP.f168L0,hg,ix,il,st]
theorem IV {h:H} {i:Nat} {l:List Int} (hg:h.get i=some (ints l)) (hl:l.length<1000000) (hf:h.floor≤i):∃l',aV AP.A 168 [.aI i 0 l.length 1] h=some (.cf [],h.set i (ints l'))∧l'.length=l.length:=by
 obtain⟨e',l',r1,r2⟩:=GZ i l.length 0 l h (by omega) hl hg hf
 have r1':Lp AP.A [0,2] AP.f168L0 [(0,.aI i 0 l.length 1),(2,.int .i64 0)] h=some (.exit 0,e',h.set i (ints l')):=r1
 obtain⟨e2,he⟩:∃e2,aP (aV AP.A) bL AP.f168.body (params 0 [.aI i 0 l.length 1]) h=some (.normal,e2,h.set i (ints l')):=by
  refine⟨?_, ?_⟩
  rotate_left
  · simp (disch:=omega)only[go_sem,yZ,AP.f168,vp,r1']
    rfl
 exact⟨l',zh (fn:=AP.f168) (e:=e2) (vs:=[]) rfl rfl rfl he rfl,r2⟩
theorem Hz (h:H):aV AP.A 168 [.aT] h=some (.cf [],h):=by
 have r:Lp AP.A [0,2] AP.f168L0 [(0,.aT),(2,.int .i64 0)] h=some (.exit 0,[(0,.aT),(2,.int .i64 0),(6,.bool false)],h):=by
  refine wh ?_
  simp (disch:=omega)only[go_sem,yZ,AP.f168L0]
 obtain⟨e2,he⟩:∃e2,aP (aV AP.A) bL AP.f168.body (params 0 [.aT]) h=some (.normal,e2,h):=by
  refine⟨?_, ?_⟩
  rotate_left
  · simp (disch:=omega)only[go_sem,yZ,AP.f168,vp,r]
    rfl
 exact zh (fn:=AP.f168) (e:=e2) (vs:=[]) rfl rfl rfl he rfl
structure SB (B:Nat) (h:H) (o n i:Nat) (cs:List AV):Prop where
 get:h.get o=some cs
 len:cs.length=n* 2
 fl:h.floor≤o
 bo:B≤o
 el:∀k,k<n→∃(s:ByteArray) (j:Nat) (l:List Int),cs[k* 2]?=some (.str s)∧s.size≤8+(if k<i then 1 else 0)∧cs[k* 2+1]?=some (.aI j 0 4 1)∧h.get j=some (ints l)∧l.length=4∧B≤j∧j≠o∧h.floor≤j
theorem GM {v w:AV} {a b:List Int} (la:a.length=4) (lb:b.length=4) (h0:H) (ra:Rd h0 v (ints a)) (rb:Rd h0 w (ints b)):∀(n i:Nat),i+n=4→∀(h:H) (ov:AV),Ext h0 h→h.floor≤h.next→h0.next≤h.next→Af 1 h ov i (ints ((zr a b).take i))→(∀j,ov.id?=some j→h0.next≤j)→
 ∃e' h' ov',Lp AP.A [0,1,6,7] AP.f166L0 [(0,v),(1,w),(6,ov),(7,.int .i64 i)] h=some (.exit 0,e',h')∧look e' 6=ov'∧Af 1 h' ov' 4 (ints (zr a b))∧h'.floor=h.floor
 | 0, i, hi, h, ov, hx, hf, hn, o, hge => by
   obtain rfl:i=4:=by omega
   have ln:=(ra.mono fun i c q=>hx i c q:Rd h v (ints a)).M7.len
   rw[sD,la]at ln
   have jl:(zr a b).length=4:=by unfold zr;rw[List.length_zipWith];omega
   rw[yC (by omega)]at o
   refine⟨[(0,v),(1,w),(6,ov),(7,.int .i64 4),(19,.bool false)],h,ov,wh ?_,rfl,o,rfl⟩
   simp (disch:=omega)only[go_sem,yZ,AP.f166L0,ln]
 | n + 1, i, hi, h, ov, hx, hf, hn, o, hge => by
   have ln:=(ra.mono fun i c q=>hx i c q:Rd h v (ints a)).M7.len
   rw[sD,la]at ln
   obtain⟨x,ax⟩:∃x,a[i]?=some x:=⟨a[i]'(by omega),by simp⟩
   obtain⟨y,bx⟩:∃y,b[i]?=some y:=⟨b[i]'(by omega),by simp⟩
   obtain⟨ad,a1,a2⟩:=ra.Bb
   obtain⟨bd,b1,b2⟩:=rb.Bb
   have a3:=a1 i ⟨by omega,by omega⟩
   have b3:=b1 i ⟨by omega,by omega⟩
   have a4:=a2 h hx i x ax
   have b4:=b2 h hx i y bx
   have jl:(zr a b).length=4:=by unfold zr;rw[List.length_zipWith];omega
   have jx:(zr a b)[i]?=some (zE x y):=by unfold zr;rw[List.getElem?_zipWith,ax,bx]
   have tk:(zr a b).take (i+1)=(zr a b).take i++[zE x y]:=by rw[List.take_add_one,jx];rfl
   have il:(zr a b).take i=(zr a b).take i:=rfl
   obtain⟨v',h',p1,p2,p3,p4,p5,p6⟩:=o.push hf (z:=8) (m:=1) (by omega) (by omega) [.int .i64 (zE x y)] rfl rfl (by simp [roomy];omega)
   have e:ints ((zr a b).take i)++[.int .i64 (zE x y)]=ints ((zr a b).take (i+1)):=by rw[tk];simp [ints,I]
   rw[e]at p2
   obtain⟨e',h2,ov',r1,r2,r3,r4⟩:=GM la lb h0 ra rb n (i+1) (by omega) h' v' (fun j c q=>by
    have:=h0.lt _ _ q
    rw[p5 j (fun q2=>by have:=hge j q2;omega) (by omega)];exact hx j c q) (by omega) (by omega) p2 (fun j q=>by rw[p6]at q;have:=xO q;omega)
   have w1:((i+1:Nat):Int)=(i:Int)+1:=by omega
   rw[w1]at r1
   refine⟨e',h2,ov',wj ?_ r1,r2,r3,by rw[r4,p3]⟩
   clear r1 r2 r3 ra rb a1 a2 b1 b2 hx o p2 e tk jx
   simp (disch:=omega)only[go_sem,yZ,AP.f166L0,ln,a3,b3,a4,b4,Iq,Gy,p1]
theorem JC (h:H) (v w:AV) (a b:List Int) (ra:Rd h v (ints a)) (rb:Rd h w (ints b)) (ha:Bg a=true) (hb:Bg b=true):aV AP.A 166 [v,w] h=some (.cf [zj (zr a b),.int .i64 0],h):=by
 have la:a.length=4:=by unfold Bg at ha;simp only[yc,QW]at ha;exact ha.1
 have lb:b.length=4:=by unfold Bg at hb;simp only[yc,QW]at hb;exact hb.1
 have jl:(zr a b).length=4:=by unfold zr;rw[List.length_zipWith];omega
 have raf:Rd h.eY v (ints a):=ra.mono fun i c q=>q
 have rbf:Rd h.eY w (ints b):=rb.mono fun i c q=>q
 have k1:=Gv h.eY v a raf (by omega)
 have k2:=Gv h.eY w b rbf (by omega)
 rw[ha]at k1
 rw[hb]at k2
 obtain⟨e',h2,ov,r1,r2,r3,r4⟩:=GM la lb h.eY raf rbf 4 0 rfl h.eY .aT (Ext.refl _) (ya _) (ya _) Af.nil (fun j q=>by cases q)
 have r1':Lp AP.A [0,1,6,7] AP.f166L0 [(0,v),(1,w),(6,.aT),(7,.int .i64 0)] h.eY=some (.exit 0,e',h2):=r1
 refine wX (fn:=AP.f166) (h2:=h2) (e:=[(4,ov),(5,.int .i64 0)]) (vs:=[ov,.int .i64 0]) rfl rfl rfl ?_ rfl ?_
 · clear ra rb raf rbf r1 r3 ha hb
   simp (disch:=omega)only[go_sem,yZ,AP.f166,k1,k2,vp,r1',r2]
 · have s:=r3.Aj (fl:=h.next) (m:=13) (t:=true) (by rw[r4];exact ya _)
   have e:IJ 1 4 (ints (zr a b))=zj (zr a b):=by unfold IJ zj;rw[jl];rfl
   rw[e]at s
   show(gX (snap h2.get h.next 15 true) [ov,.int .i64 0]).bind _=_
   simp only[gX,s,xX]
   rfl
theorem Cm {e:zO} (h:zK e=true):e.vec.length=4:=by
 have:=Bq h
 unfold Bg at this
 simp only[yc,QW]at this
 exact this.1
def GO:Option zO→AV
 |some e=>.cf [.agg (yL e (zj e.vec)),.int .i64 0]
 |none=>.cf [.agg Z9,.int .i64 1500]
theorem Hv (h:H) (a b:zO) (va vb:AV) (sa:va.sc=true) (sb:vb.sc=true) (oka:Av h (a,va)) (okb:Av h (b,vb)) (hm:zy a b=none):
 aV AP.A 156 [.agg (yL a va),.agg (yL b vb)] h=some (.cf [.agg Z9,.int .i64 1500],h):=by
 obtain⟨h1,eh1⟩:∃g,g=h.eY.alloc (yL a va):=⟨_,rfl⟩
 obtain⟨h2,eh2⟩:∃g,g=h1.alloc (yL b vb):=⟨_,rfl⟩
 obtain⟨h3,eh3⟩:∃g,g=h2.alloc Z9:=⟨_,rfl⟩
 have x3:Ext h h3:=fun i c q=>by rw[eh3,eh2,eh1];exact((((Ext.refl h.eY).alloc _).alloc _).alloc _) i c q
 have n0:h.eY.next=h.next:=rfl
 have n1:h1.next=h.next+1:=by rw[eh1];simp
 have n2:h2.next=h.next+2:=by rw[eh2];simp [n1]
 have f3:h3.floor=h.next:=by rw[eh3,eh2,eh1];simp
 have ga3:h3.get h.next=some (yL a va):=by rw[eh3,yR (by omega),eh2,yR (by omega),eh1,yS (by simp)]
 have gb3:h3.get (h.next+1)=some (yL b vb):=by rw[eh3,yR (by omega),eh2,yS (by omega)]
 have gc3:h3.get (h.next+2)=some Z9:=by rw[eh3,yS (by omega)]
 have k1:=Bz h3 a va sa (oka.mono x3)
 have k2:=Bz h3 b vb sb (okb.mono x3)
 have ra:jj true 9 (yL a va) 0=some (.agg (yL a va)):=rfl
 have rb:jj true 9 (yL b vb) 0=some (.agg (yL b vb)):=rfl
 have cm:bH .neq (.str a.name) (.str b.name)=some (.bool (!(a.name.data.toList==b.name.data.toList))):=Bf _ _
 have e1:h.eY.alloc (yL a va)=h1:=eh1.symm
 have e2:h1.alloc (yL b vb)=h2:=eh2.symm
 have e3:h2.alloc [.str ⟨#[]⟩,.bool false,.aT,.int .i64 0,.int .i64 0,.int .i64 0,.str ⟨#[]⟩,.int .i64 0,.int .i64 0]=h3:=eh3.symm
 unfold zy at hm
 have hbad:(zK a&&(zK b&&(a.name.data.toList==b.name.data.toList)))=false:=by
  cases hq:(zK a&&(zK b&&(a.name.data.toList==b.name.data.toList)))with
  |false=>rfl
  |true=>rw[hq,if_pos rfl]at hm;cases hm
 clear hm
 obtain⟨h4,eh4⟩:∃g,g=h3.set (h.next+2) Z9:=⟨_,rfl⟩
 have st4:wZ h3 (h.next+2) 0 9 [.str ⟨#[]⟩,.bool false,.aT,.int .i64 0,.int .i64 0,.int .i64 0,.str ⟨#[]⟩,.int .i64 0,.int .i64 0] (some Z9)=some h4:=by rw[eh4];exact zD (by omega) rfl rfl rfl
 have g4:h4.get (h.next+2)=some Z9:=by rw[eh4,zc rfl,gc3];rfl
 have lA:(yL a va).length=9:=rfl
 have lB:(yL b vb).length=9:=rfl
 have cA:=zZ (e:=a) sa
 have cB:=zZ (e:=b) sb
 have a0:(yL a va)[0]?=some (.str a.name):=rfl
 have b0:(yL b vb)[0]?=some (.str b.name):=rfl
 refine wX (fn:=AP.f156) (h2:=h4) (e:=[(4,.aH (h.next+2) 0),(5,.int .i64 1500)]) (vs:=[.agg Z9,.int .i64 1500]) rfl rfl rfl ?_ (by simp only[AP.f156,di,pG,pf,nE,ue,g4,v7];rfl) rfl
 clear x3 oka okb g4
 generalize zK a=B1 at *
 generalize zK b=B2 at *
 generalize (a.name.data.toList==b.name.data.toList)=B3 at *
 generalize yL a va=A at *
 generalize yL b vb=B at *
 cases B1 with
 |false=>simp (disch:=omega)only[go_sem,yZ,AP.f156,n0,lA,cA,e1,n1,lB,cB,e2,n2,e3,ga3,gb3,gc3,ra,rb,k1,k2,a0,b0,cm,st4]
 | true =>
   cases B2 with
   |false=>simp (disch:=omega)only[go_sem,yZ,AP.f156,n0,lA,cA,e1,n1,lB,cB,e2,n2,e3,ga3,gb3,gc3,ra,rb,k1,k2,a0,b0,cm,st4]
   | true =>
     cases B3 with
     |false=>simp (disch:=omega)only[go_sem,yZ,AP.f156,n0,lA,cA,e1,n1,lB,cB,e2,n2,e3,ga3,gb3,gc3,ra,rb,k1,k2,a0,b0,cm,st4]
     |true=>cases hbad
set_option maxHeartbeats 1600000 in
theorem Im (h : H) (a b : zO) (va vb : AV) (sa : va.sc = true) (sb : vb.sc = true) (oka : Av h (a, va)) (okb : Av h (b, vb)) :
 aV AP.A 156 [.agg (yL a va),.agg (yL b vb)] h=some (GO (zy a b),h):=by
 cases hq:(zK a&&(zK b&&(a.name.data.toList==b.name.data.toList)))with
 | false =>
   have hm:zy a b=none:=by unfold zy;rw[hq];rfl
   rw[hm];exact Hv h a b va vb sa sb oka okb hm
 |true=>
 have hm:zy a b=some {(if BU a b then b else a)with vec:=zr a.vec b.vec}:=by unfold zy;rw[if_pos hq]
 rw[hm]
 simp only[yc]at hq
 obtain⟨q1,q2,q3⟩:=hq
 have a4:=Cm q1
 have b4:=Cm q2
 obtain⟨h1,eh1⟩:∃g,g=h.eY.alloc (yL a va):=⟨_,rfl⟩
 obtain⟨h2,eh2⟩:∃g,g=h1.alloc (yL b vb):=⟨_,rfl⟩
 obtain⟨h3,eh3⟩:∃g,g=h2.alloc Z9:=⟨_,rfl⟩
 obtain⟨h4,eh4⟩:∃g,g=h3.alloc Z9:=⟨_,rfl⟩
 obtain⟨h5,eh5⟩:∃g,g=h4.set (h.next+3) (yL a (zj a.vec)):=⟨_,rfl⟩
 have x3:Ext h h3:=fun i c q=>by rw[eh3,eh2,eh1];exact((((Ext.refl h.eY).alloc _).alloc _).alloc _) i c q
 have x5:Ext h h5:=fun i c q=>by have:=h.lt _ _ q;rw[eh5,yX (by omega),eh4];exact(x3.alloc _) i c q
 have n0:h.eY.next=h.next:=rfl
 have n1:h1.next=h.next+1:=by rw[eh1];simp
 have n2:h2.next=h.next+2:=by rw[eh2];simp [n1]
 have n3:h3.next=h.next+3:=by rw[eh3];simp [n2]
 have f5:h5.floor=h.next:=by rw[eh5,eh4,eh3,eh2,eh1];simp
 have ga3:h3.get h.next=some (yL a va):=by rw[eh3,yR (by omega),eh2,yR (by omega),eh1,yS (by simp)]
 have gb3:h3.get (h.next+1)=some (yL b vb):=by rw[eh3,yR (by omega),eh2,yS (by omega)]
 have gc3:h3.get (h.next+2)=some Z9:=by rw[eh3,yS (by omega)]
 have gz4:h4.get (h.next+3)=some Z9:=by rw[eh4,yS (by omega)]
 have low5:∀i,i<h.next+3→h5.get i=h3.get i:=fun i hi=>by rw[eh5,yX (by omega),eh4,yR (by omega)]
 have ga5:h5.get h.next=some (yL a va):=by rw[low5 _ (by omega)];exact ga3
 have gb5:h5.get (h.next+1)=some (yL b vb):=by rw[low5 _ (by omega)];exact gb3
 have gd5:h5.get (h.next+3)=some (yL a (zj a.vec)):=by rw[eh5,zc rfl,gz4];rfl
 have k1:=Bz h3 a va sa (oka.mono x3)
 have k2:=Bz h3 b vb sb (okb.mono x3)
 rw[q1]at k1
 rw[q2]at k2
 have c1:=Fh h3 a va sa (oka.mono x3) (by omega) (by omega)
 have c2:=Fh h5 b vb sb (okb.mono x5) (by omega) (by omega)
 have ra:jj true 9 (yL a va) 0=some (.agg (yL a va)):=rfl
 have rb:jj true 9 (yL b vb) 0=some (.agg (yL b vb)):=rfl
 have cm:bH .neq (.str a.name) (.str b.name)=some (.bool false):=by rw[Bf,q3];rfl
 have e1:h.eY.alloc (yL a va)=h1:=eh1.symm
 have e2:h1.alloc (yL b vb)=h2:=eh2.symm
 have e3:h2.alloc [.str ⟨#[]⟩,.bool false,.aT,.int .i64 0,.int .i64 0,.int .i64 0,.str ⟨#[]⟩,.int .i64 0,.int .i64 0]=h3:=eh3.symm
 have e4:h3.alloc [.str ⟨#[]⟩,.bool false,.aT,.int .i64 0,.int .i64 0,.int .i64 0,.str ⟨#[]⟩,.int .i64 0,.int .i64 0]=h4:=eh4.symm
 have st5:wZ h4 (h.next+3) 0 9 (yL a (zj a.vec)) (some Z9)=some h5:=by rw[eh5];exact zD (by rw[eh4,eh3,eh2,eh1];simp) rfl rfl rfl
 obtain⟨w,ew⟩:∃w:zO,w=if BU a b then b else a:=⟨_,rfl⟩
 obtain⟨h6,eh6⟩:∃g,g=if BU a b then h5.set (h.next+3) (yL b (zj b.vec))else h5:=⟨_,rfl⟩
 have st6:wZ h5 (h.next+3) 0 9 (yL b (zj b.vec)) (some (yL a (zj a.vec)))=some (h5.set (h.next+3) (yL b (zj b.vec))):=zD (by omega) rfl rfl rfl
 have low6:∀i,i<h.next+3→h6.get i=h3.get i:=fun i hi=>by
  rw[eh6]
  split
  · rw[yX (by omega),low5 i hi]
  · exact low5 i hi
 have f6:h6.floor=h.next:=by rw[eh6];split<;>simp [f5]
 have x6:Ext h h6:=fun i c q=>by have:=h.lt _ _ q;rw[low6 i (by omega)];exact x3 i c q
 have ga6:h6.get h.next=some (yL a va):=by rw[low6 _ (by omega)];exact ga3
 have gb6:h6.get (h.next+1)=some (yL b vb):=by rw[low6 _ (by omega)];exact gb3
 have gc6:h6.get (h.next+2)=some Z9:=by rw[low6 _ (by omega)];exact gc3
 have gd6:h6.get (h.next+3)=some (yL w (zj w.vec)):=by
  rw[eh6,ew];split
  · rw[zc rfl,gd5];rfl
  · exact gd5
 have kj:=JC h6 va vb a.vec b.vec (oka.mono x6).vec (okb.mono x6).vec (Bq q1) (Bq q2)
 obtain⟨V,hV⟩:∃V,V=zj (zr a.vec b.vec):=⟨_,rfl⟩
 have sV:V.sc=true:=by rw[hV];rfl
 have cV:=IC sV
 obtain⟨r,er⟩:∃r:zO,r={w with vec:=zr a.vec b.vec}:=⟨_,rfl⟩
 obtain⟨R,hR⟩:∃R,R=yL r V:=⟨_,rfl⟩
 obtain⟨h7,eh7⟩:∃g,g=h6.set (h.next+3) R:=⟨_,rfl⟩
 obtain⟨h8,eh8⟩:∃g,g=h7.set (h.next+2) R:=⟨_,rfl⟩
 have lR:R.length=9:=by rw[hR];rfl
 have cR:AV.aG R=true:=by rw[hR];exact zZ sV
 have rR:jj true 9 R 0=some (.agg R):=by rw[hR];rfl
 have st7:wZ h6 (h.next+3) 2 1 [V] (some (yL w (zj w.vec)))=some h7:=by
  rw[xG (by omega) (by show 2<9;omega) sV,eh7,hR,er];rfl
 have gd7:h7.get (h.next+3)=some R:=by rw[eh7,zc rfl,gd6];rfl
 have gc7:h7.get (h.next+2)=some Z9:=by rw[eh7,yX (by omega)];exact gc6
 have st8:wZ h7 (h.next+2) 0 9 R (some Z9)=some h8:=by rw[eh8];exact zD (by rw[eh7];simp [f6]) lR rfl cR
 have gc8:h8.get (h.next+2)=some R:=by rw[eh8,zc rfl,gc7];rfl
 rw[←hV]at kj
 have lA:(yL a va).length=9:=rfl
 have lB:(yL b vb).length=9:=rfl
 have cA:=zZ (e:=a) sa
 have cB:=zZ (e:=b) sb
 have a0:(yL a va)[0]?=some (.str a.name):=rfl
 have b0:(yL b vb)[0]?=some (.str b.name):=rfl
 have a2:(yL a va)[2]?=some va:=rfl
 have b2:(yL b vb)[2]?=some vb:=rfl
 have a3:(yL a va)[3]?=some (.int .i64 a.yW):=rfl
 have b3:(yL b vb)[3]?=some (.int .i64 b.yW):=rfl
 have an:(yL a va)[4]?=some (.int .i64 a.node):=rfl
 have bn:(yL b vb)[4]?=some (.int .i64 b.node):=rfl
 have lA':(yL a (zj a.vec)).length=9:=rfl
 have lB':(yL b (zj b.vec)).length=9:=rfl
 have cA':AV.aG (yL a (zj a.vec))=true:=rfl
 have cB':AV.aG (yL b (zj b.vec))=true:=rfl
 have hres:GO (some {(if BU a b then b else a)with vec:=zr a.vec b.vec})=.cf [.agg R,.int .i64 0]:=by
  rw[hR,er,ew,hV];rfl
 rw[hres]
 have wn:BU a b=(decide (a.yW<b.yW)||(decide (a.yW=b.yW)&&decide (a.node<b.node))):=rfl
 refine wX (fn:=AP.f156) (h2:=h8) (e:=[(4,.aH (h.next+2) 0),(5,.int .i64 0)]) (vs:=[.agg R,.int .i64 0]) rfl rfl rfl ?_ (by simp only[AP.f156,di,pG,pf,nE,ue,gc8,v7,rR];rfl) (by rw[hR,hV];rfl)
 clear x3 x5 x6 oka okb low5 low6 gc8 hR hV er ew hres hm eh8 eh7
 generalize yL w (zj w.vec)=WW at *
 generalize yL a (zj a.vec)=A2 at *
 generalize yL b (zj b.vec)=B2 at *
 generalize yL a va=A at *
 generalize yL b vb=B at *
 by_cases d1:a.yW<b.yW
 · rw[wn,dt d1,Bool.true_or,if_pos rfl]at eh6
   rw[←eh6]at st6
   simp (disch:=omega)only[go_sem,yZ,AP.f156,n0,lA,cA,e1,n1,lB,cB,e2,n2,e3,ga3,gb3,ra,rb,k1,k2,a0,b0,cm,c1,e4,n3,lA',cA',gz4,st5,ga5,gb5,a3,b3,an,bn,c2,lB',cB',gd5,st6,a2,b2,ga6,gb6,kj,cV,sV,gd6,st7,gd7,rR,lR,cR,gc7,st8]
 · rw [wn, df d1, Bool.false_or] at eh6
   by_cases d2:b.yW=a.yW
   · rw[dt d2.symm,Bool.true_and]at eh6
     by_cases d3:a.node<b.node
     · rw[dt d3,if_pos rfl]at eh6
       rw[←eh6]at st6
       simp (disch:=omega)only[go_sem,yZ,AP.f156,n0,lA,cA,e1,n1,lB,cB,e2,n2,e3,ga3,gb3,ra,rb,k1,k2,a0,b0,cm,c1,e4,n3,lA',cA',gz4,st5,ga5,gb5,a3,b3,an,bn,c2,lB',cB',gd5,st6,a2,b2,ga6,gb6,kj,cV,sV,gd6,st7,gd7,rR,lR,cR,gc7,st8]
     · rw[df d3,if_neg (by decide)]at eh6
       subst eh6
       simp (disch:=omega)only[go_sem,yZ,AP.f156,n0,lA,cA,e1,n1,lB,cB,e2,n2,e3,ga3,gb3,ra,rb,k1,k2,a0,b0,cm,c1,e4,n3,lA',cA',gz4,st5,ga5,gb5,a3,b3,an,bn,a2,b2,ga6,gb6,kj,cV,sV,gd6,st7,gd7,rR,lR,cR,gc7,st8]
   · rw[df (fun q=>d2 q.symm),QZ,if_neg (by decide)]at eh6
     subst eh6
     simp (disch:=omega)only[go_sem,yZ,AP.f156,n0,lA,cA,e1,n1,lB,cB,e2,n2,e3,ga3,gb3,ra,rb,k1,k2,a0,b0,cm,c1,e4,n3,lA',cA',gz4,st5,ga5,gb5,a3,b3,an,bn,a2,b2,ga6,gb6,kj,cV,sV,gd6,st7,gd7,rR,lR,cR,gc7,st8]
theorem IQ {h:H} {e:zO} {i:Nat} (l:List Int) (hg:h.get i=some (ints l)) (hl:l.length=4) (hf:h.floor≤i):∃h',aV AP.A 158 [.agg (yL e (.aI i 0 4 1))] h=some (.cf [],h')∧h'.floor=h.floor∧h.next≤h'.next∧∀k,k≠i→k<h.next→h'.get k=h.get k:=by
 obtain⟨h1,eh1⟩:∃g,g=h.alloc (yL e (.aI i 0 4 1)):=⟨_,rfl⟩
 have hi:=h.lt _ _ hg
 have g1:h1.get i=some (ints l):=by rw[eh1,yR (by omega)];exact hg
 have z1:h1.get h.next=some (yL e (.aI i 0 4 1)):=by rw[eh1,yS rfl]
 obtain⟨l',k1,k2⟩:=IV g1 (by omega) (by rw[eh1];simp;exact hf)
 rw[hl]at k1
 obtain⟨h2,eh2⟩:∃g,g=h1.set i (ints l'):=⟨_,rfl⟩
 rw[←eh2]at k1
 have c2:(yL e (.aI i 0 4 1))[2]?=some (.aI i 0 4 1):=rfl
 have lE:(yL e (.aI i 0 4 1)).length=9:=rfl
 have cE:AV.aG (yL e (.aI i 0 4 1))=true:=rfl
 have e1:=eh1.symm
 obtain⟨e2,he⟩:∃e2,aP (aV AP.A) bL AP.f158.body (params 0 [.agg (yL e (.aI i 0 4 1))]) h=some (.normal,e2,h2):=by
  clear g1 hg
  generalize yL e (.aI i 0 4 1)=E at *
  refine⟨?_, ?_⟩
  rotate_left
  · simp (disch:=omega)only[go_sem,yZ,AP.f158,lE,cE,e1,z1,c2,k1]
    rfl
 exact⟨h2,zh (fn:=AP.f158) (e:=e2) (vs:=[]) rfl rfl rfl he rfl,by rw[eh2,eh1];simp,by rw[eh2,eh1];simp,fun k q1 q2=>by rw[eh2,yX q1,eh1,yR (by omega)]⟩
theorem Hy (h:H):∃h',aV AP.A 158 [.agg (yL zw .aT)] h=some (.cf [],h')∧h'.floor=h.floor∧h.next≤h'.next∧∀k,k<h.next→h'.get k=h.get k:=by
 obtain⟨h1,eh1⟩:∃g,g=h.alloc (yL zw .aT):=⟨_,rfl⟩
 have z1:h1.get h.next=some (yL zw .aT):=by rw[eh1,yS rfl]
 have k1:=Hz h1
 have c2:(yL zw .aT)[2]?=some .aT:=rfl
 have lE:(yL zw .aT).length=9:=rfl
 have cE:AV.aG (yL zw .aT)=true:=rfl
 have e1:=eh1.symm
 obtain⟨e2,he⟩:∃e2,aP (aV AP.A) bL AP.f158.body (params 0 [.agg (yL zw .aT)]) h=some (.normal,e2,h1):=by
  generalize yL zw .aT=E at *
  refine⟨?_, ?_⟩
  rotate_left
  · simp (disch:=omega)only[go_sem,yZ,AP.f158,lE,cE,e1,z1,c2,k1]
    rfl
 exact⟨h1,zh (fn:=AP.f158) (e:=e2) (vs:=[]) rfl rfl rfl he rfl,by rw[eh1];simp,by rw[eh1];simp,fun k q2=>by rw[eh1,yR (by omega)]⟩
theorem BS (a:zO):CG a a=true:=(DI a a).2 rfl
theorem Ik {a b:List Int} (ha:a.length=4) (hb:b.length=4):(zr a b).length=4:=by unfold zr;rw[List.length_zipWith];omega
theorem FI (h8 : H) (hf : h8.floor ≤ h8.next) (a b : zO) (va vb xv yv : AV) (sa : va.sc = true) (sb : vb.sc = true) (sx : xv.sc = true) (sy : yv.sc = true) (oka : Av h8 (a, va)) (okb : Av h8 (b, vb)) (okx : Av h8 (a, xv)) (oky : Av h8 (b, yv)) :
 ∃ (M O : List AV) (me : Int) (h9 : H), aV AP.A 97 [.agg (yL a xv), .agg (yL b yv)] h8 = some (.cf [.agg M, .int .i64 me], h9) ∧ h9.floor = h8.floor ∧ h8.next ≤ h9.next ∧ (∀ i, i < h8.next → h9.get i = h8.get i) ∧
   (M.length=9∧AV.aG M=true∧jj true 9 M 0=some (.agg M))∧(O.length=9∧AV.aG O=true∧jj true 9 O 0=some (.agg O))∧
   (∀g,Ext h8 g→aV AP.A 156 [.agg (yL a va),.agg (yL b vb)] g=some (.cf [.agg O,.int .i64 me],g))∧
   (∀g,Ext h9 g→aV AP.A 98 [.agg M,.agg O] g=some (.bool true,g))∧
   (∀g,Ext h9 g→h9.next≤g.next→g.floor≤h8.next→∃g',aV AP.A 158 [.agg M] g=some (.cf [],g')∧g'.floor=g.floor∧g.next≤g'.next∧∀k,k<h8.next→g'.get k=g.get k):=by
 have m1:=Dz h8 hf a b xv yv sx sy okx oky
 have m2:=fun g (hg:Ext h8 g)=>Im g a b va vb sa sb (oka.mono hg) (okb.mono hg)
 cases hm:zy a b with
 | none =>
   rw[hm]at m1 m2
   obtain⟨h9,q1,q2,q3,q4⟩:=m1
   have ok0:∀g,Av g (zw,.aT):=fun g=>⟨⟨rfl,fun s q=>by cases q⟩,by decide,by decide,by decide⟩
   refine⟨yL zw .aT,Z9,1500,h9,q1,q2,by omega,q4,⟨rfl,rfl,rfl⟩,⟨rfl,rfl,rfl⟩,m2,fun g _=> ?_,fun g hg hn _=> ?_⟩
   · have:=C6 g zw zw .aT .aT rfl rfl (ok0 g) (ok0 g)
     rw[BS]at this;exact this
   · obtain⟨g',r1,r2,r3,r4⟩:=Hy g
     exact⟨g',r1,r2,r3,fun k hk=>r4 k (by omega)⟩
 | some r =>
   rw[hm]at m1 m2
   obtain⟨h9,q1,q2,q3,q4,q5⟩:=m1
   have hr:r.vec.length=4∧r.name.size<1125899906842624∧r.packed.size<1125899906842624:=by
    unfold zy at hm
    split at hm
    · rename_i hc
      simp only[yc]at hc
      have:=xO hm
      subst this
      refine⟨Ik (Cm hc.1) (Cm hc.2.1), ?_, ?_⟩
      · show(if BU a b then b else a).name.size<_
        split
        · exact okb.nl
        · exact oka.nl
      · show(if BU a b then b else a).packed.size<_
        split
        · exact okb.pl
        · exact oka.pl
    · cases hm
   obtain⟨r4,rn,rp⟩:=hr
   refine⟨yL r (.aI (h8.next+6) 0 4 1),yL r (zj r.vec),0,h9,q1,q3,by omega,q5,⟨rfl,rfl,rfl⟩,⟨rfl,rfl,rfl⟩,m2,fun g hg=> ?_,fun g hg hn hfl=> ?_⟩
   · have:=C6 g r r (.aI (h8.next+6) 0 4 1) (zj r.vec) rfl rfl ⟨Rd.obj (hg _ _ q2) r4,by show r.vec.length<_;omega,rn,rp⟩ ⟨AJ g r.vec,by show r.vec.length<_;omega,rn,rp⟩
     rw[BS]at this;exact this
   · obtain⟨g',s1,s2,s3,s4⟩:=IQ (e:=r) r.vec (hg _ _ q2) r4 (by omega)
     exact⟨g',s1,s2,s3,fun k hk=>s4 k (by omega) (by omega)⟩
set_option maxHeartbeats 4000000 in
theorem Hk (h:H) (a b:zO) (va vb:AV) (sa:va.sc=true) (sb:vb.sc=true) (oka:Av h (a,va)) (okb:Av h (b,vb)) (la:a.vec.length<20000000000000) (lb:b.vec.length<20000000000000):
 aV AP.A 147 [.agg (yL a va),.agg (yL b vb)] h=some (.bool true,h):=by
 have k0:∀g,aV AP.A 95 [] g=some (.bool true,g):=Ha
 have k9:=fun (g:H) n=>J5 g n
 simp only[I]at k9
 obtain⟨h1,eh1⟩:∃g,g=h.eY.alloc (yL a va):=⟨_,rfl⟩
 obtain⟨h2,eh2⟩:∃g,g=h1.alloc (yL b vb):=⟨_,rfl⟩
 obtain⟨h3,eh3⟩:∃g,g=h2.alloc Z9:=⟨_,rfl⟩
 obtain⟨h4,eh4⟩:∃g,g=h3.alloc Z9:=⟨_,rfl⟩
 have n0:h.eY.next=h.next:=rfl
 have n1:h1.next=h.next+1:=by rw[eh1];simp
 have n2:h2.next=h.next+2:=by rw[eh2];simp [n1]
 have n3:h3.next=h.next+3:=by rw[eh3];simp [n2]
 have n4:h4.next=h.next+4:=by rw[eh4];simp [n3]
 have f4:h4.floor=h.next:=by rw[eh4,eh3,eh2,eh1];simp
 have x4:Ext h h4:=fun i c q=>by rw[eh4,eh3,eh2,eh1];exact(((((Ext.refl h.eY).alloc _).alloc _).alloc _).alloc _) i c q
 have g40:h4.get h.next=some (yL a va):=by rw[eh4,yR (by omega),eh3,yR (by omega),eh2,yR (by omega),eh1,yS (by simp)]
 have g41:h4.get (h.next+1)=some (yL b vb):=by rw[eh4,yR (by omega),eh3,yR (by omega),eh2,yS (by omega)]
 have g42:h4.get (h.next+2)=some Z9:=by rw[eh4,yR (by omega),eh3,yS (by omega)]
 have g43:h4.get (h.next+3)=some Z9:=by rw[eh4,yS (by omega)]
 obtain⟨h5,xv,k1,ex,rx,f5,n5,x5,_⟩:=EM h4 (by omega) a va sa (oka.mono x4) la
 have x45:Ext h h5:=fun i c q=>x5 _ _ (x4 _ _ q)
 obtain⟨h6,yv,k2,ey,ry,f6,n6,x6,_⟩:=EM h5 (by omega) b vb sb (okb.mono x45) lb
 have sx:xv.sc=true:=by rw[ex];split<;>rfl
 have sy:yv.sc=true:=by rw[ey];split<;>rfl
 obtain⟨h7,eh7⟩:∃g,g=h6.set (h.next+2) (yL a xv):=⟨_,rfl⟩
 obtain⟨h8,eh8⟩:∃g,g=h7.set (h.next+3) (yL b yv):=⟨_,rfl⟩
 have low8:∀i,i≠h.next+2→i≠h.next+3→h8.get i=h6.get i:=fun i q1 q2=>by rw[eh8,yX q2,eh7,yX q1]
 have g50:h5.get h.next=some (yL a va):=x5 _ _ g40
 have g51:h5.get (h.next+1)=some (yL b vb):=x5 _ _ g41
 have g52:=x5 _ _ g42
 have g53:=x5 _ _ g43
 have g62:h6.get (h.next+2)=some Z9:=x6 _ _ (x5 _ _ g42)
 have g63:h6.get (h.next+3)=some Z9:=x6 _ _ (x5 _ _ g43)
 have g73:h7.get (h.next+3)=some Z9:=by rw[eh7,yX (by omega)];exact g63
 have z0:h8.get h.next=some (yL a va):=by rw[low8 _ (by omega) (by omega)];exact x6 _ _ g50
 have z1:h8.get (h.next+1)=some (yL b vb):=by rw[low8 _ (by omega) (by omega)];exact x6 _ _ g51
 have z2:h8.get (h.next+2)=some (yL a xv):=by rw[eh8,yX (by omega),eh7,zc rfl,g62];rfl
 have z3:h8.get (h.next+3)=some (yL b yv):=by rw[eh8,zc rfl,g73];rfl
 have f8:h8.floor=h.next:=by rw[eh8,eh7];simp [f6,f5,f4]
 have n8:h8.next=h6.next:=by rw[eh8,eh7];simp
 have x8:Ext h h8:=fun i c q=>by have:=h.lt _ _ q;rw[low8 i (by omega) (by omega)];exact x6 _ _ (x45 _ _ q)
 have st7:wZ h6 (h.next+2) 0 9 (yL a xv) (some Z9)=some h7:=by rw[eh7];exact zD (by omega) rfl rfl (zZ sx)
 have st8:wZ h7 (h.next+3) 0 9 (yL b yv) (some Z9)=some h8:=by rw[eh8];exact zD (by rw[eh7];simp;omega) rfl rfl (zZ sy)
 have okx:Av h8 (a,xv):=⟨(rx.mono fun i c q=>x6 i c q:Rd h6 xv (ints a.vec)).DA fun i q=>low8 i (by rw[ex]at q;split at q<;>(have:=xO q;omega)) (by rw[ex]at q;split at q<;>(have:=xO q;omega)),by show a.vec.length<_;omega,oka.nl,oka.pl⟩
 have oky:Av h8 (b,yv):=⟨ry.DA fun i q=>low8 i (by rw[ey]at q;split at q<;>(have:=xO q;omega)) (by rw[ey]at q;split at q<;>(have:=xO q;omega)),by show b.vec.length<_;omega,okb.nl,okb.pl⟩
 have k3:=EN h8 (by omega) a xv sx okx
 have k4:=HT h8 a va sa (oka.mono x8)
 obtain⟨t,te,ht⟩:∃(t:ByteArray) (te:Int),DX a=.cf [.str t,.int .i64 te]:=by
  unfold DX
  split
  · exact⟨_,_,rfl⟩
  · split<;>exact⟨_,_,rfl⟩
 rw[ht]at k3 k4
 obtain⟨M,O,me,h9,m1,m2,m3,m4,⟨m5,m6,m7⟩,⟨o5,o6,o7⟩,m8,m9,m10⟩:=FI h8 (by omega) a b va vb xv yv sa sb sx sy (oka.mono x8) (okb.mono x8) okx oky
 have x9:Ext h8 h9:=fun i c q=>by rw[m4 i (h8.lt _ _ q)];exact q
 obtain⟨P,hP⟩:∃P,P=h9.next:=⟨_,rfl⟩
 obtain⟨h10,eh10⟩:∃g,g=h9.alloc Z9:=⟨_,rfl⟩
 obtain⟨h11,eh11⟩:∃g,g=h10.set P M:=⟨_,rfl⟩
 have P9:h9.next=P:=hP.symm
 have n11:h11.next=P+1:=by rw[eh11,eh10];simp [hP]
 have w10:h10.get P=some Z9:=by rw[eh10,yS hP]
 have w11:h11.get P=some M:=by rw[eh11,zc rfl,w10];rfl
 have st11:wZ h10 P 0 9 M (some Z9)=some h11:=by rw[eh11];exact zD (by rw[eh10];simp;omega) m5 rfl m6
 have x11:Ext h9 h11:=fun i c q=>by have:=h9.lt _ _ q;rw[eh11,yX (by omega),eh10,yR (by omega)];exact q
 obtain⟨h12,eh12⟩:∃g,g=h11.alloc Z9:=⟨_,rfl⟩
 obtain⟨h13,eh13⟩:∃g,g=h12.set (P+1) O:=⟨_,rfl⟩
 have w12:h12.get (P+1)=some Z9:=by rw[eh12,yS n11.symm]
 have w13:h13.get (P+1)=some O:=by rw[eh13,zc rfl,w12];rfl
 have st13:wZ h12 (P+1) 0 9 O (some Z9)=some h13:=by rw[eh13];exact zD (by rw[eh12,eh11,eh10];simp;omega) o5 rfl o6
 have x13:Ext h11 h13:=fun i c q=>by have:=h11.lt _ _ q;rw[eh13,yX (by omega),eh12,yR (by omega)];exact q
 have x913:Ext h9 h13:=fun i c q=>x13 _ _ (x11 _ _ q)
 have x813:Ext h8 h13:=fun i c q=>x913 _ _ (x9 _ _ q)
 have w13M:=x13 _ _ w11
 have f13:h13.floor=h.next:=by rw[eh13,eh12,eh11,eh10];simp [m2,f8]
 have n13:h13.next=P+2:=by rw[eh13,eh12];simp [n11]
 have k6:=m8 h11 (fun i c q=>x11 _ _ (x9 _ _ q))
 have k7:=m9 h13 x913
 obtain⟨h14,k8,f14,n14,low14⟩:=m10 h13 x913 (by omega) (by omega)
 have k10:=BN h13 (by omega) a xv sx (okx.mono x813)
 have k11:=Bz h13 a va sa (oka.mono fun i c q=>x813 _ _ (x8 _ _ q))
 have x14:Ext h8 h14:=fun i c q=>by rw[low14 i (h8.lt _ _ q)];exact x813 _ _ q
 have k12:=C6 h14 a a xv va sx sa (okx.mono x14) (oka.mono fun i c q=>x14 _ _ (x8 _ _ q))
 have k13:=C6 h14 b b yv vb sy sb (oky.mono x14) (okb.mono fun i c q=>x14 _ _ (x8 _ _ q))
 rw[BS]at k12 k13
 have ra:jj true 9 (yL a va) 0=some (.agg (yL a va)):=rfl
 have rb:jj true 9 (yL b vb) 0=some (.agg (yL b vb)):=rfl
 have rX:jj true 9 (yL a xv) 0=some (.agg (yL a xv)):=rfl
 have rY:jj true 9 (yL b yv) 0=some (.agg (yL b yv)):=rfl
 have lA:(yL a va).length=9:=rfl
 have lB:(yL b vb).length=9:=rfl
 have lX:(yL a xv).length=9:=rfl
 have lY:(yL b yv).length=9:=rfl
 have cA:=zZ (e:=a) sa
 have cB:=zZ (e:=b) sb
 have cX:=zZ (e:=a) sx
 have cY:=zZ (e:=b) sy
 have e1:h.eY.alloc (yL a va)=h1:=eh1.symm
 have e2:h1.alloc (yL b vb)=h2:=eh2.symm
 have e3:h2.alloc [.str ⟨#[]⟩,.bool false,.aT,.int .i64 0,.int .i64 0,.int .i64 0,.str ⟨#[]⟩,.int .i64 0,.int .i64 0]=h3:=eh3.symm
 have e4:h3.alloc [.str ⟨#[]⟩,.bool false,.aT,.int .i64 0,.int .i64 0,.int .i64 0,.str ⟨#[]⟩,.int .i64 0,.int .i64 0]=h4:=eh4.symm
 have e10:h9.alloc [.str ⟨#[]⟩,.bool false,.aT,.int .i64 0,.int .i64 0,.int .i64 0,.str ⟨#[]⟩,.int .i64 0,.int .i64 0]=h10:=eh10.symm
 have e12:h11.alloc [.str ⟨#[]⟩,.bool false,.aT,.int .i64 0,.int .i64 0,.int .i64 0,.str ⟨#[]⟩,.int .i64 0,.int .i64 0]=h12:=eh12.symm
 have z91:=x9 _ _ z2
 have z92:=x11 _ _ (x9 _ _ z0)
 have z93:=x11 _ _ (x9 _ _ z1)
 have y0:=x813 _ _ z0
 have y2:=x813 _ _ z2
 have u0:=x14 _ _ z0
 have u1:=x14 _ _ z1
 have u2:=x14 _ _ z2
 have u3:=x14 _ _ z3
 have ss:=DN t
 have nq:bH .neq (.str t) (.str t)=some (.bool false):=by rw[Bf,ss];rfl
 have bb:(!(zK a==zK a))=false:=by simp
 refine wX (fn:=AP.f147) (h2:=h14) (e:=[(4,.bool true)]) rfl rfl rfl ?_ rfl rfl
 clear x4 x5 x45 x6 x8 x9 x11 x13 x913 x813 x14 oka okb okx oky rx ry m8 m9 m10 m4 low8 low14 ex ey
 generalize yL a va=A at *
 generalize yL b vb=B at *
 generalize yL a xv=X at *
 generalize yL b yv=Y at *
 simp (disch:=omega)only[go_sem,yZ,AP.f147,n0,lA,cA,e1,n1,lB,cB,e2,n2,e3,n3,e4,g40,ra,k1,g51,rb,k2,lX,cX,lY,cY,g41,g52,g53,g62,g63,st7,g73,st8,z0,z1,z2,z3,rX,rY,k3,k4,m1,e10,P9,m5,m6,w10,st11,z92,z93,k6,e12,n11,o5,o6,w12,st13,nq,k9,w13M,m7,w13,o7,k7,y0,y2,k10,k11,bb,k8,u0,u1,u2,u3,k12,k13,k0]
theorem FB (r:List (Ty×List AV)) (h:r.map (·.1)=[F7,F7]) (hp:∀x∈r,Sh reachBytes x.1 x.2):aV AP.A 147 (r.map lI) H.empty=some (.bool true,H.empty):=by
 obtain⟨x,y,rfl,h1,h2⟩:=Qm h hp
 obtain⟨a,va,rfl,sa,oa,la⟩:=IF h1
 obtain⟨b,vb,rfl,sb,ob,lb⟩:=IF h2
 exact Hk H.empty a b va vb sa sb (oa _) (ob _) la lb
end Ab
