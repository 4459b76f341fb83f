/- Part C4. -/
import Derived.Test.YtebioenemijecaaGreatDoorC3
set_option linter.unusedSimpArgs false
set_option linter.unusedVariables false
set_option maxRecDepth 100000
namespace Ab
open Go
theorem Ol (h:H) (hf:h.floor≤h.next) (e:xP) (v:AV) (hv:v.sc=true) (ok:yF h (e,v)) (h4:e.vec.length=4):
 ∃h' i,aU AP.A 308 [.agg (xA e v)] h=some (.agg (xA e (.aH i 0 4 1)),h')∧h'.get i=some (ints e.vec)∧h.next≤i∧Ext h h'∧h'.floor=h.floor∧h.next≤h'.next:=by
 obtain⟨h1,eh1⟩:∃g,g=h.alloc (xA e v):=⟨_,rfl⟩
 obtain⟨h2,eh2⟩:∃g,g=h1.alloc (xA DQ .aS):=⟨_,rfl⟩
 obtain⟨h3,eh3⟩:∃g,g=((h2.alloc []).del h2.next).alloc (ints e.vec):=⟨_,rfl⟩
 have n1:h1.next=h.next+1:=by rw[eh1];simp
 have n2:h2.next=h.next+2:=by rw[eh2];simp [n1]
 have n3:h3.next=h.next+4:=by rw[eh3];simp [n2]
 have f2:h2.floor=h.floor:=by rw[eh2,eh1];simp
 have f3:h3.floor=h.floor:=by rw[eh3];simp [f2]
 have low:∀i,i<h.next+2→h3.get i=h2.get i:=fun i hi=>by rw[eh3,xI (by simp [n2];omega),H.eS,if_neg (by omega),xI (by omega)]
 have x2:Ext h h2:=by rw[eh2,eh1];exact((Ext.refl h).alloc _).alloc _
 have ga:h2.get h.next=some (xA e v):=by rw[eh2,xI (by omega),eh1,xE rfl]
 have gz:h2.get (h.next+1)=some (xA DQ .aS):=by rw[eh2,xE (by omega)]
 have k1:=G6 h2 v e.vec (ok.vec.mono fun i c q=>x2 i c q) (by omega) (by omega) (by rw[f2,n2];omega)
 rw[n2,h4]at k1
 rw[←n2,←eh3,n2]at k1
 have g3:h3.get (h.next+3)=some (ints e.vec):=by rw[eh3,xE (by simp [n2])]
 have ga3:h3.get h.next=some (xA e v):=by rw[low _ (by omega)];exact ga
 have gz3:h3.get (h.next+1)=some (xA DQ .aS):=by rw[low _ (by omega)];exact gz
 obtain⟨w,hw⟩:∃w,w=AV.aH (h.next+3) 0 4 1:=⟨_,rfl⟩
 have k1':aU AP.A 118 [v] h2=some (w,h3):=by rw[hw];exact k1
 have sw:w.sc=true:=by rw[hw];rfl
 have cw:=ye sw
 obtain⟨h4',eh4⟩:∃g,g=h3.set h.next (xA e w):=⟨_,rfl⟩
 obtain⟨h5,eh5⟩:∃g,g=h4'.set (h.next+1) (xA e w):=⟨_,rfl⟩
 have ga4:h4'.get h.next=some (xA e w):=by rw[eh4,xH rfl,ga3];rfl
 have gz4:h4'.get (h.next+1)=some (xA DQ .aS):=by rw[eh4,xC (by omega)];exact gz3
 have gz5:h5.get (h.next+1)=some (xA e w):=by rw[eh5,xH rfl,gz4];rfl
 have st4:vR h3 h.next 2 1 [w] (some (xA e v))=some h4':=by rw[wx (by omega) (by show 2<9;omega) sw,eh4];rfl
 have st5:vR h4' (h.next+1) 0 9 (xA e w) (some (xA DQ .aS))=some h5:=by
  rw[eh5];exact yl (by rw[eh4];simp;omega) rfl rfl (yH sw)
 have K:aU AP.A 308 [.agg (xA e v)] h=some (.agg (xA e w),h5):=by
  refine vv (fn:=AP.f308) (h2:=h5) (e:=[(2,.aG (h.next+1) 0)]) (vs:=[.agg (xA e w)]) rfl rfl rfl ?_ (by simp only[AP.f308,c9,oL,ou,sX,gz5,uX];rfl)
  have z:h1.alloc [.str ⟨#[]⟩,.bool false,.aS,.int .i64 0,.int .i64 0,.int .i64 0,.str ⟨#[]⟩,.int .i64 0,.int .i64 0]=h2:=eh2.symm
  have lE:(xA e v).length=9:=rfl
  have cE:=yH (e:=e) hv
  have e2:(xA e v)[2]?=some v:=rfl
  have rr:iO true 9 (xA e w) 0=some (.agg (xA e w)):=rfl
  clear ok low x2 hw
  generalize xA e v=A at *
  generalize xA e w=B at *
  simp (disch:=omega)only[go_sem,xF,AP.f308,lE,cE,←eh1,n1,z,ga,e2,k1',ga3,cw,st4,ga4,rr,gz4,st5]
 rw[hw]at K
 refine⟨h5,h.next+3,K, ?_,by omega,fun i c q=> ?_,by rw[eh5,eh4];simp [f3],by rw[eh5,eh4];simp;omega⟩
 · rw[eh5,xC (by omega),eh4,xC (by omega)];exact g3
 · have:=h.lt _ _ q
   rw[eh5,xC (by omega),eh4,xC (by omega),low _ (by omega)];exact x2 i c q
def Bn (L:List xP) (b:L3):Bool:=(xO b.1 L).2&&(match L[(xO b.1 L).1]? with|some e=>decide (yw e.vec b.2=e.vec)|none=>false)
theorem Fy (s:ByteArray):∀(L:List xP),(xO s L).2=true→(xO s L).1<L.length
 |[],h=>by cases h
 | e :: L, h => by
   rw[xO]at h ⊢
   by_cases c:Op.bytesLess e.name.toList s.toList=true
   · rw[if_pos c]at h ⊢
     have:=Fy s L h
     simp only[aaV];omega
   · rw[if_neg c];simp
theorem yB {L:List xP} (h:yh L=true):yK L=true:=by
 unfold yh at h;rw[wT]at h;exact h.1
theorem Bt {L:List xP} (h:yh L=true):∀e∈L,yS e.vec=true∧e.vec.length=4∧e.name.size≤8:=fun e he=>by
 have m:=(yu (yB h)).2.1 e he
 have v:=m.2.1
 simp only[yy,wT]at v
 exact⟨v.1,(z9 m.2.1).1,(zq m.1).2⟩
structure Sd (h:H) (v w:AV) (l:List xN):Prop where
 rd:yM 9 h v l.length (xG l)
 ok:∀x∈l,yF h x∧x.2.sc=true
 fo:yh (l.map (·.1))=true
 dg:Rd h w (ints (xQ (l.map (·.1))))
theorem Sd.mono {h g:H} {v w:AV} {l:List xN} (s:Sd h v w l) (e:Ext h g):Sd g v w l:=
 ⟨s.rd.mono fun i c q=>e i c q,fun x hx=>⟨(s.ok x hx).1.mono e,(s.ok x hx).2⟩,s.fo,s.dg.mono fun i c q=>e i c q⟩
theorem Sd.len {h:H} {v w:AV} {l:List xN} (s:Sd h v w l):l.length≤6:=by
 have:=(yu (yB s.fo)).1
 simpa using this
theorem OJ (h:H) (hf:h.floor≤h.next) (S:Nat) (v w:AV) (l:List xN) (sd:Sd h v w l) (gS:h.get S=some [v,w]) (p:AV) (b:L3) (vb:AV) (pn:∀g,kh g p=some (p,g)) (p0 p1:AV) (q0:fZ 0 p=some p0) (q1:fZ 1 p=some p1) (l0:∀g,Ext h g→cf false 1 p0 g=some (.str b.1)) (l1:∀g,Ext h g→cf false 1 p1 g=some vb) (rv:Rd h vb (ints b.2)) (hb:yS b.2=true):
 ∃h',aU AP.A 306 [.aG S 0,p] h=some (.bool (Bn (l.map (·.1)) b),h')∧Ext h h'∧h'.floor=h.floor∧h.next≤h'.next:=by
 have ln:=sd.len
 have k1:=PC h S 0 v gS rfl l ln sd.rd (fun x hx=>(sd.ok x hx).2) b.1 (Nt (yB sd.fo))
 have m0:=l0 h (Ext.refl h)
 have m1:=l1 h (Ext.refl h)
 unfold Bn
 cases hp:(xO b.1 (l.map (·.1))).2 with
 | false =>
   rw[hp]at k1
   rw[aa4]
   refine⟨h,vv (fn:=AP.f306) (h2:=h) (e:=[(4,.bool false)]) (vs:=[.bool false]) rfl rfl rfl ?_ rfl,Ext.refl h,rfl,wU _⟩
   clear sd l0 l1 rv
   generalize (xO b.1 (l.map (·.1))).1=K at *
   simp (disch:=omega)only[go_sem,xF,AP.f306,pn,q0,q1,m0,m1,k1]
 | true =>
   rw[hp]at k1
   rw[aa3]
   have lt:=Fy _ _ hp
   rw[aa0]at lt
   obtain⟨x,hx⟩:∃x,l[(xO b.1 (l.map (·.1))).1]?=some x:=⟨l[(xO b.1 (l.map (·.1))).1],by simp⟩
   have hx':(l.map (·.1))[(xO b.1 (l.map (·.1))).1]?=some x.1:=by rw[xa,hx];rfl
   rw[hx']
   have hm:=wX hx
   obtain⟨ok,sc⟩:=sd.ok x hm
   have fx:=Bt sd.fo x.1 (aa6.2 ⟨x,hm,rfl⟩)
   obtain⟨ad,a1,a2⟩:=sd.rd.HY
   obtain⟨pe,_⟩:=a2 h (Ext.refl h) _ x hx
   have b1:=a1 (xO b.1 (l.map (·.1))).1 ⟨by omega,by omega⟩
   obtain⟨qq,f1,f2⟩:=pe.vm
   have e2:=f2 h (Ext.refl h) 2 _ rfl
   obtain⟨h',k2,g2,f',n',low⟩:=OH h x.2 vb x.1.vec b.2 ok.vec rv fx.1 hb hf
   have x':Ext h h':=fun i c q=>by rw[low i (h.lt _ _ q)];exact q
   have jl:(yw x.1.vec b.2).length=4:=by
    have:b.2.length=4:=by simp only[yS,wT,aa1]at hb;exact hb.1
    simp [yw,fx.2.1,this]
   have k3:=Xd h' (.aH (h.next+1) 0 4 1) x.2 (yw x.1.vec b.2) x.1.vec (Rd.obj g2 jl) (ok.vec.mono fun i c q=>x' i c q) (by omega) (by omega)
   refine⟨h',vv (fn:=AP.f306) (h2:=h') (e:=[(4,.bool (decide (yw x.1.vec b.2=x.1.vec)))]) (vs:=[.bool (decide (yw x.1.vec b.2=x.1.vec))]) rfl rfl rfl ?_ rfl,x',f',by omega⟩
   clear sd l0 l1 rv a1 a2 pe f2 ok x' low hx hx' hm
   generalize (xO b.1 (l.map (·.1))).1=K at *
   generalize decide (yw x.1.vec b.2=x.1.vec)=B at *
   simp (disch:=omega)only[go_sem,xF,AP.f306,pn,q0,q1,m0,m1,gS,abl,b1,f1,e2,k1,k2,k3]
structure Z5 (h:H) (O:Nat) (y:yT):Prop where
 get:h.get O=some (xz y)
 fl:h.floor≤O
theorem NC (h:H) (S M O:Nat) (v w:AV) (l:List xN) (sd:Sd h v w l) (gS:h.get S=some [v,w]) (x y:yT) (gM:h.get M=some (xz x)) (gO:h.get O=some (xz y)) (hO:h.floor≤O) (ne:S≠O∧M≠O) (sw:w.sc=true):
 aU AP.A 300 [.aG S 0,.aG M 0,.aG O 0] h=some (.bool (!decide (xZ (xQ (l.map (·.1)))=x.m.root)),h.set O (xz {y with m:={y.m with kind:=1},vd:=w})):=by
 have k1:=Nu h w _ sd.dg (by rw[x9];omega)
 unfold FJ at k1
 rw[Ca,x9,dt rfl,abm,if_pos rfl]at k1
 obtain⟨h1,eh1⟩:∃g,g=h.set O (xz {y with m:={y.m with kind:=1}}):=⟨_,rfl⟩
 have FO:vR h O 0 1 [.int .i64 1] (some (xz y))=some h1:=by rw[wx hO (by show 0<9;omega) rfl,eh1];rfl
 have g1:h1.get O=some (xz {y with m:={y.m with kind:=1}}):=by rw[eh1,xH rfl,gO];rfl
 have st2:vR h1 O 4 1 [w] (some (xz {y with m:={y.m with kind:=1}}))=some (h.set O (xz {y with m:={y.m with kind:=1},vd:=w})):=by rw[wx (by rw[eh1];simpa using hO) (by show 4<9;omega) sw,eh1,H.set_set];rfl
 have cw:=ye sw
 obtain⟨h2,eh2⟩:∃g,g=h.set O (xz {y with m:={y.m with kind:=1},vd:=w}):=⟨_,rfl⟩
 have g2:h2.get M=some (xz x):=by rw[eh2,xC ne.2];exact gM
 have e3:(xz x)[3]?=some (.int .i64 x.m.root):=rfl
 rw[←eh2]at st2 ⊢
 refine vv (fn:=AP.f300) (h2:=h2) (e:=[(6,.bool (!decide (xZ (xQ (l.map (·.1)))=x.m.root)))]) (vs:=[.bool (!decide (xZ (xQ (l.map (·.1)))=x.m.root))]) rfl rfl rfl ?_ rfl
 clear sd
 generalize xZ (xQ (l.map (·.1)))=R at *
 generalize xz x=X at *
 generalize xz y=Y at *
 generalize xz {y with m:={y.m with kind:=1}}=Y1 at *
 by_cases c:R=x.m.root
 · rw[dt c]
   simp (disch:=omega)only[go_sem,xF,AP.f300,wY,abl,gS,k1,gO,FO,g1,cw,st2,g2,e3,PQ c]
 · rw[df c]
   simp (disch:=omega)only[go_sem,xF,AP.f300,wY,abl,gS,k1,gO,FO,g1,cw,st2,g2,e3,Vh c]
structure L6 (B G:H) (S M O:Nat) (v w:AV) (l:List xN) (x:yT):Prop where
 sd:Sd B v w l
 ox:B0 B x
 gS:G.get S=some [v,w]
 gM:G.get M=some (xz x)
 ne:S≠O∧M≠O
 Zj:Ext B G
 BO:B.next≤O
 ON:O<G.next
 fO:G.floor≤O
 fG:G.floor≤G.next
theorem L6.ext {B G h:H} {S M O:Nat} {v w:AV} {l:List xN} {x:yT} (k:L6 B G S M O v w l x) (low:∀i c,i≠O→G.get i=some c→h.get i=some c):Ext B h:=fun i c q=>by
 have:=B.lt _ _ q
 have:=k.BO
 exact low i c (by omega) (k.Zj i c q)
theorem L6.S_ {B G h:H} {S M O:Nat} {v w:AV} {l:List xN} {x:yT} (k:L6 B G S M O v w l x) (low:∀i c,i≠O→G.get i=some c→h.get i=some c):h.get S=some [v,w]∧h.get M=some (xz x):=
 ⟨low S _ k.ne.1 k.gS,low M _ k.ne.2 k.gM⟩
def yk:Nat→List Int→List Int→List Int
 |i,d::ds,m::ms=>if m=d then yk (i+1) ds ms else(i:Int)::yk (i+1) ds ms
 |_,_,_=>[]
theorem Bj:∀(ds ms:List Int) (i:Nat) (p:Option Int),i+ds.length≤8→(∀q,p=some q→q<i)→Bq p (yk i ds ms)=true
 |[],_,_,_,_,_=>by simp [yk,Bq]
 |_::_,[],_,_,_,_=>by simp [yk,Bq]
 | d :: ds, m :: ms, i, p, hl, hp => by
   rw[aaV]at hl
   unfold yk
   split
   · exact Bj ds ms (i+1) p (by omega) fun q hq=>by have:=hp q hq;omega
   · unfold Bq
     simp only[wT,aa1]
     refine⟨⟨by omega,by omega, ?_⟩,Bj ds ms (i+1) _ (by omega) fun q hq=>by have:=wH hq;omega⟩
     cases p with
     |none=>rfl
     |some q=>exact dt (hp q rfl)
theorem Co:∀(ds ms:List Int) (i:Nat),(yk i ds ms).length≤ds.length
 |[],_,_=>by simp [yk]
 |_::_,[],_=>by simp [yk]
 | d :: ds, m :: ms, i => by
   unfold yk
   have:=Co ds ms (i+1)
   split<;>simp only[aaV]<;>omega
theorem FW {B G : H} {S M O : Nat} {v w : AV} {l : List xN} {x y : yT} (k3 : L6 B G S M O v w l x) (l8 : x.m.y5.length = 8) : ∀ (q p r p' : List Int), xQ (l.map (·.1)) = p ++ q → x.m.y5 = p' ++ r → p.length = p'.length → ∀ (h : H) (ov : AV) (acc : List Int), (∀ i c, i ≠ O → G.get i = some c → h.get i = some c) → G.next ≤ h.next → h.floor = G.floor → h.get O = some (xz { y with vb := ov }) →
 x8 1 h ov acc.length (ints acc)→(∀j,ov.id?=some j→G.next≤j)→acc.length≤p.length→
 ∃ e' h' ov', Lp AP.A [0, 1, 2, 12, 13, 14] AP.f301L0 [(0, .aG S 0), (1, .aG M 0), (2, .aG O 0), (12, w), (13, .int .i64 8), (14, .int .i64 p.length)] h = some (.exit 0, e', h') ∧ look e' 0 = .aG S 0 ∧ look e' 2 = .aG O 0 ∧
   (∀i c,i≠O→G.get i=some c→h'.get i=some c)∧G.next≤h'.next∧h'.floor=G.floor∧h'.get O=some (xz {y with vb:=ov'})∧x8 1 h' ov' (acc++yk p.length q r).length (ints (acc++yk p.length q r))∧∀j,ov'.id?=some j→G.next≤j
 | [], p, r, p', hp, hp', hpp, h, ov, acc, low, hn, hf, hg, o, ho, ha => by
   rw[aa2]at hp
   have e8:p.length=8:=by rw[←hp,x9]
   refine⟨[(0,.aG S 0),(1,.aG M 0),(2,.aG O 0),(12,w),(13,.int .i64 8),(14,.int .i64 p.length),(15,.bool false)],h,ov,u6 ?_,rfl,rfl,low,hn,hf,hg,by simpa [yk]using o,ho⟩
   rw[e8]
   clear low o hp hp'
   simp (disch:=omega)only[go_sem,xF,AP.f301L0]
 | d :: q, p, [], p', hp, hp', hpp, h, ov, acc, low, hn, hf, hg, o, ho, ha => by
   have:=abt List.length hp
   rw[x9]at this
   rw[hp']at l8
   simp at l8 this;omega
 | d :: q, p, m :: r, p', hp, hp', hpp, h, ov, acc, low, hn, hf, hg, o, ho, ha => by
   have e8:=abt List.length hp
   rw[x9]at e8
   simp only[xu,aaV]at e8
   have xB:=k3.ext low
   obtain⟨gS,gM⟩:=k3.S_ low
   have rw1:=k3.sd.dg
   obtain⟨ad,a1,a2⟩:=rw1.yL
   have b1:=a1 p.length ⟨by omega,by rw[x9];omega⟩
   have b2:=a2 h xB p.length d (by rw[hp];simp)
   obtain⟨cd,c1,c2⟩:=k3.ox.rd.yL
   have d1:=c1 p.length ⟨by omega,by rw[l8];omega⟩
   have d2:=c2 h xB p.length m (by rw[hp',hpp];simp)
   have e4:(xz x)[4]?=some x.vd:=rfl
   have w1:(((p++[d]).length:Nat):Int)=(p.length:Int)+1:=by simp
   by_cases c:m=d
   · obtain⟨e',h',ov',r1,r2,r3,r4,r5,r6,r7,r8,r9⟩:=FW k3 l8 q (p++[d]) r (p'++[m]) (by rw[hp];simp) (by rw[hp'];simp) (by simp [hpp]) h ov acc low hn hf hg o ho (by simp;omega)
     rw[w1]at r1
     have eu:yk p.length (d::q) (m::r)=yk (p++[d]).length q r:=by rw[yk,if_pos c,xu];rfl
     rw[eu]
     refine⟨e',h',ov',u9 ?_ r1,r2,r3,r4,r5,r6,r7,r8,r9⟩
     clear r1 r4 r8 r9 low o a1 a2 c1 c2 hp hp' xB
     generalize xz x=X at *
     simp (disch:=omega)only[go_sem,xF,AP.f301L0,b1,b2,gM,e4,d1,d2,PQ c]
   · obtain⟨v',h1,p1,p2,p3,p4,p5,p6⟩:=o.push (by have:=k3.fG;omega) (z:=8) (m:=1) (by omega) (by omega) [.int .i64 p.length] rfl rfl (by simp [roomy];omega)
     have ea:ints acc++[.int .i64 p.length]=ints (acc++[(p.length:Int)]):=by simp [ints,I]
     have el:acc.length+1=(acc++[(p.length:Int)]).length:=by simp
     rw[ea,el]at p2
     have sv:=p2.sc
     have cv:=ye sv
     have hO:=h.lt _ _ hg
     have oO:ov.id?≠some O:=fun q2=>by have:=ho O q2;have:=k3.ON;omega
     have g1:h1.get O=some (xz {y with vb:=ov}):=by rw[p5 O oO hO];exact hg
     obtain⟨h2,eh2⟩:∃g,g=h1.set O (xz {y with vb:=v'}):=⟨_,rfl⟩
     have st:vR h1 O 5 1 [v'] (some (xz {y with vb:=ov}))=some h2:=by rw[wx (by have:=k3.fO;omega) (by show 5<9;omega) sv,eh2];rfl
     have g2:h2.get O=some (xz {y with vb:=v'}):=by rw[eh2,xH rfl,g1];rfl
     have vj:∀j,v'.id?=some j→j=h.next+1:=fun j q2=>by rw[p6]at q2;exact(wH q2).symm
     obtain⟨e',h',ov',r1,r2,r3,r4,r5,r6,r7,r8,r9⟩:=FW k3 l8 q (p++[d]) r (p'++[m]) (by rw[hp];simp) (by rw[hp'];simp) (by simp [hpp]) h2 v' (acc++[(p.length:Int)])
      (fun i c c2 q3=>by have:=G.lt _ _ q3;rw[eh2,xC c2,p5 i (fun q2=>by have:=ho i q2;omega) (by omega)];exact low i c c2 q3) (by rw[eh2];simp;omega) (by rw[eh2];simp [p3,hf]) g2
      (p2.mono (by rw[eh2];simp) fun i q2=>by have:=vj i q2;rw[eh2,xC (by omega)]) (fun j q2=>by have:=vj j q2;omega) (by simp;omega)
     rw[w1]at r1
     have eu:acc++yk p.length (d::q) (m::r)=(acc++[(p.length:Int)])++yk (p++[d]).length q r:=by rw[yk,if_neg c,xu];simp
     rw[eu]
     refine⟨e',h',ov',u9 ?_ r1,r2,r3,r4,r5,r6,r7,r8,r9⟩
     have e5:(xz {y with vb:=ov})[5]?=some ov:=rfl
     clear r1 r4 r8 r9 low o a1 a2 c1 c2 hp hp' xB p2 p5
     generalize xz x=X at *
     generalize xz {y with vb:=ov}=Y1 at *
     generalize xz {y with vb:=v'}=Y2 at *
     simp (disch:=omega)only[go_sem,xF,AP.f301L0,b1,b2,gM,e4,d1,d2,Vh c,hg,e5,p1,g1,cv,st]
def zB (L:List xP) (ms:List Int):List Int:=yk 0 (xQ L) ms
theorem Hy:AP.f301.body=.seq (at_ 0 AP.f301.body) (.seq (at_ 1 AP.f301.body) (.seq (at_ 2 AP.f301.body) (.seq (at_ 3 AP.f301.body) (I9 4 AP.f301.body)))):=rfl
theorem LS {B G:H} {S M O:Nat} {v w:AV} {l:List xN} {x y:yT} (k3:L6 B G S M O v w l x) (sv:v.sc=true) (l8:x.m.y5.length=8) (gO:G.get O=some (xz y)) (y0:y.vb=.aS):
 ∃ h' ov ow acc, aU AP.A 301 [.aG S 0, .aG M 0, .aG O 0] G = some (.bool (decide (0 < (zB (l.map (·.1)) x.m.y5).length)), h') ∧ (∀ i c, i ≠ O → G.get i = some c → h'.get i = some c) ∧ G.next ≤ h'.next ∧ h'.floor = G.floor ∧
   h'.get O=some (xz {y with m:={y.m with kind:=2},vb:=ov,vf:=ow})∧x8 1 h' ov (zB (l.map (·.1)) x.m.y5).length (ints (zB (l.map (·.1)) x.m.y5))∧x8 2 h' ow acc.length (zH acc)∧acc.map (·.1)=yA (l.map (·.1)) (zB (l.map (·.1)) x.m.y5)∧
   (∀j,ov.id?=some j→G.next≤j)∧(∀j,ow.id?=some j→G.next≤j∧ov.id?≠some j)∧∀z∈acc,z.1.2.length=4∧∃j,z.2=.aH j 0 4 1∧h'.get j=some (ints z.1.2)∧G.next≤j∧ow.id?≠some j∧ov.id?≠some j∧h'.floor≤j:=by
 obtain⟨e',h1,ov,r1,r2,r3,r4,r5,r6,r7,r8,r9⟩:=FW (y:=y) k3 l8 (xQ (l.map (·.1))) [] x.m.y5 [] rfl rfl rfl G .aS [] (fun _ _ _ q=>q) (wU _) rfl (by rw[gO,←y0]) x8.nil (fun j q=>by cases q) (wU _)
 have r1':Lp AP.A [0,1,2,12,13,14] AP.f301L0 [(0,.aG S 0),(1,.aG M 0),(2,.aG O 0),(12,w),(13,.int .i64 8),(14,.int .i64 0)] G=some (.exit 0,e',h1):=r1
 have r8':x8 1 h1 ov (zB (l.map (·.1)) x.m.y5).length (ints (zB (l.map (·.1)) x.m.y5)):=r8
 obtain⟨U,hU⟩:∃U,U=zB (l.map (·.1)) x.m.y5:=⟨_,rfl⟩
 have Ul:U.length≤8:=by rw[hU];have:=Co (xQ (l.map (·.1))) x.m.y5 0;rw[x9]at this;exact this
 have Um:BW U=true:=by rw[hU];exact Bj _ _ 0 none (by rw[x9];omega) fun q hq=>by cases hq
 rw[←hU]at r8' ⊢
 have fG:=k3.fG
 have fO:=k3.fO
 have ON:=k3.ON
 have x1:=k3.ext r4
 obtain⟨gS1,_⟩:=k3.S_ r4
 have ld:jQ false w=some (.int .i64 8):=by
  have:=k3.sd.dg.len
  rw[rk,x9]at this
  exact this
 obtain⟨h2,eh2⟩:∃g,g=h1.set O (xz {y with m:={y.m with kind:=2},vb:=ov}):=⟨_,rfl⟩
 have st2:vR h1 O 0 1 [.int .i64 2] (some (xz {y with vb:=ov}))=some h2:=by rw[wx (by omega) (by show 0<9;omega) rfl,eh2];rfl
 have g2:h2.get O=some (xz {y with m:={y.m with kind:=2},vb:=ov}):=by rw[eh2,xH rfl,r7];rfl
 have n2:h2.next=h1.next:=by rw[eh2];simp
 have f2:h2.floor=G.floor:=by rw[eh2];simp [r6]
 have low2:∀i c,i≠O→G.get i=some c→h2.get i=some c:=fun i c c2 q=>by rw[eh2,xC c2];exact r4 i c c2 q
 have x2:=k3.ext low2
 obtain⟨gS2,_⟩:=k3.S_ low2
 have o2:x8 1 h2 ov U.length (ints U):=r8'.mono (by rw[eh2];simp) fun i q=>by have:=r9 i q;rw[eh2,xC (by omega)]
 have rdU:Rd h2 ov (ints U):=by
  have:=o2.rd
  exact⟨by rw[rk];exact this.1,this.2.2⟩
 obtain⟨ow,h3,acc,k4,e4,q4,b4⟩:=Mp h2 (by omega) v ov l U sv (by have:=k3.sd.len;omega) (k3.sd.rd.mono fun i c q=>x2 i c q) (fun z hz=>⟨(k3.sd.ok z hz).1.mono x2,(k3.sd.ok z hz).2⟩) rdU (by omega) (by rw[k3.sd.fo,Um];rfl)
 have n3:=e4.nx
 have f3:=e4.fl
 have s4:=e4.own.sc
 have c4:=ye s4
 have g3:=e4.ext _ _ g2
 obtain⟨h4,eh4⟩:∃g,g=h3.set O (xz {y with m:={y.m with kind:=2},vb:=ov,vf:=ow}):=⟨_,rfl⟩
 have st4:vR h3 O 6 1 [ow] (some (xz {y with m:={y.m with kind:=2},vb:=ov}))=some h4:=by rw[wx (by omega) (by show 6<9;omega) s4,eh4];rfl
 have g4:h4.get O=some (xz {y with m:={y.m with kind:=2},vb:=ov,vf:=ow}):=by rw[eh4,xH rfl,g3];rfl
 have f4:h4.floor=G.floor:=by rw[eh4];simp;omega
 have n4:h4.next=h3.next:=by rw[eh4];simp
 have low4:∀i c,i≠O→G.get i=some c→h4.get i=some c:=fun i c c2 q=>by rw[eh4,xC c2];exact e4.ext _ _ (low2 i c c2 q)
 have ov4:x8 1 h4 ov U.length (ints U):=by
  obtain⟨a,⟨b1,b2⟩|⟨j,b1,b2,b3,b4'⟩⟩:=o2
  · exact⟨a,.inl ⟨b1,b2⟩⟩
  · have:=r9 j (by rw[b1];rfl)
    exact⟨a,.inr ⟨j,b1,by rw[eh4,xC (by omega)];exact e4.ext _ _ b2,by omega,b4'⟩⟩
 have ow4:x8 2 h4 ow acc.length (zH acc):=e4.own.mono (by rw[eh4];simp) fun i q=>by have:=e4.ge i q;rw[eh4,xC (by omega)]
 have r1c:aO (aU AP.A) bH (at_ 1 AP.f301.body) [(0,.aG S 0),(1,.aG M 0),(2,.aG O 0)] G=some (.normal,[(0,.aG S 0),(2,.aG O 0)],h1):=by
  have gS:=k3.gS
  clear r1 r4 r8 r9 r8' x1 x2 low2 low4 o2 rdU e4 b4 ov4 ow4
  simp (disch:=omega)only[go_sem,xF,AP.f301,yD,yz,gS,ld,uo,r1',r2,r3]
 have b3c:aO (aU AP.A) bH (at_ 3 AP.f301.body) [(0,.aG S 0),(2,.aG O 0)] h2=some (.normal,[(2,.aG O 0)],h4):=by
  have e5:(xz {y with m:={y.m with kind:=2},vb:=ov})[5]?=some ov:=rfl
  have tv:List.take 1 [v,w]=[v]:=rfl
  clear r1 r4 r8 r9 r8' x1 x2 low2 low4 o2 rdU e4 b4 ov4 ow4 r1c r1'
  generalize xz {y with m:={y.m with kind:=2},vb:=ov}=Y1 at *
  generalize xz {y with m:={y.m with kind:=2},vb:=ov,vf:=ow}=Y2 at *
  simp (disch:=omega)only[go_sem,xF,AP.f301,yD,yz,gS2,LO,zg,tv,aa8,abl,g2,e5,k4,g3,c4,st4]
 refine⟨h4,ov,ow,acc,vv (fn:=AP.f301) (h2:=h4) (e:=[(6,.bool (decide (0<U.length)))]) (vs:=[.bool (decide (0<U.length))]) rfl rfl rfl ?_ rfl,low4,by omega,f4,g4,ov4,ow4,q4,r9,fun j q=> ?_,fun z hz=> ?_⟩
 · rw[Hy]
   have b0:aO (aU AP.A) bH (at_ 0 AP.f301.body) (params 0 [.aG S 0,.aG M 0,.aG O 0]) G=some (.normal,[(0,.aG S 0),(1,.aG M 0),(2,.aG O 0)],G):=by
    simp (disch:=omega)only[go_sem,xF,AP.f301,yz]
   have b2:aO (aU AP.A) bH (at_ 2 AP.f301.body) [(0,.aG S 0),(2,.aG O 0)] h1=some (.normal,[(0,.aG S 0),(2,.aG O 0)],h2):=by
    clear r1 r4 r8 r9 r8' x1 x2 low2 low4 o2 rdU e4 b4 ov4 ow4 r1c r1' b3c
    generalize xz {y with vb:=ov}=Y1 at *
    simp (disch:=omega)only[go_sem,xF,AP.f301,yD,yz,r7,st2]
   rw[ua,b0,uH,ua,r1c,uH,ua,b2,uH,ua,b3c,uH]
   have lu:=ov4.rd.len
   have e5:(xz {y with m:={y.m with kind:=2},vb:=ov,vf:=ow})[5]?=some ov:=rfl
   clear r1 r4 r8 r9 r8' x1 x2 low2 low4 o2 rdU e4 b4 ov4 ow4 r1c r1' b3c b0 b2
   generalize xz {y with m:={y.m with kind:=2},vb:=ov,vf:=ow}=Y1 at *
   by_cases c:0<U.length<;>simp (disch:=omega)only[go_sem,xF,AP.f301,CV,CW,g4,e5,lu]
 · have:=e4.ge j q
   refine⟨by omega,fun q2=> ?_⟩
   have:=(o2.lt q2).2
   omega
 · obtain⟨j,a1,a2,a3,a4,a5⟩:=(b4 z hz).ex
   refine⟨(b4 z hz).l4,j,a1, ?_,by omega,a4,fun q2=> ?_,by omega⟩
   · rw[eh4,xC (by omega)];exact a2
   · have:=(o2.lt q2).2
     omega
def Ad (L:List xP) (bs:List L3):List ByteArray:=(bs.filter fun b=> !Bn L b).map (·.1)
theorem Pp (L:List xP) (b:L3) (bs:List L3):Ad L (b::bs)=if Bn L b then Ad L bs else b.1::Ad L bs:=by
 unfold Ad
 rw[aby]
 cases Bn L b<;>rfl
theorem NM (a b:List ByteArray):Ay (a++b)=Ay a++Ay b:=by simp [Ay]
theorem FT {B G : H} {S M O : Nat} {v w : AV} {l : List xN} {x y : yT} (k3 : L6 B G S M O v w l x) (fl6 : x.fs.length ≤ 6) (fv : ∀ b ∈ x.m.xV, yS b.2 = true) : ∀ (q p : List Be), x.fs = p ++ q → ∀ (h : H) (ov : AV) (acc : List ByteArray), (∀ i c, i ≠ O → G.get i = some c → h.get i = some c) → G.next ≤ h.next → h.floor = G.floor → h.get O = some (xz { y with vn := ov }) →
 x8 1 h ov acc.length (Ay acc)→(∀j,ov.id?=some j→G.next≤j)→acc.length≤p.length→
 ∃ e' h' ov', Lp AP.A [0, 1, 2, 15, 16] AP.f302L0 [(0, .aG S 0), (1, .aG M 0), (2, .aG O 0), (15, .int .i64 x.fs.length), (16, .int .i64 p.length)] h = some (.exit 0, e', h') ∧ look e' 2 = .aG O 0 ∧
   (∀i c,i≠O→G.get i=some c→h'.get i=some c)∧G.next≤h'.next∧h'.floor=G.floor∧h'.get O=some (xz {y with vn:=ov'})∧x8 1 h' ov' (acc++Ad (l.map (·.1)) (q.map (·.1))).length (Ay (acc++Ad (l.map (·.1)) (q.map (·.1))))∧∀j,ov'.id?=some j→G.next≤j
 | [], p, hp, h, ov, acc, low, hn, hf, hg, o, ho, ha => by
   rw[aa2]at hp;subst hp
   refine⟨[(0,.aG S 0),(1,.aG M 0),(2,.aG O 0),(15,.int .i64 x.fs.length),(16,.int .i64 x.fs.length),(17,.bool false)],h,ov,u6 ?_,rfl,low,hn,hf,hg,by simpa [Ad]using o,ho⟩
   clear low o
   simp (disch:=omega)only[go_sem,xF,AP.f302L0]
 | b :: q, p, hp, h, ov, acc, low, hn, hf, hg, o, ho, ha => by
   have hlen:x.fs.length=p.length+(q.length+1):=by rw[hp];simp
   have hb:x.fs[p.length]?=some b:=by rw[hp];simp
   have hm:=wX hb
   have xB:=k3.ext low
   obtain⟨gS,gM⟩:=k3.S_ low
   have fG:=k3.fG
   have fO:=k3.fO
   have ON:=k3.ON
   obtain⟨ad,a1,a2,a4,a3⟩:=k3.ox.rf.rd.at_
   have hI:(0:Int)≤(p.length:Int)∧(p.length:Int)<x.fs.length:=⟨by omega,by omega⟩
   have b1:=a1 _ hI
   have q0:=a2 p.length 0 0 hI
   have q1:=a2 p.length 0 1 hI
   simp only[wY]at q0 q1
   have l0:∀g,Ext h g→cf false 1 (ad p.length 0) g=some (.str b.1.1):=fun g hg'=>(a3 g fun i c q=>hg' _ _ (xB i c q)).1 p.length 0 _ hI (by
    rw[yZ,show zH x.fs=x.fs.flatMap Oe from rfl,Bm Cs hb (by omega)];rfl)
   have l1:∀g,Ext h g→cf false 1 (ad p.length 1) g=some b.2:=fun g hg'=>(a3 g fun i c q=>hg' _ _ (xB i c q)).1 p.length 1 _ hI (by
    rw[yZ,show zH x.fs=x.fs.flatMap Oe from rfl,Bm Cs hb (by omega)];rfl)
   obtain⟨h1,k1,x1,f1,n1⟩:=OJ h (by omega) S v w l (k3.sd.mono xB) gS (ad p.length 0) b.1 b.2 (fun g=>a4 p.length 0 g hI) _ _ q0 q1 l0 l1 ((k3.ox.rf.vec b hm).1.mono fun i c q=>xB i c q) (fv b.1 (by rw[←k3.ox.hf];exact aa6.2 ⟨b,hm,rfl⟩))
   have e6:(xz x)[6]?=some x.vf:=rfl
   have w1:(((p++[b]).length:Nat):Int)=(p.length:Int)+1:=by simp
   have o1:x8 1 h1 ov acc.length (Ay acc):=by
    obtain⟨a,⟨b1,b2⟩|⟨j,b1,b2,b3,b4⟩⟩:=o
    · exact⟨a,.inl ⟨b1,b2⟩⟩
    · exact⟨a,.inr ⟨j,b1,x1 _ _ b2,by omega,b4⟩⟩
   have hg1:=x1 _ _ hg
   have low1:∀i c,i≠O→G.get i=some c→h1.get i=some c:=fun i c c2 q=>x1 _ _ (low i c c2 q)
   rw[aa5,Pp]
   cases hk:Bn (l.map (·.1)) b.1 with
   | true =>
     rw[hk]at k1
     rw[if_pos rfl]
     obtain⟨e',h',ov',r1,r2,r3,r4,r5,r6,r7,r8⟩:=FT k3 fl6 fv q (p++[b]) (by rw[hp];simp) h1 ov acc low1 (by omega) (by omega) hg1 o1 ho (by simp;omega)
     rw[w1]at r1
     refine⟨e',h',ov',u9 ?_ r1,r2,r3,r4,r5,r6,r7,r8⟩
     clear r1 r3 r7 r8 low low1 o o1 a1 a2 a3 a4 l0 l1 hp xB x1
     generalize xz x=X at *
     simp (disch:=omega)only[go_sem,xF,AP.f302L0,gM,e6,b1,k1]
   | false =>
     rw[hk]at k1
     rw[if_neg (by decide)]
     obtain⟨v',h2,p1,p2,p3,p4,p5,p6⟩:=o1.push (by omega) (z:=16) (m:=1) (by omega) (by omega) [.str b.1.1] rfl rfl (by simp [roomy];omega)
     have ea:Ay acc++[.str b.1.1]=Ay (acc++[b.1.1]):=by rw[NM];rfl
     have el:acc.length+1=(acc++[b.1.1]).length:=by simp
     rw[ea,el]at p2
     have sv:=p2.sc
     have cv:=ye sv
     have hO:=h1.lt _ _ hg1
     have oO:ov.id?≠some O:=fun q2=>by have:=ho O q2;omega
     have g2:h2.get O=some (xz {y with vn:=ov}):=by rw[p5 O oO hO];exact hg1
     obtain⟨h3,eh3⟩:∃g,g=h2.set O (xz {y with vn:=v'}):=⟨_,rfl⟩
     have st:vR h2 O 7 1 [v'] (some (xz {y with vn:=ov}))=some h3:=by rw[wx (by omega) (by show 7<9;omega) sv,eh3];rfl
     have g3:h3.get O=some (xz {y with vn:=v'}):=by rw[eh3,xH rfl,g2];rfl
     have vj:∀j,v'.id?=some j→j=h1.next+1:=fun j q2=>by rw[p6]at q2;exact(wH q2).symm
     obtain⟨e',h',ov',r1,r2,r3,r4,r5,r6,r7,r8⟩:=FT k3 fl6 fv q (p++[b]) (by rw[hp];simp) h3 v' (acc++[b.1.1])
      (fun i c c2 q3=>by have:=G.lt _ _ q3;rw[eh3,xC c2,p5 i (fun q2=>by have:=ho i q2;omega) (by omega)];exact low1 i c c2 q3) (by rw[eh3];simp;omega) (by rw[eh3];simp;omega) g3
      (p2.mono (by rw[eh3];simp) fun i q2=>by have:=vj i q2;rw[eh3,xC (by omega)]) (fun j q2=>by have:=vj j q2;omega) (by simp;omega)
     rw[w1]at r1
     rw[List.append_assoc,List.singleton_append]at r7
     refine⟨e',h',ov',u9 ?_ r1,r2,r3,r4,r5,r6,r7,r8⟩
     have e7:(xz {y with vn:=ov})[7]?=some ov:=rfl
     have gM1:=x1 _ _ gM
     have m0:=l0 h1 x1
     clear r1 r3 r7 r8 low low1 o o1 a1 a2 a3 a4 l0 l1 hp xB x1 p2 p5
     generalize xz x=X at *
     generalize xz {y with vn:=ov}=Y1 at *
     generalize xz {y with vn:=v'}=Y2 at *
     simp (disch:=omega)only[go_sem,xF,AP.f302L0,gM,e6,b1,k1,hg1,e7,gM1,q0,m0,p1,g2,cv,st]
theorem Vy {B G:H} {S M O:Nat} {v w:AV} {l:List xN} {x y:yT} (k3:L6 B G S M O v w l x) (fl6:x.fs.length≤6) (fv:∀b∈x.m.xV,yS b.2=true) (gO:G.get O=some (xz y)) (y0:y.vn=.aS):
 ∃ h' ov, aU AP.A 302 [.aG S 0, .aG M 0, .aG O 0] G = some (.bool (decide (0 < (Ad (l.map (·.1)) x.m.xV).length)), h') ∧ (∀ i c, i ≠ O → G.get i = some c → h'.get i = some c) ∧ G.next ≤ h'.next ∧ h'.floor = G.floor ∧
   h'.get O=some (xz {y with m:={y.m with kind:=3},vn:=ov})∧x8 1 h' ov (Ad (l.map (·.1)) x.m.xV).length (Ay (Ad (l.map (·.1)) x.m.xV))∧∀j,ov.id?=some j→G.next≤j:=by
 have fO:=k3.fO
 obtain⟨h1,eh1⟩:∃g,g=G.set O (xz {y with m:={y.m with kind:=3}}):=⟨_,rfl⟩
 have FO:vR G O 0 1 [.int .i64 3] (some (xz y))=some h1:=by rw[wx (by omega) (by show 0<9;omega) rfl,eh1];rfl
 have g1:h1.get O=some (xz {y with m:={y.m with kind:=3}}):=by rw[eh1,xH rfl,gO];rfl
 have low1:∀i c,i≠O→G.get i=some c→h1.get i=some c:=fun i c c2 q=>by rw[eh1,xC c2];exact q
 obtain⟨_,gM1⟩:=k3.S_ low1
 obtain⟨e',h',ov,r1,r2,r3,r4,r5,r6,r7,r8⟩:=FT (y:={y with m:={y.m with kind:=3}}) k3 fl6 fv x.fs [] rfl h1 .aS [] low1 (by rw[eh1];simp) (by rw[eh1];simp) (by rw[g1,←y0]) x8.nil (fun j q=>by cases q) (wU _)
 have r1':Lp AP.A [0,1,2,15,16] AP.f302L0 [(0,.aG S 0),(1,.aG M 0),(2,.aG O 0),(15,.int .i64 x.fs.length),(16,.int .i64 0)] h1=some (.exit 0,e',h'):=r1
 rw[abB,k3.ox.hf]at r7
 refine⟨h',ov,vv (fn:=AP.f302) (h2:=h') (e:=[(6,.bool (decide (0<(Ad (l.map (·.1)) x.m.xV).length)))]) (vs:=[.bool (decide (0<(Ad (l.map (·.1)) x.m.xV).length))]) rfl rfl rfl ?_ rfl,r3,r4,r5,r6,r7,r8⟩
 have lf:=k3.ox.rf.rd.len
 have lw:=r7.rd.len
 have e6:(xz x)[6]?=some x.vf:=rfl
 have e7:(xz {y with m:={y.m with kind:=3},vn:=ov})[7]?=some ov:=rfl
 have r6':h'.get O=some (xz {y with m:={y.m with kind:=3},vn:=ov}):=r6
 clear r1 r3 r7 r8 low1 eh1 r6
 generalize (Ad (l.map (·.1)) x.m.xV).length=N at *
 generalize xz x=X at *
 generalize xz y=Y at *
 generalize xz {y with m:={y.m with kind:=3},vn:=ov}=Y2 at *
 by_cases c:0<N<;>simp (disch:=omega)only[go_sem,xF,AP.f302,gO,FO,gM1,e6,lf,uo,r1',r2,r6',e7,lw]
def BS (L:List xP) (ns:List ByteArray):List xP:=ns.filterMap fun s=>if(xO s L).2 then L[(xO s L).1]? else none
theorem Nr (L:List xP) (s:ByteArray) (ns:List ByteArray):BS L (s::ns)=(match (if(xO s L).2 then L[(xO s L).1]? else none)with|some e=>[e]|none=>[])++BS L ns:=by
 unfold BS
 rw[List.filterMap_cons]
 split<;>rename_i h<;>rw[h]<;>rfl
theorem FG {B G : H} {S M O : Nat} {v w : AV} {l : List xN} {x y : yT} (k3 : L6 B G S M O v w l x) (nl6 : x.m.names.length ≤ 6) : ∀ (q p : List ByteArray), x.m.names = p ++ q → ∀ (h : H) (ov : AV) (acc : List xN), (∀ i c, i ≠ O → G.get i = some c → h.get i = some c) → G.next ≤ h.next → h.floor = G.floor → h.get O = some (xz { y with ve := ov }) →
 WE G.next h ov acc→acc.length≤p.length→
 ∃ e' h' ov' acc', Lp AP.A [0, 2, 17, 18, 19] AP.f303L0 [(0, .aG S 0), (2, .aG O 0), (17, x.vn), (18, .int .i64 x.m.names.length), (19, .int .i64 p.length)] h = some (.exit 0, e', h') ∧ look e' 2 = .aG O 0 ∧
   (∀i c,i≠O→G.get i=some c→h'.get i=some c)∧G.next≤h'.next∧h'.floor=G.floor∧h'.get O=some (xz {y with ve:=ov'})∧WE G.next h' ov' acc'∧acc'.map (·.1)=acc.map (·.1)++BS (l.map (·.1)) q∧acc'.length≤x.m.names.length
 | [], p, hp, h, ov, acc, low, hn, hf, hg, o, ha => by
   rw[aa2]at hp
   have e:x.m.names.length=p.length:=by rw[hp]
   refine⟨[(0,.aG S 0),(2,.aG O 0),(17,x.vn),(18,.int .i64 x.m.names.length),(19,.int .i64 p.length),(20,.bool false)],h,ov,acc,u6 ?_,rfl,low,hn,hf,hg,o,by simp [BS],by omega⟩
   rw[e]
   clear low o
   simp (disch:=omega)only[go_sem,xF,AP.f303L0]
 | s :: q, p, hp, h, ov, acc, low, hn, hf, hg, o, ha => by
   have hlen:x.m.names.length=p.length+(q.length+1):=by rw[hp];simp
   have xB:=k3.ext low
   obtain⟨gS,gM⟩:=k3.S_ low
   have fG:=k3.fG
   have fO:=k3.fO
   have ON:=k3.ON
   obtain⟨nd,a1,_,a3⟩:=k3.ox.rn.EF
   have b1:=a1 p.length ⟨by omega,by omega⟩
   have b2:=a3 h xB p.length s (by rw[hp];simp)
   have sd:=k3.sd.mono xB
   have k1:=PC h S 0 v gS rfl l sd.len sd.rd (fun x hx=>(sd.ok x hx).2) s (Nt (yB sd.fo))
   have w1:(((p++[s]).length:Nat):Int)=(p.length:Int)+1:=by simp
   rw[Nr]
   cases hp2:(xO s (l.map (·.1))).2 with
   | false =>
     rw[hp2]at k1
     rw[if_neg (by decide)]
     obtain⟨e',h',ov',acc',r1,r2,r3,r4,r5,r6,r7,r8,r9⟩:=FG k3 nl6 q (p++[s]) (by rw[hp];simp) h ov acc low hn hf hg o (by simp;omega)
     rw[w1]at r1
     refine⟨e',h',ov',acc',u9 ?_ r1,r2,r3,r4,r5,r6,r7,r8,r9⟩
     clear r1 r3 r7 r8 low o a1 a3 hp xB sd
     generalize (xO s (l.map (·.1))).1=K at *
     simp (disch:=omega)only[go_sem,xF,AP.f303L0,b1,b2,abl,k1]
   | true =>
     rw[hp2]at k1
     rw[if_pos rfl]
     have lt:=Fy _ _ hp2
     rw[aa0]at lt
     obtain⟨z,hz⟩:∃z,l[(xO s (l.map (·.1))).1]?=some z:=⟨l[(xO s (l.map (·.1))).1],by simp⟩
     have hz':(l.map (·.1))[(xO s (l.map (·.1))).1]?=some z.1:=by rw[xa,hz];rfl
     rw[hz']
     have hm:=wX hz
     obtain⟨ok,sc⟩:=sd.ok z hm
     have fz:=Bt sd.fo z.1 (aa6.2 ⟨z,hm,rfl⟩)
     obtain⟨ad,c1,c2⟩:=sd.rd.HY
     obtain⟨pe,lz⟩:=c2 h (Ext.refl h) _ z hz
     have d1:=c1 (xO s (l.map (·.1))).1 ⟨by omega,by omega⟩
     obtain⟨h1,j,k2,gj,hj,x1,f1,n1⟩:=Ol h (by omega) z.1 z.2 sc ok fz.2.1
     have jn:=h1.lt _ _ gj
     obtain⟨E,hE⟩:∃E,E=xA z.1 (.aH j 0 4 1):=⟨_,rfl⟩
     have lE:E.length=9:=by rw[hE];rfl
     have cE:AV.aE E=true:=by rw[hE];exact yH rfl
     have fE:setFrom [.str ⟨#[]⟩,.bool false,.aS,.int .i64 0,.int .i64 0,.int .i64 0,.str ⟨#[]⟩,.int .i64 0,.int .i64 0] 0 E=E:=by rw[hE];rfl
     have o1:WE G.next h1 ov acc:=o.mono (by omega) fun i c1 c2 c3=>by
      rcases c3 with c3|⟨y2,hy2,c3⟩
      · obtain⟨_,⟨b1,_⟩|⟨j2,b1,b2,_⟩⟩:=o.own
        · rw[b1]at c3;cases c3
        · rw[b1]at c3;obtain rfl:=wH c3;rw[b2];exact x1 _ _ b2
      · obtain⟨_,_,j2,b1,b2,_⟩:=o.el y2 hy2
        rw[b1]at c3;obtain rfl:=wH c3;rw[b2];exact x1 _ _ b2
     have hg1:=x1 _ _ hg
     obtain⟨v',h2,p1,p2,p3,p4,p5,p6⟩:=o1.own.push (by omega) (z:=104) (m:=1) (by omega) (by omega) E (by rw[lE]) cE (by simp [roomy];omega)
     have ea:xG acc++E=xG (acc++[((z.1,.aH j 0 4 1):xN)]):=by rw[EY,hE]
     have el:acc.length+1=(acc++[((z.1,.aH j 0 4 1):xN)]).length:=by simp
     rw[ea,el]at p2
     have sv:=p2.sc
     have cv:=ye sv
     have hO:=h1.lt _ _ hg1
     have oO:ov.id?≠some O:=fun q2=>by have:=o.ge O q2;omega
     have g2:h2.get O=some (xz {y with ve:=ov}):=by rw[p5 O oO hO];exact hg1
     obtain⟨h3,eh3⟩:∃g,g=h2.set O (xz {y with ve:=v'}):=⟨_,rfl⟩
     have st:vR h2 O 8 1 [v'] (some (xz {y with ve:=ov}))=some h3:=by rw[wx (by omega) (by show 8<9;omega) sv,eh3];rfl
     have g3:h3.get O=some (xz {y with ve:=v'}):=by rw[eh3,xH rfl,g2];rfl
     have vj:∀i,v'.id?=some i→i=h1.next+1:=fun i q2=>by rw[p6]at q2;exact(wH q2).symm
     have ovl:∀i,ov.id?=some i→i<h.next:=fun i q2=>(o.own.lt q2).2
     have w3:WE G.next h3 v' (acc++[(z.1,.aH j 0 4 1)]):=by
      refine⟨p2.mono (by rw[eh3];simp) fun i q2=>by have:=vj i q2;rw[eh3,xC (by omega)],fun i q2=>by have:=vj i q2;omega,fun y2 hy2=> ?_⟩
      rcases abA.1 hy2 with hy2|hy2
      · obtain⟨m1,m2,j2,t1,t2,t3,t4,t5⟩:=o1.el y2 hy2
        have:=h1.lt _ _ t2
        refine⟨m1,m2,j2,t1, ?_,t3,fun q2=>by have:=vj j2 q2;omega,by rw[eh3];simp;omega⟩
        rw[eh3,xC (by omega),p5 j2 t4 this];exact t2
      · obtain rfl:=List.mem_singleton.1 hy2
        refine⟨fz.2.2,fz.2.1,j,rfl, ?_,by omega,fun q2=>by have:=vj j q2;omega,by rw[eh3];simp;omega⟩
        rw[eh3,xC (by omega),p5 j (fun q2=>by have:=ovl j q2;omega) jn];exact gj
     obtain⟨e',h',ov',acc',r1,r2,r3,r4,r5,r6,r7,r8,r9⟩:=FG k3 nl6 q (p++[s]) (by rw[hp];simp) h3 v' (acc++[(z.1,.aH j 0 4 1)])
      (fun i c c2 q3=>by have:=G.lt _ _ q3;rw[eh3,xC c2,p5 i (fun q2=>by have:=o.ge i q2;omega) (by omega)];exact x1 _ _ (low i c c2 q3)) (by rw[eh3];simp;omega) (by rw[eh3];simp;omega) g3 w3 (by simp;omega)
     rw[w1]at r1
     rw[abg,List.append_assoc]at r8
     refine⟨e',h',ov',acc',u9 ?_ r1,r2,r3,r4,r5,r6,r7,r8,r9⟩
     have e8:(xz {y with ve:=ov})[8]?=some ov:=rfl
     rw[←hE]at k2
     have lz':cf true 9 (ad (xO s (l.map (·.1))).1 0) h=some (.agg (xA z.1 z.2)):=lz
     clear r1 r3 r7 r8 r9 low o o1 a1 a3 hp xB sd c1 c2 pe lz ok hz hz' hm w3 p2 p5 x1 ea hE k3
     generalize (xO s (l.map (·.1))).1=K at *
     generalize xA z.1 z.2=Z at *
     generalize xz {y with ve:=ov}=Y1 at *
     generalize xz {y with ve:=v'}=Y2 at *
     simp (disch:=omega)only[go_sem,xF,AP.f303L0,b1,b2,abl,k1,hg,e8,gS,d1,lz',k2,lE,cE,fE,p1,g2,cv,st,hg1]
theorem Vx {B G:H} {S M O:Nat} {v w:AV} {l:List xN} {x y:yT} (k3:L6 B G S M O v w l x) (nl6:x.m.names.length≤6) (gO:G.get O=some (xz y)) (y0:y.ve=.aS):
 ∃ h' ov acc, aU AP.A 303 [.aG S 0, .aG M 0, .aG O 0] G = some (.bool (decide (0 < (BS (l.map (·.1)) x.m.names).length)), h') ∧ (∀ i c, i ≠ O → G.get i = some c → h'.get i = some c) ∧ G.next ≤ h'.next ∧ h'.floor = G.floor ∧
   h'.get O=some (xz {y with m:={y.m with kind:=4},ve:=ov})∧WE G.next h' ov acc∧acc.map (·.1)=BS (l.map (·.1)) x.m.names∧acc.length≤6:=by
 have fO:=k3.fO
 obtain⟨h1,eh1⟩:∃g,g=G.set O (xz {y with m:={y.m with kind:=4}}):=⟨_,rfl⟩
 have FO:vR G O 0 1 [.int .i64 4] (some (xz y))=some h1:=by rw[wx (by omega) (by show 0<9;omega) rfl,eh1];rfl
 have g1:h1.get O=some (xz {y with m:={y.m with kind:=4}}):=by rw[eh1,xH rfl,gO];rfl
 have low1:∀i c,i≠O→G.get i=some c→h1.get i=some c:=fun i c c2 q=>by rw[eh1,xC c2];exact q
 obtain⟨_,gM1⟩:=k3.S_ low1
 obtain⟨e',h',ov,acc,r1,r2,r3,r4,r5,r6,r7,r8,r9⟩:=FG (y:={y with m:={y.m with kind:=4}}) k3 nl6 x.m.names [] rfl h1 .aS [] low1 (by rw[eh1];simp) (by rw[eh1];simp) (by rw[g1,←y0]) ⟨x8.nil,fun j q=>(by cases q),fun z hz=>(by cases hz)⟩ (wU _)
 have r1':Lp AP.A [0,2,17,18,19] AP.f303L0 [(0,.aG S 0),(2,.aG O 0),(17,x.vn),(18,.int .i64 x.m.names.length),(19,.int .i64 0)] h1=some (.exit 0,e',h'):=r1
 have r8':acc.map (·.1)=BS (l.map (·.1)) x.m.names:=r8
 have al:acc.length=(BS (l.map (·.1)) x.m.names).length:=by rw[←r8'];simp
 refine⟨h',ov,acc,vv (fn:=AP.f303) (h2:=h') (e:=[(6,.bool (decide (0<(BS (l.map (·.1)) x.m.names).length)))]) (vs:=[.bool (decide (0<(BS (l.map (·.1)) x.m.names).length))]) rfl rfl rfl ?_ rfl,r3,r4,r5,r6,r7,r8',by omega⟩
 have ln:=k3.ox.rn.HB.len
 rw[zE]at ln
 have lw:=r7.own.rd.len
 rw[al]at lw
 have e7:(xz x)[7]?=some x.vn:=rfl
 have e8:(xz {y with m:={y.m with kind:=4},ve:=ov})[8]?=some ov:=rfl
 have r6':h'.get O=some (xz {y with m:={y.m with kind:=4},ve:=ov}):=r6
 clear r1 r3 r7 r8 r8' low1 eh1 r6 al r9
 generalize (BS (l.map (·.1)) x.m.names).length=N at *
 generalize xz x=X at *
 generalize xz y=Y at *
 generalize xz {y with m:={y.m with kind:=4},ve:=ov}=Y2 at *
 by_cases c:0<N<;>simp (disch:=omega)only[go_sem,xF,AP.f303,gO,FO,gM1,e7,ln,uo,r1',r2,r6',e8,lw]
theorem K4 (h:H) (k:Int):aU AP.A 277 [.int .i64 k] h=some (if k=0 then .fn 300 [] []else if k=1 then .fn 301 [] []else if k=2 then .fn 302 [] []else if k=3 then .fn 303 [] []else .fM,h):=by
 by_cases h0:k=0
 · rw[if_pos h0]
   refine vP (fn:=AP.f277) (h2:=h.eO) (e:=[(2,.fn 300 [] [])]) rfl rfl rfl ?_ rfl rfl
   simp (disch:=omega)only[go_sem,xF,AP.f277]
 by_cases h1:k=1
 · rw[if_neg h0,if_pos h1]
   refine vP (fn:=AP.f277) (h2:=h.eO) (e:=[(2,.fn 301 [] [])]) rfl rfl rfl ?_ rfl rfl
   simp (disch:=omega)only[go_sem,xF,AP.f277]
 by_cases h2:k=2
 · rw[if_neg h0,if_neg h1,if_pos h2]
   refine vP (fn:=AP.f277) (h2:=h.eO) (e:=[(2,.fn 302 [] [])]) rfl rfl rfl ?_ rfl rfl
   simp (disch:=omega)only[go_sem,xF,AP.f277]
 by_cases h3:k=3
 · rw[if_neg h0,if_neg h1,if_neg h2,if_pos h3]
   refine vP (fn:=AP.f277) (h2:=h.eO) (e:=[(2,.fn 303 [] [])]) rfl rfl rfl ?_ rfl rfl
   simp (disch:=omega)only[go_sem,xF,AP.f277]
 · rw[if_neg h0,if_neg h1,if_neg h2,if_neg h3]
   refine vP (fn:=AP.f277) (h2:=h.eO) (e:=[(2,.fM)]) rfl rfl rfl ?_ rfl rfl
   simp (disch:=omega)only[go_sem,xF,AP.f277]
def AD (L:List xP) (m:BE):Option BE:=
 if m.kind=0 then(if xZ (xQ L)=m.root then none else some ⟨1,m.dst,m.src,0,xQ L,[],[],[],[]⟩)
 else if m.kind=1 then(if zB L m.y5=[]then none else some ⟨2,m.dst,m.src,0,[],zB L m.y5,yA L (zB L m.y5),[],[]⟩)
 else if m.kind=2 then(if Ad L m.xV=[]then none else some ⟨3,m.dst,m.src,0,[],[],[],Ad L m.xV,[]⟩)
 else if m.kind=3 then(if BS L m.names=[]then none else some ⟨4,m.dst,m.src,0,[],[],[],[],BS L m.names⟩)
 else none
def Bx:BE:=⟨0,0,0,0,[],[],[],[],[]⟩
def zk (L:List xP) (m:BE):BE×Bool×Int:=
 if yh L=true∧BP m=true then((AD L m).getD Bx,(AD L m).isSome,0)else(Bx,false,2200)
theorem KW (h:H):B0 h yc:=⟨⟨rfl,fun s q=>(by cases q)⟩,⟨rfl,fun s q=>(by cases q)⟩,⟨⟨rfl,rfl,fun s q=>(by cases q)⟩,fun y hy=>(by cases hy)⟩,rfl,⟨rfl,fun s q=>(by cases q)⟩,⟨rfl,rfl,fun s q=>(by cases q)⟩,rfl,fun y hy=>(by cases hy),fun y hy=>(by cases hy),⟨rfl,rfl,rfl,rfl,rfl⟩,by decide,by decide,by decide,by decide,by decide,⟨fun s hs=>(by cases hs),fun s hs=>(by cases hs)⟩⟩
theorem KX (B:Nat) (h:H):WM B h yc:=.d (.inl rfl) rfl rfl rfl rfl
structure Zk (h h':H) (y:yT):Prop where
 ok:B0 h' y
 wm:WM h.next h' y
 ext:Ext h h'
 fl:h'.floor=h.floor
 nx:h.next≤h'.next
theorem Kv {h:H} {v:AV} {l:List Int} (o:x8 1 h v l.length (ints l)):Rd h v (ints l):=by
 have:=o.rd
 exact⟨by rw[rk];exact this.1,this.2.2⟩
theorem BQ (h:H):Rd h .aS []:=⟨rfl,fun s q=>(by cases q)⟩
theorem EC (n:Nat) (h:H):yM n h .aS 0 []:=⟨rfl,by simp,fun s q=>(by cases q)⟩
theorem Hr (h:H):N4 h .aS []:=⟨EC 2 h,fun y hy=>(by cases hy)⟩
theorem Ns {L:List xP} {ns:List ByteArray} {e:xP} (h:e∈BS L ns):e∈L:=by
 unfold BS at h
 obtain⟨s,_,hs⟩:=List.mem_filterMap.1 h
 split at hs
 · exact wX hs
 · cases hs
theorem HE:AP.f240.body=.seq (at_ 0 AP.f240.body) (.seq (at_ 1 AP.f240.body) (.seq (at_ 2 AP.f240.body) (.seq (at_ 3 AP.f240.body) (.seq (at_ 4 AP.f240.body) (I9 5 AP.f240.body))))):=rfl
theorem Me {h6 h7:H} {v w:AV} {R O M P f:Nat} {b:Bool} {y:yT} {H5:H} (e6:H5.alloc [v,w]=h6) (sv:v.sc=true) (sw:w.sc=true) (gP:H5.get P=some [v]) (k:aU AP.A f [.aG H5.next 0,.aG M 0,.aG O 0] h6=some (.bool b,h7)) (gO:h7.get O=some (xz y)) (gR:h7.get R=some (xz yc)) (fR:h7.floor≤R) (cy:AV.aE (xz y)=true):
 ∃e,aO (aU AP.A) bH (I9 5 AP.f240.body) [(2,.aG P 0),(3,.aG M 0),(4,.aG R 0),(7,w),(9,.aG O 0),(10,.fn f [] [])] H5=some (.ret,e,if b then h7.set R (xz y)else h7.set R (xz yc))∧look e 4=.aG R 0∧look e 5=.bool b∧look e 6=.int .i64 0:=by
 have cw:=ye sw
 have tP:List.take 1 [v]=[v]:=rfl
 have Sy:gG 2 (.fn f [] []) .fM=some false:=rfl
 have z0:([.int .i64 0,.int .i64 0,.int .i64 0,.int .i64 0,.aS,.aS,.aS,.aS,.aS]:List AV)=xz yc:=rfl
 have cz:AV.aE (xz yc)=true:=rfl
 have FO:vR h7 R 0 9 (xz yc) (some (xz yc))=some (h7.set R (xz yc)):=yl fR rfl rfl cz
 have st2:vR h7 R 0 9 (xz y) (some (xz yc))=some (h7.set R (xz y)):=yl fR rfl rfl cy
 have ly:(xz y).length=9:=rfl
 have ty:List.take 9 (xz y)=xz y:=rfl
 cases b with
 | false =>
   refine⟨[(4,.aG R 0),(5,.bool false),(6,.int .i64 0)], ?_,rfl,rfl,rfl⟩
   rw[if_neg (by decide)]
   generalize xz yc=Z at *
   generalize xz y=Y at *
   simp (disch:=omega)only[go_sem,xF,AP.f240,CV,CW,Sy,gP,yx,sv,sw,cw,e6,k,po,z0,gR,FO]
 | true =>
   refine⟨[(4,.aG R 0),(5,.bool true),(6,.int .i64 0)], ?_,rfl,rfl,rfl⟩
   rw[if_pos rfl]
   generalize xz yc=Z at *
   generalize xz y=Y at *
   simp (disch:=omega)only[go_sem,xF,AP.f240,CV,CW,Sy,gP,yx,sv,sw,cw,e6,k,po,gO,LO,zg,ly,ty,aa8,gR,st2]
set_option maxHeartbeats 8000000 in
theorem Ps (h : H) (hf : h.floor ≤ h.next) (v : AV) (l : List xN) (sv : v.sc = true) (hn : l.length < 1125899906842624) (rd : yM 9 h v l.length (xG l)) (hv : ∀ x ∈ l, yF h x ∧ x.2.sc = true) (x : yT) (ox : B0 h x) :
 ∃y h',aU AP.A 240 [.agg [v],.agg (xz x)] h=some (.bW [.agg (xz y),.bool (zk (l.map (·.1)) x.m).2.1,.int .i64 (zk (l.map (·.1)) x.m).2.2],h')∧y.m=(zk (l.map (·.1)) x.m).1∧Zk h h' y:=by
 obtain⟨h1,eh1⟩:∃g,g=h.alloc [v]:=⟨_,rfl⟩
 obtain⟨h2,eh2⟩:∃g,g=h1.alloc (xz x):=⟨_,rfl⟩
 obtain⟨h3,eh3⟩:∃g,g=h2.alloc (xz yc):=⟨_,rfl⟩
 have n1:h1.next=h.next+1:=by rw[eh1];simp
 have n2:h2.next=h.next+2:=by rw[eh2];simp [n1]
 have n3:h3.next=h.next+3:=by rw[eh3];simp [n2]
 have f3:h3.floor=h.floor:=by rw[eh3,eh2,eh1];simp
 have x3:Ext h h3:=by rw[eh3,eh2,eh1];exact(((Ext.refl h).alloc _).alloc _).alloc _
 have gP:h3.get h.next=some [v]:=by rw[eh3,xI (by omega),eh2,xI (by omega),eh1,xE rfl]
 have gM:h3.get (h.next+1)=some (xz x):=by rw[eh3,xI (by omega),eh2,xE (by omega)]
 have gR:h3.get (h.next+2)=some (xz yc):=by rw[eh3,xE (by omega)]
 have cx:=Aj ox
 have lx:(xz x).length=9:=rfl
 have b0:aO (aU AP.A) bH (at_ 0 AP.f240.body) (params 0 [.agg [v],.agg (xz x)]) h=some (.normal,[(2,.aG h.next 0),(3,.aG (h.next+1) 0),(4,.aG (h.next+2) 0)],h3):=by
  have z:h2.alloc [.int .i64 0,.int .i64 0,.int .i64 0,.int .i64 0,.aS,.aS,.aS,.aS,.aS]=h3:=eh3.symm
  clear ox rd hv x3
  generalize xz x=X at *
  simp (disch:=omega)only[go_sem,xF,AP.f240,yz,sv,←eh1,lx,cx,n1,←eh2,n2,z]
 obtain⟨w,h4,k1,g4⟩:=Jh h3 (by omega) v l sv hn (rd.mono fun i c q=>x3 i c q) (fun z hz=>⟨(hv z hz).1.mono x3,(hv z hz).2⟩)
 have x4:=g4.ext
 have n4:=g4.nx
 have f4:=g4.fl
 have sw:=g4.own.sc
 have gP4:=x4 _ _ gP
 have gM4:=x4 _ _ gM
 have gR4:=x4 _ _ gR
 have xh4:Ext h h4:=fun i c q=>x4 _ _ (x3 _ _ q)
 have b1:aO (aU AP.A) bH (at_ 1 AP.f240.body) [(2,.aG h.next 0),(3,.aG (h.next+1) 0),(4,.aG (h.next+2) 0)] h3=some (.normal,[(2,.aG h.next 0),(3,.aG (h.next+1) 0),(4,.aG (h.next+2) 0),(7,w),(8,.int .i64 (if yh (l.map (·.1))then 0 else 1600))],h4):=by
  clear ox rd hv x3 x4 g4 xh4
  generalize (if yh (l.map (·.1))=true then(0:Int)else 1600)=E at *
  simp (disch:=omega)only[go_sem,xF,AP.f240,yD,yz,gP,yx,k1]
 have ox4:=ox.mono xh4
 have km:=Vg h4 x ox4
 have tX:List.take 9 (xz x)=xz x:=rfl
 by_cases ok:yh (l.map (·.1))=true∧BP x.m=true
 case neg=>
  have eR:zk (l.map (·.1)) x.m=(Bx,false,2200):=by unfold zk;rw[if_neg ok]
  rw[eR]
  obtain⟨h5,eh5⟩:∃g,g=h4.set (h.next+2) (xz yc):=⟨_,rfl⟩
  have e5:h5=h4:=by rw[eh5];exact H.ku gR4
  have st:vR h4 (h.next+2) 0 9 (xz yc) (some (xz yc))=some h4:=by rw[yl (n:=9) (by omega) rfl rfl rfl,←eh5,e5]
  refine⟨yc,h4,vv (fn:=AP.f240) (h2:=h4) (e:=[(4,.aG (h.next+2) 0),(5,.bool false),(6,.int .i64 2200)]) (vs:=[.agg (xz yc),.bool false,.int .i64 2200]) rfl rfl rfl ?_ (by simp only[AP.f240,c9,oL,ou,mM,ne_eq,Nat.reduceEqDiff,not_false_eq_true,sX,gR4,uX];rfl),rfl,KW h4,KX _ _,xh4,by omega,by omega⟩
  rw[HE,ua,b0,uH,ua,b1,uH]
  have z0:([.int .i64 0,.int .i64 0,.int .i64 0,.int .i64 0,.aS,.aS,.aS,.aS,.aS]:List AV)=xz yc:=rfl
  have cz:AV.aE (xz yc)=true:=rfl
  by_cases c1:yh (l.map (·.1))=true
  · have c2:BP x.m=false:=by
     cases q:BP x.m with
     |false=>rfl
     |true=>exact absurd ⟨c1,q⟩ ok
    rw[c2]at km
    rw[if_pos c1]
    clear ox rd hv x3 x4 g4 xh4 ox4 b0 b1
    generalize xz x=X at *
    generalize xz yc=Z at *
    simp (disch:=omega)only[go_sem,xF,AP.f240,yD,yz,gM4,LO,zg,lx,tX,aa8,km,z0,gR4,st]
  · rw[if_neg c1]
    clear ox rd hv x3 x4 g4 xh4 ox4 b0 b1
    generalize xz x=X at *
    generalize xz yc=Z at *
    simp (disch:=omega)only[go_sem,xF,AP.f240,yD,yz,z0,gR4,st]
 case pos=>
  obtain⟨c1,c2⟩:=ok
  rw[if_pos c1]at b1
  rw[c2]at km
  simp only[c1,if_true]at g4
  rw[x9]at g4
  have eR:zk (l.map (·.1)) x.m=((AD (l.map (·.1)) x.m).getD Bx,(AD (l.map (·.1)) x.m).isSome,0):=by unfold zk;rw[if_pos ⟨c1,c2⟩]
  rw[eR]
  have b2:aO (aU AP.A) bH (at_ 2 AP.f240.body) [(2,.aG h.next 0),(3,.aG (h.next+1) 0),(4,.aG (h.next+2) 0),(7,w),(8,.int .i64 0)] h4=some (.normal,[(2,.aG h.next 0),(3,.aG (h.next+1) 0),(4,.aG (h.next+2) 0),(7,w)],h4):=by
   clear ox rd hv x3 x4 g4 xh4 ox4 b0 b1
   generalize xz x=X at *
   simp (disch:=omega)only[go_sem,xF,AP.f240,yD,yz,gM4,LO,zg,lx,tX,aa8,km]
  obtain⟨y0,hy0⟩:∃y:yT,y=⟨⟨0,x.m.dst,x.m.src,0,[],[],[],[],[]⟩,.aS,.aS,.aS,.aS,.aS,[],[]⟩:=⟨_,rfl⟩
  obtain⟨h5,eh5⟩:∃g,g=(h4.alloc (xz yc)).set h4.next (xz y0):=⟨_,rfl⟩
  have ga:(h4.alloc (xz yc)).get h4.next=some (xz yc):=xE rfl
  have n5:h5.next=h4.next+1:=by rw[eh5];simp
  have f5:h5.floor=h.floor:=by rw[eh5];simp;omega
  have x5:Ext h4 h5:=fun i c q=>by have:=h4.lt _ _ q;rw[eh5,xC (by omega),xI (by omega)];exact q
  have g5:h5.get h4.next=some (xz y0):=by rw[eh5,xH rfl,ga];rfl
  have st5:vR (h4.alloc (xz yc)) h4.next 0 9 (xz y0) (some (xz yc))=some h5:=by rw[eh5];exact yl (by simp;omega) rfl rfl (by rw[hy0];rfl)
  have b3:aO (aU AP.A) bH (at_ 3 AP.f240.body) [(2,.aG h.next 0),(3,.aG (h.next+1) 0),(4,.aG (h.next+2) 0),(7,w)] h4=some (.normal,[(2,.aG h.next 0),(3,.aG (h.next+1) 0),(4,.aG (h.next+2) 0),(7,w),(9,.aG h4.next 0)],h5):=by
   have e1:(xz x)[1]?=some (.int .i64 x.m.src):=rfl
   have e2:(xz x)[2]?=some (.int .i64 x.m.dst):=rfl
   have z0:([.int .i64 0,.int .i64 0,.int .i64 0,.int .i64 0,.aS,.aS,.aS,.aS,.aS]:List AV)=xz yc:=rfl
   have zy:eP (xz yc) [(1,1,.int .i64 x.m.dst),(2,1,.int .i64 x.m.src)]=some (xz y0):=by rw[hy0];rfl
   have cz:AV.aE (xz yc)=true:=rfl
   clear ox rd hv x3 x4 g4 xh4 ox4 b0 b1 b2 x5 hy0 tX
   generalize xz x=X at *
   generalize xz yc=Z at *
   generalize xz y0=Y at *
   simp (disch:=omega)only[go_sem,AP.f240,yD,yz,gM4,e1,e2,z0,zy,cz,Cr,zg,GY,aa5,abn,ga,st5,wY,xH,xC,xE,xI]
  have ka:=K4 h5 x.m.kind
  have gM5:=x5 _ _ gM4
  have e0:(xz x)[0]?=some (.int .i64 x.m.kind):=rfl
  have b4:∀fv,aU AP.A 277 [.int .i64 x.m.kind] h5=some (fv,h5)→aO (aU AP.A) bH (at_ 4 AP.f240.body) [(2,.aG h.next 0),(3,.aG (h.next+1) 0),(4,.aG (h.next+2) 0),(7,w),(9,.aG h4.next 0)] h5=some (.normal,[(2,.aG h.next 0),(3,.aG (h.next+1) 0),(4,.aG (h.next+2) 0),(7,w),(9,.aG h4.next 0),(10,fv)],h5):=fun fv q=>by
   clear ox rd hv x3 x4 g4 xh4 ox4 b0 b1 b2 b3 x5 hy0 tX ka
   generalize xz x=X at *
   simp (disch:=omega)only[go_sem,xF,AP.f240,yD,yz,gM5,e0,q]
  have hb:∀fv,aU AP.A 277 [.int .i64 x.m.kind] h5=some (fv,h5)→aO (aU AP.A) bH AP.f240.body (params 0 [.agg [v],.agg (xz x)]) h=aO (aU AP.A) bH (I9 5 AP.f240.body) [(2,.aG h.next 0),(3,.aG (h.next+1) 0),(4,.aG (h.next+2) 0),(7,w),(9,.aG h4.next 0),(10,fv)] h5:=fun fv q=>by
   rw[HE,ua,b0,uH,ua,b1,uH,ua,b2,uH,ua,b3,uH,ua,b4 fv q,uH]
   rfl
  obtain⟨h6,eh6⟩:∃g,g=h5.alloc [v,w]:=⟨_,rfl⟩
  have x6:Ext h5 h6:=by rw[eh6];exact(Ext.refl _).alloc _
  have n6:h6.next=h4.next+2:=by rw[eh6];simp [n5]
  have f6:h6.floor=h.floor:=by rw[eh6];simp [f5]
  have rdW:Rd h4 w (ints (xQ (l.map (·.1)))):=Kv (by rw[x9];exact g4.own)
  have sd:Sd h4 v w l:=⟨rd.mono fun i c q=>xh4 i c q,fun z hz=>⟨(hv z hz).1.mono xh4,(hv z hz).2⟩,c1,rdW⟩
  have k3:L6 h4 h6 h5.next (h.next+1) h4.next v w l x:=⟨sd,ox4,by rw[eh6,xE rfl],x6 _ _ gM5,⟨by omega,by omega⟩,fun i c q=>x6 _ _ (x5 _ _ q),wU _,by omega,by omega,by omega⟩
  have gO6:=x6 _ _ g5
  have gR6:=x6 _ _ (x5 _ _ gR4)
  have gP5:=x5 _ _ gP4
  have fin:∀{b:Bool} {h7:H} {y:yT} {f:Nat},aU AP.A 277 [.int .i64 x.m.kind] h5=some (.fn f [] [],h5)→aU AP.A f [.aG h5.next 0,.aG (h.next+1) 0,.aG h4.next 0] h6=some (.bool b,h7)→h7.get h4.next=some (xz y)→(∀i c,i≠h4.next→h6.get i=some c→h7.get i=some c)→h6.next≤h7.next→h7.floor=h6.floor→AV.aE (xz y)=true→
   ∃h',aU AP.A 240 [.agg [v],.agg (xz x)] h=some (.bW [.agg (xz (if b then y else yc)),.bool b,.int .i64 0],h')∧(∀i c,i≠h.next+2→h7.get i=some c→h'.get i=some c)∧h'.floor=h.floor∧h'.next=h7.next:=fun {b h7 y f} qa qf qO ql qn qfl qc=>by
   have gR7:=ql _ _ (by omega) gR6
   obtain⟨e,t1,t2,t3,t4⟩:=Me (P:=h.next) (M:=h.next+1) (O:=h4.next) eh6.symm sv sw gP5 qf qO gR7 (by omega) qc
   refine⟨if b then h7.set (h.next+2) (xz y)else h7.set (h.next+2) (xz yc),vv (fn:=AP.f240) (h2:=if b then h7.set (h.next+2) (xz y)else h7.set (h.next+2) (xz yc)) (e:=e) (vs:=[.agg (xz (if b then y else yc)),.bool b,.int .i64 0]) rfl rfl rfl (by rw[hb _ qa,t1]) ?_,fun i c q1 q2=> ?_, ?_, ?_⟩
   · cases b with
     | true =>
       have gg:(h7.set (h.next+2) (xz y)).get (h.next+2)=some (xz y):=by rw[xH rfl,gR7];rfl
       simp only[AP.f240,c9,oL,t2,t3,t4,if_true,sX,gg,uX];rfl
     | false =>
       have gg:(h7.set (h.next+2) (xz yc)).get (h.next+2)=some (xz yc):=by rw[xH rfl,gR7];rfl
       simp only[AP.f240,c9,oL,t2,t3,t4,wR,xp,sX,gg,uX];rfl
   · cases b<;>simp only[wR,if_true,xp]<;>rw[xC q1]<;>exact q2
   · cases b<;>simp [qfl,f6]
   · cases b<;>simp
  have none_fin:∀{h7:H} {h':H} (e:BE×Bool×Int),e=(Bx,false,0)→aU AP.A 240 [.agg [v],.agg (xz x)] h=some (.bW [.agg (xz yc),.bool false,.int .i64 0],h')→Ext h h'→h'.floor=h.floor→h.next≤h'.next→
   ∃y h',aU AP.A 240 [.agg [v],.agg (xz x)] h=some (.bW [.agg (xz y),.bool e.2.1,.int .i64 e.2.2],h')∧y.m=e.1∧Zk h h' y:=fun {h7 h'} e he q1 q2 q3 q4=>by
   subst he
   exact⟨yc,h',q1,rfl,KW h',KX _ _,q2,q3,q4⟩
  have xfin:∀{h7 h':H},(∀i c,i≠h4.next→h6.get i=some c→h7.get i=some c)→(∀i c,i≠h.next+2→h7.get i=some c→h'.get i=some c)→Ext h h':=fun a b i c q=>by
   have:=h.lt _ _ q
   exact b _ _ (by omega) (a _ _ (by omega) (x6 _ _ (x5 _ _ (xh4 _ _ q))))
  obtain⟨iw,ew,gw,fw,_⟩:∃i,w=.aH i 0 8 1∧h4.get i=some (ints (xQ (l.map (·.1))))∧h4.floor≤i∧h3.next≤i:=by
   obtain⟨_,⟨_,q⟩|⟨i,q1,q2,q3,_⟩⟩:=g4.own
   · exact absurd q (by decide)
   · exact⟨i,q1,q2,q3,g4.ge i (by rw[q1];rfl)⟩
  have iwn:=h4.lt _ _ gw
  by_cases h0:x.m.kind=0
  · rw[if_pos h0]at ka
    have sd6:=sd.mono fun i c q=>x6 _ _ (x5 _ _ q)
    have ks:=NC h6 h5.next (h.next+1) h4.next v w l sd6 (by rw[eh6,xE rfl]) x y0 k3.gM gO6 (by omega) k3.ne sw
    have low:∀i c,i≠h4.next→h6.get i=some c→(h6.set h4.next (xz {y0 with m:={y0.m with kind:=1},vd:=w})).get i=some c:=fun i c c2 q=>by rw[xC c2];exact q
    obtain⟨h',t1,t2,t3,t4⟩:=fin (y:={y0 with m:={y0.m with kind:=1},vd:=w}) ka ks (by rw[xH rfl,gO6];rfl) low (by simp) (by simp) (by rw[hy0];simp [xz,sw])
    have X':=xfin low t2
    have N':h.next≤h'.next:=by rw[t4];simp;omega
    by_cases c:xZ (xQ (l.map (·.1)))=x.m.root
    · rw[dt c,Bool.not_true,if_neg (by decide)]at t1
      refine none_fin (h7:=h6) _ ?_ t1 X' t3 N'
      unfold AD;rw[if_pos h0,if_pos c];rfl
    · rw[df c,Bool.not_false,if_pos rfl]at t1
      have ea:AD (l.map (·.1)) x.m=some ⟨1,x.m.dst,x.m.src,0,xQ (l.map (·.1)),[],[],[],[]⟩:=by unfold AD;rw[if_pos h0,if_neg c]
      rw[ea]
      have gw':h'.get iw=some (ints (xQ (l.map (·.1)))):=t2 _ _ (by omega) (low _ _ (by omega) (x6 _ _ (x5 _ _ gw)))
      refine⟨⟨⟨1,x.m.dst,x.m.src,0,xQ (l.map (·.1)),[],[],[],[]⟩,w,.aS,.aS,.aS,.aS,[],[]⟩,h', ?_,rfl,⟨⟨?_,BQ _,Hr _,rfl,BQ _,EC _ _,rfl,fun y hy=>(by cases hy),fun y hy=>(by cases hy),⟨sw,rfl,rfl,rfl,rfl⟩, ?_,by show(0:Nat)<_;omega,by show(0:Nat)<_;omega,by show(0:Nat)<_;omega,by show(0:Nat)<_;omega,⟨fun s hs=>(by cases hs),fun s hs=>(by cases hs)⟩⟩,.d (.inr ⟨iw, ?_,gw',by omega,by omega, ?_⟩) rfl rfl rfl rfl,X',t3,N'⟩⟩
      · rw[t1,hy0];rfl
      · rw[ew];exact Rd.obj gw' (x9 _)
      · show(xQ (l.map (·.1))).length<_;rw[x9];omega
      · show w=_;rw[ew,x9]
      · show(xQ (l.map (·.1))).length<_;rw[x9];omega
  rw[if_neg h0]at ka
  by_cases h1:x.m.kind=1
  · rw [if_pos h1] at ka
    have l8:x.m.y5.length=8:=by
     have:=c2
     unfold BP At at this
     rw[if_neg h0,if_pos h1]at this
     simp only[wT,aa1]at this
     exact this.2.1.1
    obtain⟨h7,ov,ow,acc,ks,low,n7,f7,gO7,o1,o2,m2,g1,g2,g3⟩:=LS (y:=y0) k3 sv l8 gO6 (by rw[hy0])
    have s1:=o1.sc
    have s2:=o2.sc
    obtain⟨h',t1,t2,t3,t4⟩:=fin (y:={y0 with m:={y0.m with kind:=2},vb:=ov,vf:=ow}) ka ks gO7 low n7 f7 (by rw[hy0];simp [xz,s1,s2])
    have X':=xfin low t2
    have N':h.next≤h'.next:=by rw[t4];omega
    obtain⟨U,hU⟩:∃U,U=zB (l.map (·.1)) x.m.y5:=⟨_,rfl⟩
    rw[←hU]at t1 o1 m2
    by_cases c:U=[]
    · rw[c]at t1
      refine none_fin (h7:=h6) _ ?_ t1 X' t3 N'
      unfold AD;rw[if_neg h0,if_pos h1,←hU,if_pos c];rfl
    · have U0:0<U.length:=abo.2 c
      rw[dt U0,if_pos rfl]at t1
      have ea:AD (l.map (·.1)) x.m=some ⟨2,x.m.dst,x.m.src,0,[],U,yA (l.map (·.1)) U,[],[]⟩:=by unfold AD;rw[if_neg h0,if_pos h1,←hU,if_neg c]
      rw[ea]
      have Ul:U.length≤8:=by rw[hU];have:=Co (xQ (l.map (·.1))) x.m.y5 0;rw[x9]at this;exact this
      have o1':x8 1 h' ov U.length (ints U):=by
       obtain⟨a,⟨b1,b2⟩|⟨j,b1,b2,b3,b4⟩⟩:=o1
       · exact⟨a,.inl ⟨b1,b2⟩⟩
       · have:=g1 j (by rw[b1];rfl)
         exact⟨a,.inr ⟨j,b1,t2 _ _ (by omega) b2,by omega,b4⟩⟩
      have o2':x8 2 h' ow acc.length (zH acc):=by
       obtain⟨a,⟨b1,b2⟩|⟨j,b1,b2,b3,b4⟩⟩:=o2
       · exact⟨a,.inl ⟨b1,b2⟩⟩
       · have:=(g2 j (by rw[b1];rfl)).1
         exact⟨a,.inr ⟨j,b1,t2 _ _ (by omega) b2,by omega,b4⟩⟩
      have al:acc.length≤6:=by
       have:=abt List.length m2
       rw[aa0]at this
       have a2:=CJ (l.map (·.1)) U
       have a3:=(yu (yB c1)).1
       omega
      have bsz:∀z∈acc,z.1.1.size≤8:=fun z hz=>by
       have:z.1∈yA (l.map (·.1)) U:=by rw[←m2];exact aa6.2 ⟨z,hz,rfl⟩
       unfold yA at this
       obtain⟨e,he,q⟩:=aa6.1 this
       rw[←q]
       exact(Bt c1 e ((abr.1 he).1)).2.2
      have vz:∀z∈acc,z.1.2.length=4∧∃j,z.2=.aH j 0 4 1∧h'.get j=some (ints z.1.2)∧h.next≤j∧ow.id?≠some j∧ov.id?≠some j∧h'.floor≤j:=fun z hz=>by
       obtain⟨a1,j,a2,a3,a4,a5,a6,a7⟩:=g3 z hz
       exact⟨a1,j,a2,t2 _ _ (by omega) a3,by omega,a5,a6,by omega⟩
      refine⟨⟨⟨2,x.m.dst,x.m.src,0,[],U,yA (l.map (·.1)) U,[],[]⟩,.aS,ov,ow,.aS,.aS,acc,[]⟩,h', ?_,rfl,⟨⟨BQ _,Kv o1',⟨o2'.rd,fun z hz=> ?_⟩,m2,BQ _,EC _ _,rfl,fun y hy=>(by cases hy),fun z hz=> ?_,⟨rfl,s1,s2,rfl,rfl⟩,by show(0:Nat)<_;omega,by show U.length<_;omega, ?_,by show(0:Nat)<_;omega,by show(0:Nat)<_;omega,⟨fun s hs=>(by cases hs),fun b hb=> ?_⟩⟩,.b ?_ ⟨o2',fun i q=>by have:=(g2 i q).1;omega,fun z hz=> ?_⟩ (by show acc.length≤1000;omega) (fun i q=> ?_) rfl rfl rfl,X',t3,N'⟩⟩
      · rw[t1,hy0];rfl
      · obtain⟨a1,j,a2,a3,_⟩:=vz z hz
        rw[a2]
        exact⟨Rd.obj a3 a1,by omega⟩
      · obtain⟨a1,j,a2,_⟩:=vz z hz
        rw[a2];rfl
      · have a2:=CJ (l.map (·.1)) U
        have a3:=(yu (yB c1)).1
        show(yA (l.map (·.1)) U).length<_
        omega
      · have hb':b∈yA (l.map (·.1)) U:=hb
        rw[←m2]at hb'
        obtain⟨z,hz,rfl⟩:=aa6.1 hb'
        have:=bsz z hz
        omega
      · obtain⟨_,⟨b1,b2⟩|⟨j,b1,b2,b3,b4⟩⟩:=o1'
        · exact .inl b1
        · have:=g1 j (by rw[b1];rfl)
          exact .inr ⟨j,b1,b2,b3,by omega,by show U.length<_;omega⟩
      · obtain⟨a1,j,a2,a3,a4,a5,a6,a7⟩:=vz z hz
        exact⟨bsz z hz,a1,j,a2,a3,a4,a5,a7⟩
      · refine⟨fun q2=>(g2 i q2).2 q,fun z hz q2=> ?_⟩
        obtain⟨a1,j,a2,a3,a4,a5,a6,a7⟩:=vz z hz
        rw[a2]at q2
        obtain rfl:=wH q2
        exact a6 q
  rw[if_neg h1]at ka
  by_cases h2':x.m.kind=2
  · rw [if_pos h2'] at ka
    have fm:x.m.xV.length≤6∧(∀b∈x.m.xV,yS b.2=true)∧∀b∈x.m.xV,b.1.size≤8:=by
     have:=c2
     unfold BP At at this
     rw[if_neg h0,if_neg h1,if_pos h2']at this
     simp only[wT,aa1,aba]at this
     exact⟨this.2.1.2.2.2.1,this.2.1.2.2.2.2,fun b hb=>GJ this.2.1.2.2.1 b.1 (aa6.2 ⟨b,hb,rfl⟩)⟩
    have fl6:x.fs.length≤6:=by
     have:x.fs.length=x.m.xV.length:=by rw[←ox.hf];simp
     omega
    obtain⟨h7,ov,ks,low,n7,f7,gO7,o1,g1⟩:=Vy (y:=y0) k3 fl6 fm.2.1 gO6 (by rw[hy0])
    have s1:=o1.sc
    obtain⟨h',t1,t2,t3,t4⟩:=fin (y:={y0 with m:={y0.m with kind:=3},vn:=ov}) ka ks gO7 low n7 f7 (by rw[hy0];simp [xz,s1])
    have X':=xfin low t2
    have N':h.next≤h'.next:=by rw[t4];omega
    obtain⟨U,hU⟩:∃U,U=Ad (l.map (·.1)) x.m.xV:=⟨_,rfl⟩
    rw[←hU]at t1 o1
    by_cases c:U=[]
    · rw[c]at t1
      refine none_fin (h7:=h6) _ ?_ t1 X' t3 N'
      unfold AD;rw[if_neg h0,if_neg h1,if_pos h2',←hU,if_pos c];rfl
    · have U0:0<U.length:=abo.2 c
      rw[dt U0,if_pos rfl]at t1
      have ea:AD (l.map (·.1)) x.m=some ⟨3,x.m.dst,x.m.src,0,[],[],[],U,[]⟩:=by unfold AD;rw[if_neg h0,if_neg h1,if_pos h2',←hU,if_neg c]
      rw[ea]
      have Ul:U.length≤6:=by rw[hU];unfold Ad;rw[aa0];exact xq (abv _ _) fm.1
      have Us:∀s∈U,s.size≤8:=fun s hs=>by
       rw[hU]at hs
       unfold Ad at hs
       obtain⟨b,hb,rfl⟩:=aa6.1 hs
       exact fm.2.2 b (abr.1 hb).1
      have o1':x8 1 h' ov U.length (Ay U):=by
       obtain⟨a,⟨b1,b2⟩|⟨j,b1,b2,b3,b4⟩⟩:=o1
       · exact⟨a,.inl ⟨b1,b2⟩⟩
       · have:=g1 j (by rw[b1];rfl)
         exact⟨a,.inr ⟨j,b1,t2 _ _ (by omega) b2,by omega,b4⟩⟩
      have rN:Rd h' ov (Ay U):=by
       have:=o1'.rd
       exact⟨by rw[zE];exact this.1,this.2.2⟩
      refine⟨⟨⟨3,x.m.dst,x.m.src,0,[],[],[],U,[]⟩,.aS,.aS,.aS,ov,.aS,[],[]⟩,h', ?_,rfl,⟨⟨BQ _,BQ _,Hr _,rfl,rN,EC _ _,rfl,fun y hy=>(by cases hy),fun y hy=>(by cases hy),⟨rfl,rfl,rfl,s1,rfl⟩,by show(0:Nat)<_;omega,by show(0:Nat)<_;omega,by show(0:Nat)<_;omega,by show U.length<_;omega,by show(0:Nat)<_;omega,⟨fun s hs=>by have:=Us s hs;omega,fun s hs=>(by cases hs)⟩⟩,.n ?_ rfl rfl rfl rfl,X',t3,N'⟩⟩
      · rw[t1,hy0];rfl
      · obtain⟨_,⟨b1,b2⟩|⟨j,b1,b2,b3,b4⟩⟩:=o1'
        · exact .inl b1
        · have:=g1 j (by rw[b1];rfl)
          exact .inr ⟨j,b1,b2,b3,by omega,by show U.length<_;omega,fun s hs=>by have:=Us s hs;omega⟩
  rw[if_neg h2']at ka
  by_cases h3':x.m.kind=3
  · rw [if_pos h3'] at ka
    have nl6:x.m.names.length≤6:=by
     have:=c2
     unfold BP At at this
     rw[if_neg h0,if_neg h1,if_neg h2',if_pos h3']at this
     simp only[wT,aa1]at this
     exact this.2.1.2.2
    obtain⟨h7,ov,acc,ks,low,n7,f7,gO7,o1,m1,a6⟩:=Vx (y:=y0) k3 nl6 gO6 (by rw[hy0])
    have s1:=o1.own.sc
    obtain⟨h',t1,t2,t3,t4⟩:=fin (y:={y0 with m:={y0.m with kind:=4},ve:=ov}) ka ks gO7 low n7 f7 (by rw[hy0];simp [xz,s1])
    have X':=xfin low t2
    have N':h.next≤h'.next:=by rw[t4];omega
    obtain⟨U,hU⟩:∃U,U=BS (l.map (·.1)) x.m.names:=⟨_,rfl⟩
    rw[←hU]at t1 m1
    by_cases c:U=[]
    · rw[c]at t1
      refine none_fin (h7:=h6) _ ?_ t1 X' t3 N'
      unfold AD;rw[if_neg h0,if_neg h1,if_neg h2',if_pos h3',←hU,if_pos c];rfl
    · have U0:0<U.length:=abo.2 c
      rw[dt U0,if_pos rfl]at t1
      have ea:AD (l.map (·.1)) x.m=some ⟨4,x.m.dst,x.m.src,0,[],[],[],[],U⟩:=by unfold AD;rw[if_neg h0,if_neg h1,if_neg h2',if_pos h3',←hU,if_neg c]
      rw[ea]
      have Ul:U.length≤6:=by have:=abt List.length m1;rw[aa0]at this;omega
      have o1':WE h.next h' ov acc:=by
       refine⟨?_,fun i q=>by have:=o1.ge i q;omega,fun z hz=> ?_⟩
       · obtain⟨a,⟨b1,b2⟩|⟨j,b1,b2,b3,b4⟩⟩:=o1.own
         · exact⟨a,.inl ⟨b1,b2⟩⟩
         · have:=o1.ge j (by rw[b1];rfl)
           exact⟨a,.inr ⟨j,b1,t2 _ _ (by omega) b2,by omega,b4⟩⟩
       · obtain⟨d1,d2,j,d3,d4,d5,d6,d7⟩:=o1.el z hz
         exact⟨d1,d2,j,d3,t2 _ _ (by omega) d4,by omega,d6,by omega⟩
      have sz:∀z∈acc,z.1.name.size≤8∧z.1.packed.size≤300:=fun z hz=>by
       have:z.1∈U:=by rw[←m1];exact aa6.2 ⟨z,hz,rfl⟩
       rw[hU]at this
       have mf:=(yu (yB c1)).2.1 z.1 (Ns this)
       exact⟨(zq mf.1).2,A0 mf.2.2⟩
      refine⟨⟨⟨4,x.m.dst,x.m.src,0,[],[],[],[],U⟩,.aS,.aS,.aS,.aS,ov,[],acc⟩,h', ?_,rfl,⟨⟨BQ _,BQ _,Hr _,rfl,BQ _,o1'.own.rd,m1,fun z hz=> ?_,fun y hy=>(by cases hy),⟨rfl,rfl,rfl,rfl,s1⟩,by show(0:Nat)<_;omega,by show(0:Nat)<_;omega,by show(0:Nat)<_;omega,by show(0:Nat)<_;omega,by show U.length<_;omega,⟨fun s hs=>(by cases hs),fun s hs=>(by cases hs)⟩⟩,.e o1' (by show acc.length≤1000;omega) rfl rfl rfl rfl,X',t3,N'⟩⟩
      · rw[t1,hy0];rfl
      · obtain⟨d1,d2,j,d3,d4,d5,d6,d7⟩:=o1'.el z hz
        have:=sz z hz
        exact⟨⟨by rw[d3];exact Rd.obj d4 d2,by omega,by omega,by omega⟩,by rw[d3];rfl⟩
  rw[if_neg h3']at ka
  have gR5:=x5 _ _ gR4
  have st:vR h5 (h.next+2) 0 9 (xz yc) (some (xz yc))=some h5:=by rw[yl (n:=9) (by omega) rfl rfl rfl,H.ku gR5]
  refine none_fin (h7:=h6) (h':=h5) _ ?_ ?_ (fun i c q=>x5 _ _ (xh4 _ _ q)) f5 (by omega)
  · unfold AD;rw[if_neg h0,if_neg h1,if_neg h2',if_neg h3'];rfl
  · refine vv (fn:=AP.f240) (h2:=h5) (e:=[(4,.aG (h.next+2) 0),(5,.bool false),(6,.int .i64 0)]) (vs:=[.agg (xz yc),.bool false,.int .i64 0]) rfl rfl rfl ?_ (by simp only[AP.f240,c9,oL,ou,mM,ne_eq,Nat.reduceEqDiff,not_false_eq_true,sX,gR5,uX];rfl)
    rw[hb _ ka]
    have z0:([.int .i64 0,.int .i64 0,.int .i64 0,.int .i64 0,.aS,.aS,.aS,.aS,.aS]:List AV)=xz yc:=rfl
    have mD:gG 2 .fM .fM=some true:=rfl
    clear ox rd hv x3 x4 g4 xh4 ox4 b0 b1 b2 b3 x5 hy0 tX ka sd k3 fin xfin none_fin hb
    generalize xz yc=Z at *
    simp (disch:=omega)only[go_sem,xF,AP.f240,CV,CW,mD,z0,gR5,st]
def Zf (l:List Int):AV:=CG 1 l.length (ints l)
def slS (l:List ByteArray):AV:=CG 1 l.length (Ay l)
def Ah (m:BE):yT:=⟨m,Zf m.y5,Zf m.zA,Mq m.xV,slS m.names,zW m.yJ,m.xV.map MU,m.yJ.map zP⟩
theorem FM (n k:Nat) (cs:List AV):(CG n k cs).sc=true:=by unfold CG;split<;>rfl
structure VP (m:BE):Prop where
 d:m.y5.length<1000
 b:m.zA.length<1000
 f:m.xV.length<1000
 n:m.names.length<1000
 e:m.yJ.length<1000
 nz:∀s∈m.names,s.size<1000
 fz:∀b∈m.xV,b.1.size<1000∧b.2.length<1000
 ez:∀e∈m.yJ,e.name.size<1000∧e.packed.size<1000∧e.vec.length<1000
theorem Dn (h:H) {m:BE} (s:VP m):B0 h (Ah m):=by
 have Zc:∀l:List Int,Rd h (Zf l) (ints l):=fun l=>by
  have:=FD (n:=1) (k:=l.length) (h:=h) (cs:=ints l) (by rw[rk];omega)
  exact⟨by rw[rk];exact this.1,this.2.2⟩
 have d:=s.d
 have b:=s.b
 have f:=s.f
 have n:=s.n
 have e:=s.e
 refine⟨Zc _,Zc _,Mr h fun b hb=>by have:=(s.fz b hb).2;omega,(by show(m.xV.map MU).map (·.1)=_;rw[abw];exact List.map_id _), ?_,He h _,(by show(m.yJ.map zP).map (·.1)=_;rw[abw];exact List.map_id _),fun y hy=> ?_,fun y hy=> ?_,⟨FM _ _ _,FM _ _ _,FM _ _ _,FM _ _ _,Dl _⟩,by show m.y5.length<_;omega,by show m.zA.length<_;omega,by show m.xV.length<_;omega,by show m.names.length<_;omega,by show m.yJ.length<_;omega,⟨fun t ht=>by have:=s.nz t ht;omega,fun t ht=>by have:=(s.fz t ht).1;omega⟩⟩
 · have:=FD (n:=1) (k:=m.names.length) (h:=h) (cs:=Ay m.names) (by rw[zE];omega)
   exact⟨by rw[zE];exact this.1,this.2.2⟩
 · obtain⟨x,hx,rfl⟩:=aa6.1 hy
   have:=s.ez x hx
   exact⟨⟨y8 h x.vec,by show x.vec.length<_;omega,by show x.name.size<_;omega,by show x.packed.size<_;omega⟩,rfl⟩
 · obtain⟨x,hx,rfl⟩:=aa6.1 hy
   rfl
theorem Vv:VP Bx:=⟨by decide,by decide,by decide,by decide,by decide,fun s h=>(by cases h),fun s h=>(by cases h),fun s h=>(by cases h)⟩
def Ax (L:List xP) (f t:Int):BE×Int:=if yh L=true∧(yY f=true∧yY t=true∧f≠t)then(⟨0,f,t,xZ (xQ L),[],[],[],[],[]⟩,0)else(Bx,2200)
theorem Kn (L:List xP) (f t:Int):VP (Ax L f t).1:=by
 unfold Ax
 split
 · exact⟨by show(0:Nat)<_;omega,by show(0:Nat)<_;omega,by show(0:Nat)<_;omega,by show(0:Nat)<_;omega,by show(0:Nat)<_;omega,fun s h=>(by cases h),fun s h=>(by cases h),fun s h=>(by cases h)⟩
 · exact Vv
theorem Vj (L:List xP) (f t:Int):xz (Ah (Ax L f t).1)=[.int .i64 (Ax L f t).1.kind,.int .i64 (Ax L f t).1.src,.int .i64 (Ax L f t).1.dst,.int .i64 (Ax L f t).1.root,.aS,.aS,.aS,.aS,.aS]:=by
 unfold Ax
 split<;>rfl
theorem Hn (h : H) (v : AV) (l : List xN) (sv : v.sc = true) (hn : l.length < 1125899906842624) (rd : yM 9 h v l.length (xG l)) (hv : ∀ x ∈ l, yF h x ∧ x.2.sc = true) (f t : Int) :
 aU AP.A 238 [.agg [v],.int .i64 f,.int .i64 t] h=some (.bW [.agg (xz (Ah (Ax (l.map (·.1)) f t).1)),.int .i64 (Ax (l.map (·.1)) f t).2],h):=by
 obtain⟨h1,eh1⟩:∃g,g=h.eO.alloc [v]:=⟨_,rfl⟩
 obtain⟨h2,eh2⟩:∃g,g=h1.alloc (xz yc):=⟨_,rfl⟩
 have n0:h.eO.next=h.next:=rfl
 have n1:h1.next=h.next+1:=by rw[eh1];simp
 have n2:h2.next=h.next+2:=by rw[eh2];simp [n1]
 have f2:h2.floor=h.next:=by rw[eh2,eh1];simp
 have x2:Ext h h2:=fun i c q=>by rw[eh2,eh1];exact(((Ext.refl h.eO).alloc _).alloc _) i c q
 have g1:h2.get h.next=some [v]:=by rw[eh2,xI (by omega),eh1];exact xE rfl
 have gR:h2.get (h.next+1)=some (xz yc):=by rw[eh2,xE (by omega)]
 have z2:h1.alloc (xz yc)=h2:=eh2.symm
 have cz:AV.aE (xz yc)=true:=rfl
 have rd2:=rd.mono fun i c q=>x2 i c q
 have hv2:∀x∈l,yF h2 x∧x.2.sc=true:=fun x hx=>⟨(hv x hx).1.mono x2,(hv x hx).2⟩
 have fin:∀(h3:H) (m:BE) (e:Int),(∀g:Nat→Option (List AV),(gH (snap g h.next 14 true) (xz (Ah m)))=some (xz (Ah m)))→h3.get (h.next+1)=some (xz (Ah m))→aO (aU AP.A) bH AP.f238.body (params 0 [.agg [v],.int .i64 f,.int .i64 t]) h.eO=some (.ret,[(6,.aG (h.next+1) 0),(7,.int .i64 e)],h3)→
  aU AP.A 238 [.agg [v],.int .i64 f,.int .i64 t] h=some (.bW [.agg (xz (Ah m)),.int .i64 e],h):=fun h3 m e hs hg hb=>by
  refine vP (fn:=AP.f238) (h2:=h3) (e:=[(6,.aG (h.next+1) 0),(7,.int .i64 e)]) (vs:=[.agg (xz (Ah m)),.int .i64 e]) rfl rfl rfl hb (by simp only[AP.f238,c9,oL,ou,mM,ne_eq,Nat.reduceEqDiff,not_false_eq_true,sX,hg,uX];rfl) ?_
  show(gH (snap h3.get h.next 15 true) [.agg (xz (Ah m)),.int .i64 e]).bind _=_
  have s1:snap h3.get h.next 15 true (.agg (xz (Ah m)))=some (.agg (xz (Ah m))):=by
   show(gH (snap h3.get h.next 14 true) (xz (Ah m))).bind _=_
   rw[hs];rfl
  simp only[gH,s1];rfl
 have sn:∀(a b c d:Int) (g:Nat→Option (List AV)),gH (snap g h.next 14 true) [.int .i64 a,.int .i64 b,.int .i64 c,.int .i64 d,.aS,.aS,.aS,.aS,.aS]=some [.int .i64 a,.int .i64 b,.int .i64 c,.int .i64 d,.aS,.aS,.aS,.aS,.aS]:=fun a b c d g=>rfl
 have eC:=Vj (l.map (·.1)) f t
 refine(fun q:∃h3,h3.get (h.next+1)=some (xz (Ah (Ax (l.map (·.1)) f t).1))∧aO (aU AP.A) bH AP.f238.body (params 0 [.agg [v],.int .i64 f,.int .i64 t]) h.eO=some (.ret,[(6,.aG (h.next+1) 0),(7,.int .i64 (Ax (l.map (·.1)) f t).2)],h3)=>q.elim fun h3 q=>fin h3 _ _ (fun g=>by rw[eC];exact sn _ _ _ _ g) q.1 q.2) ?_
 clear fin sn
 have stz:∀{h3:H},h3.floor=h.next→h3.get (h.next+1)=some (xz yc)→vR h3 (h.next+1) 0 9 (xz yc) (some (xz yc))=some h3:=fun hf hg=>by rw[yl (n:=9) (by omega) rfl rfl rfl,H.ku hg]
 have z0:([.int .i64 0,.int .i64 0,.int .i64 0,.int .i64 0,.aS,.aS,.aS,.aS,.aS]:List AV)=xz yc:=rfl
 by_cases hm:yh (l.map (·.1))=true
 · obtain⟨i,h3,k1,gi,x3,f3,n3,_⟩:=Sv h2 (by omega) v l sv hn rd2 hv2 hm
   have gR3:=x3 _ _ gR
   have q1:=Fs h3 f
   have q2:=Fs h3 t
   have st:=stz (h3:=h3) (by omega) gR3
   by_cases c:yY f=true∧yY t=true∧f≠t
   · have eo:Ax (l.map (·.1)) f t=(⟨0,f,t,xZ (xQ (l.map (·.1))),[],[],[],[],[]⟩,0):=by unfold Ax;rw[if_pos ⟨hm,c⟩]
     rw[eo]
     obtain⟨c1,c2,c3⟩:=c
     rw[c1]at q1
     rw[c2]at q2
     have k2:=Nu h3 (.aH i 0 8 1) (xQ (l.map (·.1))) (Rd.obj gi (x9 _)) (by rw[x9];omega)
     unfold FJ at k2
     rw[Ca,x9,dt rfl,abm,if_pos rfl]at k2
     obtain⟨Y,hY⟩:∃Y,Y=xz (Ah ⟨0,f,t,xZ (xQ (l.map (·.1))),[],[],[],[],[]⟩):=⟨_,rfl⟩
     rw[←hY]
     have fy:eP (xz yc) [(0,1,.int .i64 0),(1,1,.int .i64 f),(2,1,.int .i64 t),(3,1,.int .i64 (xZ (xQ (l.map (·.1)))))]=some Y:=by rw[hY];rfl
     have st2:vR h3 (h.next+1) 0 9 Y (some (xz yc))=some (h3.set (h.next+1) Y):=yl (by omega) (by rw[hY];rfl) rfl (by rw[hY];rfl)
     refine⟨h3.set (h.next+1) Y,by rw[xH rfl,gR3];rfl, ?_⟩
     clear rd rd2 hv hv2 x2 x3 hY eC eo
     generalize xZ (xQ (l.map (·.1)))=R at *
     generalize xz yc=Z at *
     simp (disch:=omega)only[go_sem,Cr,GZ,zg,GY,rP,tO,abD,aa3,abm,dt,df,PQ,Vh,Sy,aaV,aaX,wY,abl,aa5,abn,AP.f238,sv,n0,←eh1,n1,cz,z2,g1,yx,k1,q1,q2,k2,fy,gR3,st2,z0]
   · have eo:Ax (l.map (·.1)) f t=(Bx,2200):=by unfold Ax;rw[if_neg (fun q=>c q.2)]
     rw[eo]
     refine⟨h3,gR3, ?_⟩
     clear rd rd2 hv hv2 x2 x3 eC eo stz
     have cc:yY f=false∨yY f=true∧yY t=false∨yY f=true∧yY t=true∧f=t:=by
      cases a:yY f<;>cases b:yY t<;>simp_all
     generalize xz yc=Z at *
     rcases cc with c1|⟨c1,c2⟩|⟨c1,c2,c3⟩
     · rw[c1]at q1
       simp (disch:=omega)only[go_sem,xF,AP.f238,sv,n0,←eh1,n1,cz,z2,g1,yx,k1,q1,q2,gR3,z0,st]
     · rw[c1]at q1
       rw[c2]at q2
       simp (disch:=omega)only[go_sem,xF,AP.f238,sv,n0,←eh1,n1,cz,z2,g1,yx,k1,q1,q2,gR3,z0,st]
     · rw[c1]at q1
       rw[c2]at q2
       simp (disch:=omega)only[go_sem,xF,AP.f238,sv,n0,←eh1,n1,cz,z2,g1,yx,k1,q1,q2,gR3,z0,st]
 · have hm':yh (l.map (·.1))=false:=by simpa using hm
   obtain⟨h3,k1,x3,f3,n3⟩:=Su h2 (by omega) v l sv hn rd2 hv2 hm'
   have gR3:=x3 _ _ gR
   have st:=stz (h3:=h3) (by omega) gR3
   have eo:Ax (l.map (·.1)) f t=(Bx,2200):=by unfold Ax;rw[if_neg (fun q=>hm q.1)]
   rw[eo]
   refine⟨h3,gR3, ?_⟩
   clear rd rd2 hv hv2 x2 x3 eC eo stz
   generalize xz yc=Z at *
   simp (disch:=omega)only[go_sem,xF,AP.f238,sv,n0,←eh1,n1,cz,z2,g1,yx,k1,gR3,z0,st]
def Dx:List Int→List Int→Bool
 |x::a,y::b=>decide (y<x)||Dx a b
 |_,_=>false
def Bg:List Int→List Int→Bool
 |x::a,y::b=>decide (x<y)||Bg a b
 |_,_=>false
theorem Gn : ∀ {a b : List Int}, a.length = b.length → decide (yw a b = a) = !Bg a b
 |[],[],_=>rfl
 |[],_::_,h=>by cases h
 |_::_,[],h=>by cases h
 | x :: a, y :: b, h => by
   have ih:=Gn (a:=a) (b:=b) (by simpa using h)
   unfold Bg
   have e:yw (x::a) (y::b)=yX x y::yw a b:=rfl
   rw[e]
   by_cases c:x<y
   · rw[dt c,df]
     · rfl
     · intro q
       have:=(List.cons.inj q).1
       unfold yX at this
       split at this<;>omega
   · have m:yX x y=x:=by unfold yX;split<;>omega
     rw[df c,m,abp,←ih]
     by_cases q:yw a b=a
     · rw[dt q,dt (by rw[q])]
     · rw[df q,df (fun w=>q (List.cons.inj w).2)]
theorem Ix {v w:AV} {a b:List Int} (hab:a.length=b.length) (hl:a.length<1000) (h:H) (ra:Rd h v (ints a)) (rb:Rd h w (ints b)):∀(q r p p':List Int),a=p++q→b=p'++r→p.length=p'.length→∀(m s:Bool),
 ∃e',Lp AP.A [0,1,6,7,8] AP.f279L0 [(0,v),(1,w),(6,.bool m),(7,.bool s),(8,.int .i64 p.length)] h=some (.exit 0,e',h)∧look e' 6=.bool (m||Dx q r)∧look e' 7=.bool (s||Bg q r)
 | [], r, p, p', hp, hp', hpp, m, s => by
   rw[aa2]at hp;subst hp
   have ln:=ra.len
   rw[rk]at ln
   simp only[I]at ln
   have hr:r=[]:=aa7 (by rw[hp',xu]at hab;omega)
   subst hr
   refine⟨[(0,v),(1,w),(6,.bool m),(7,.bool s),(8,.int .i64 a.length),(20,.bool false)],u6 ?_,by simp [Dx,look],by simp [Bg,look]⟩
   clear ra rb
   simp (disch:=omega)only[go_sem,xF,AP.f279L0,ln]
 | x :: q, [], p, p', hp, hp', hpp, m, s => by
   rw[hp,hp']at hab;simp at hab;omega
 | x :: q, y :: r, p, p', hp, hp', hpp, m, s => by
   have hlen:a.length=p.length+(q.length+1):=by rw[hp];simp
   have ln:=ra.len
   rw[rk]at ln
   simp only[I]at ln
   obtain⟨ad,a1,a3⟩:=ra.yL
   obtain⟨bd,b1,b3⟩:=rb.yL
   have i1:=a1 p.length ⟨by omega,by omega⟩
   have i2:=a3 h (Ext.refl h) p.length x (by rw[hp];simp)
   have j1:=b1 p.length ⟨by omega,by omega⟩
   have j2:=b3 h (Ext.refl h) p.length y (by rw[hp',hpp];simp)
   obtain⟨e',r1,r2,r3⟩:=Ix hab hl h ra rb q r (p++[x]) (p'++[y]) (by rw[hp];simp) (by rw[hp'];simp) (by simp [hpp]) (m||decide (y<x)) (s||decide (x<y))
   have w1:(((p++[x]).length:Nat):Int)=(p.length:Int)+1:=by simp
   rw[w1]at r1
   refine⟨e',u9 ?_ r1,by rw[r2,Dx,Bool.or_assoc],by rw[r3,Bg,Bool.or_assoc]⟩
   clear r1 r2 r3 ra rb a1 a3 b1 b3 hp hp'
   by_cases c1:y<x
   · have c2:¬x<y:=by omega
     cases m<;>cases s<;>simp (disch:=omega)only[go_sem,xF,AP.f279L0,ln,i1,i2,j1,j2]
   · by_cases c2:x<y<;>cases m<;>cases s<;>simp (disch:=omega)only[go_sem,xF,AP.f279L0,ln,i1,i2,j1,j2]
def Cf (a b:List Int):Int:=if Dx a b&&Bg a b then 3 else if Dx a b then 2 else if Bg a b then 1 else 0
theorem Nf (h:H) (v w:AV) (a b:List Int) (ra:Rd h v (ints a)) (rb:Rd h w (ints b)) (ha:yS a=true) (hb:yS b=true):aU AP.A 279 [v,w] h=some (.bW [.int .i64 (Cf a b),.int .i64 0],h):=by
 have la:a.length=4:=by simp only[yS,wT,aa1]at ha;exact ha.1
 have lb:b.length=4:=by simp only[yS,wT,aa1]at hb;exact hb.1
 have raf:Rd h.eO v (ints a):=ra.mono fun i c q=>q
 have rbf:Rd h.eO w (ints b):=rb.mono fun i c q=>q
 have k1:=FX h.eO v a raf (by omega)
 have k2:=FX h.eO w b rbf (by omega)
 rw[ha]at k1
 rw[hb]at k2
 obtain⟨e',r1,r2,r3⟩:=Ix (by omega) (by omega) h.eO raf rbf a b [] [] rfl rfl rfl false false
 have r1':Lp AP.A [0,1,6,7,8] AP.f279L0 [(0,v),(1,w),(6,.bool false),(7,.bool false),(8,.int .i64 0)] h.eO=some (.exit 0,e',h.eO):=r1
 rw[abp]at r2 r3
 refine vP (fn:=AP.f279) (h2:=h.eO) (e:=[(4,.int .i64 (Cf a b)),(5,.int .i64 0)]) (vs:=[.int .i64 (Cf a b),.int .i64 0]) rfl rfl rfl ?_ rfl rfl
 unfold Cf
 clear ra rb raf rbf r1
 generalize Dx a b=B1 at *
 generalize Bg a b=B2 at *
 cases B1<;>cases B2<;>simp only[abD,aa9,wR,if_true,xp]<;>simp (disch:=omega)only[go_sem,xF,AP.f279,k1,k2,uo,r1',r2,r3]
structure Dk (B G:H) (P M O:Nat) (v:AV) (l:List xN) (x:yT):Prop where
 rd:yM 9 B v l.length (xG l)
 ok:∀z∈l,yF B z∧z.2.sc=true
 fo:yh (l.map (·.1))=true
 ox:B0 B x
 gP:G.get P=some [v]
 gM:G.get M=some (xz x)
 ne:P≠O∧M≠O
 Zj:Ext B G
 BO:B.next≤O
 ON:O<G.next
 fO:G.floor≤O
 fG:G.floor≤G.next
theorem Dk.ext {B G h:H} {P M O:Nat} {v:AV} {l:List xN} {x:yT} (k:Dk B G P M O v l x) (low:∀i c,i≠O→G.get i=some c→h.get i=some c):Ext B h:=fun i c q=>by
 have:=B.lt _ _ q
 have:=k.BO
 exact low i c (by omega) (k.Zj i c q)
theorem JA (h:H) (name text:ByteArray) (node:Nat) (xL:Int) (hn:node<4) (ht:text.size<1125899906842624):
 aU AP.A 246 [.str name,.int .i64 node,.int .i64 xL,.str text] h=some (.agg (xA (Ch name node xL text) (Ec ([0,0,0,0].set node xL))),h):=by
 obtain⟨h1,eh1⟩:∃g,g=h.eO.alloc (xA DQ .aS):=⟨_,rfl⟩
 obtain⟨h2,eh2⟩:∃g,g=h1.alloc (ints [0,0,0,0]):=⟨_,rfl⟩
 obtain⟨h3,eh3⟩:∃g,g=h2.set (h.next+1) (ints ([0,0,0,0].set node xL)):=⟨_,rfl⟩
 obtain⟨h4,eh4⟩:∃g,g=h3.set h.next (xA (Ch name node xL text) (.aH (h.next+1) 0 4 1)):=⟨_,rfl⟩
 have n0:h.eO.next=h.next:=rfl
 have n1:h1.next=h.next+1:=by rw[eh1];simp
 have f2:h2.floor=h.next:=by rw[eh2,eh1];simp
 have f3:h3.floor=h.next:=by rw[eh3];simp [f2]
 have g2:h2.get (h.next+1)=some (ints [0,0,0,0]):=by rw[eh2,xE (by omega)]
 have gz3:h3.get h.next=some (xA DQ .aS):=by rw[eh3,xC (by omega),eh2,xI (by omega),eh1,xE (by simp)]
 have g3:h3.get (h.next+1)=some (ints ([0,0,0,0].set node xL)):=by rw[eh3,xH rfl,g2];rfl
 have g4:h4.get h.next=some (xA (Ch name node xL text) (.aH (h.next+1) 0 4 1)):=by rw[eh4,xH rfl,gz3];rfl
 have g4':h4.get (h.next+1)=some (ints ([0,0,0,0].set node xL)):=by rw[eh4,xC (by omega),g3]
 have st3:vR h2 (h.next+1) node 1 [.int .i64 xL] (some (ints [0,0,0,0]))=some h3:=by
  rw[wx (by omega) (by simp;omega) rfl,eh3]
  congr 2
  match node,hn with
  |0,_=>rfl
  |1,_=>rfl
  |2,_=>rfl
  |3,_=>rfl
 have st4:vR h3 h.next 0 9 [.str name,.bool false,.aH (h.next+1) 0 4 1,.int .i64 xL,.int .i64 node,.int .i64 0,.str text,.int .i64 text.size,.int .i64 (zT text:Nat)] (some (xA DQ .aS))=some h4:=by
  rw[eh4];exact yl (by omega) rfl rfl rfl
 have e1:h.eO.alloc [.str ⟨#[]⟩,.bool false,.aS,.int .i64 0,.int .i64 0,.int .i64 0,.str ⟨#[]⟩,.int .i64 0,.int .i64 0]=h1:=eh1.symm
 have e2:h1.alloc (GH 4 [.int .i64 0])=h2:=eh2.symm
 have kc:=EU h3 text ht
 have hlen:([0,0,0,0].set node xL:List Int).length=4:=by simp
 have o:x8 1 h4 (.aH (h.next+1) 0 4 1) 4 (ints ([0,0,0,0].set node xL)):=⟨by simp,.inr ⟨_,rfl,g4',by rw[eh4];simp;omega,by omega⟩⟩
 have s1:snap h4.get h.next 15 true (.aH (h.next+1) 0 4 1)=some (Ec ([0,0,0,0].set node xL)):=by
  have:=o.Aa (fl:=h.next) (m:=13) (t:=true) (by rw[eh4];simp;omega)
  rw[this];unfold Ec;rw[hlen]
 have body:aO (aU AP.A) bH AP.f246.body (params 0 [.str name,.int .i64 node,.int .i64 xL,.str text]) h.eO=some (.ret,[(8,.aG h.next 0)],h4):=by
  clear o s1 g4 g4' g3
  have it:((node:Nat):Int).toNat=node:=by omega
  simp (disch:=omega)only[go_sem,xF,AP.f246,n0,e1,n1,e2,it,g2,st3,kc,gz3,st4]
 refine vP (fn:=AP.f246) (h2:=h4) (e:=[(8,.aG h.next 0)]) (vs:=[.agg (xA (Ch name node xL text) (.aH (h.next+1) 0 4 1))]) rfl rfl rfl body ?_ ?_
 · simp only[AP.f246,c9,oL,ou,sX,g4,uX];rfl
 · exact NB s1
def Hj:List xP:=[eA]
def Vi:BE:=(Ax Hj 0 1).1
def Yo:BE:=(zk [] Vi).1
def Yv:BE:=(zk Hj Yo).1
def YJ:BE:=(zk [] Yv).1
def Ze:BE:=(zk Hj YJ).1
theorem PT:(Ax Hj 0 1).2=0∧(Ax Hj 1 1).2=2200:=by decide+kernel
theorem Ni:(zk [] Vi).2=(true,0)∧Yo.kind=1∧Yo.src=1:=by decide+kernel
theorem Nl:(zk Hj Yo).2=(true,0)∧Yv.kind=2∧Yv.xV.length=1:=by decide+kernel
theorem PX:(zk [] Yv).2=(true,0)∧YJ.names=[nA]:=by decide+kernel
theorem PY:(zk Hj YJ).2=(true,0)∧Ze.yJ=Hj:=by decide+kernel
theorem Qh:(zk Hj Ze).2=(false,0)∧(zk Hj Vi).2=(false,0):=by decide+kernel
theorem Cq (G:H) (hf:G.floor≤G.next) (v:AV) (l:List xN) (sv:v.sc=true) (hn:l.length<1125899906842624) (rd:yM 9 G v l.length (xG l)) (hv:∀x∈l,yF G x∧x.2.sc=true) (x:yT) (ox:B0 G x):
 ∃(y:yT) (h' A G':H) (O:Nat),aU AP.A 240 [.agg [v],.agg (xz x)] G=some (.bW [.agg (xz y),.bool (zk (l.map (·.1)) x.m).2.1,.int .i64 (zk (l.map (·.1)) x.m).2.2],h')∧y.m=(zk (l.map (·.1)) x.m).1∧h'.alloc (xz yc)=A∧h'.next=O∧A.get O=some (xz yc)∧vR A O 0 9 (xz y) (some (xz yc))=some G'∧G'.get O=some (xz y)∧Ext G G'∧B0 G' y∧G'.floor=G.floor∧G.next≤O∧O<G'.next:=by
 obtain⟨y,h',k,em,a⟩:=Ps G hf v l sv hn rd hv x ox
 have lt:=a.nx
 have ga:(h'.alloc (xz yc)).get h'.next=some (xz yc):=xE rfl
 have e1:Ext h' ((h'.alloc (xz yc)).set h'.next (xz y)):=fun i c q=>by have:=h'.lt _ _ q;rw[xC (by omega),xI (by omega)];exact q
 refine⟨y,h',_,(h'.alloc (xz yc)).set h'.next (xz y),h'.next,k,em,rfl,rfl,ga,yl (by simp;have:=a.fl;omega) rfl rfl (Aj a.ok),by rw[xH rfl,ga];rfl,fun i c q=>e1 _ _ (a.ext _ _ q),a.ok.mono e1,by simp [a.fl],lt,by simp⟩
theorem Iw (G:H) (hf:G.floor≤G.next) (m:BE) (s:VP m):∃(A G':H) (O:Nat),G.alloc (xz yc)=A∧G.next=O∧A.get O=some (xz yc)∧vR A O 0 9 (xz (Ah m)) (some (xz yc))=some G'∧G'.get O=some (xz (Ah m))∧Ext G G'∧G'.floor=G.floor∧O<G'.next:=by
 have ga:(G.alloc (xz yc)).get G.next=some (xz yc):=xE rfl
 have e1:Ext G ((G.alloc (xz yc)).set G.next (xz (Ah m))):=fun i c q=>by have:=G.lt _ _ q;rw[xC (by omega),xI (by omega)];exact q
 exact⟨_,(G.alloc (xz yc)).set G.next (xz (Ah m)),G.next,rfl,rfl,ga,yl (by simp;omega) rfl rfl (Aj (Dn G s)),by rw[xH rfl,ga];rfl,e1,by simp,by simp⟩
theorem NL (a b:ByteArray):bC .neq (.str a) (.str b)=some (.bool (!decide (a=b))):=by
 rw[BV]
 by_cases c:a=b
 · subst c;simp
 · rw[Hx c,df c]
theorem KJ {v w : AV} {a b : List ByteArray} (hab : a.length = b.length) (hl : a.length < 1125899906842624) (h : H) (ra : Rd h v (Ay a)) (rb : Rd h w (Ay b)) : ∀ (q r p p' : List ByteArray), a = p ++ q → b = p' ++ r → p.length = p'.length →
 (∃e',Lp AP.A [0,1,5] AP.f247L0 [(0,v),(1,w),(5,.int .i64 p.length)] h=some (.exit 0,e',h)∧q=r)∨
 (∃e',Lp AP.A [0,1,5] AP.f247L0 [(0,v),(1,w),(5,.int .i64 p.length)] h=some (.ret,e',h)∧look e' 4=.bool false∧q≠r)
 | [], r, p, p', hp, hp', hpp => by
   rw[aa2]at hp;subst hp
   have hr:r=[]:=aa7 (by rw[hp',xu]at hab;omega)
   have ln:=ra.HB.len
   rw[zE]at ln
   refine .inl ⟨[(0,v),(1,w),(5,.int .i64 a.length),(14,.bool false)],u6 ?_,hr.symm⟩
   simp (disch:=omega)only[go_sem,xF,AP.f247L0,ln]
 | x :: q, [], p, p', hp, hp', hpp => by
   rw[hp,hp']at hab;simp at hab;omega
 | x :: q, y :: r, p, p', hp, hp', hpp => by
   have hlen:a.length=p.length+(q.length+1):=by rw[hp];simp
   have ln:=ra.HB.len
   rw[zE]at ln
   obtain⟨ad,a1,_,a3⟩:=ra.EF
   obtain⟨bd,b1,_,b3⟩:=rb.EF
   have i1:=a1 p.length ⟨by omega,by omega⟩
   have i2:=a3 h (Ext.refl h) p.length x (by rw[hp];simp)
   have j1:=b1 p.length ⟨by omega,by omega⟩
   have j2:=b3 h (Ext.refl h) p.length y (by rw[hp',hpp];simp)
   have cmp:=NL x y
   have ih:=KJ hab hl h ra rb q r (p++[x]) (p'++[y]) (by rw[hp];simp) (by rw[hp'];simp) (by simp [hpp])
   have w1:(((p++[x]).length:Nat):Int)=(p.length:Int)+1:=by simp
   rw[w1]at ih
   by_cases c:x=y
   · rw[dt c]at cmp
     have step:aO (aU AP.A) bH AP.f247L0 (ay [(0,v),(1,w),(5,.int .i64 p.length)] [0,1,5]) h=some (.normal,[(0,v),(1,w),(5,.int .i64 ((p.length:Int)+1))],h):=by
      clear ih ra rb a1 a3 b1 b3 hp hp'
      simp (disch:=omega)only[go_sem,xF,AP.f247L0,ln,i1,i2,j1,j2,cmp,Bool.not_true]
     rcases ih with ⟨e',r1,r2⟩|⟨e',r1,r2,r3⟩
     · exact .inl ⟨e',u9 step r1,by rw[c,r2]⟩
     · exact .inr ⟨e',u9 step r1,r2,fun q=>r3 (List.cons.inj q).2⟩
   · rw[df c]at cmp
     refine .inr ⟨[(4,.bool false)],vF ?_,rfl,fun q=>c (List.cons.inj q).1⟩
     clear ih ra rb a1 a3 b1 b3 hp hp'
     simp (disch:=omega)only[go_sem,xF,AP.f247L0,ln,i1,i2,j1,j2,cmp,Bool.not_false]
theorem Pb (h:H) (v w:AV) (a b:List ByteArray) (ra:Rd h v (Ay a)) (rb:Rd h w (Ay b)) (hl:a.length<1125899906842624) (hb:b.length<1125899906842624):aU AP.A 247 [v,w] h=some (.bool (decide (a=b)),h):=by
 have la:=ra.HB.len
 rw[zE]at la
 have lb:=rb.HB.len
 rw[zE]at lb
 have ra':Rd h.eO v (Ay a):=ra.mono fun i c q=>q
 have rb':Rd h.eO w (Ay b):=rb.mono fun i c q=>q
 by_cases c:a.length=b.length
 · rcases KJ c hl h.eO ra' rb' a b [] [] rfl rfl rfl with ⟨e',r1,r2⟩|⟨e',r1,r2,r3⟩
   · have r1':Lp AP.A [0,1,5] AP.f247L0 [(0,v),(1,w),(5,.int .i64 0)] h.eO=some (.exit 0,e',h.eO):=r1
     rw[dt r2]
     refine vP (fn:=AP.f247) (h2:=h.eO) (e:=[(4,.bool true)]) rfl rfl rfl ?_ rfl rfl
     clear ra rb ra' rb' r1 r2
     simp (disch:=omega)only[go_sem,xF,AP.f247,la,lb,c,uo,r1']
   · have r1':Lp AP.A [0,1,5] AP.f247L0 [(0,v),(1,w),(5,.int .i64 0)] h.eO=some (.ret,e',h.eO):=r1
     rw[df r3]
     refine vP (fn:=AP.f247) (h2:=h.eO) (e:=e') (vs:=[.bool false]) rfl rfl rfl ?_ (by simp only[AP.f247,c9,oL,r2];rfl) rfl
     clear ra rb ra' rb' r1 r3
     simp (disch:=omega)only[go_sem,xF,AP.f247,la,lb,c,uo,r1']
 · rw[df (fun q=>c (by rw[q]))]
   refine vP (fn:=AP.f247) (h2:=h.eO) (e:=[(4,.bool false)]) rfl rfl rfl ?_ rfl rfl
   clear ra rb ra' rb'
   simp (disch:=omega)only[go_sem,xF,AP.f247,la,lb]
theorem K5:AP.f242.body=.seq (at_ 0 AP.f242.body) (.seq (at_ 1 AP.f242.body) (.seq (at_ 2 AP.f242.body) (.seq (at_ 3 AP.f242.body) (.seq (at_ 4 AP.f242.body) (.seq (at_ 5 AP.f242.body) (.seq (at_ 6 AP.f242.body) (.seq (at_ 7 AP.f242.body) (.seq (at_ 8 AP.f242.body) (.seq (at_ 9 AP.f242.body) (I9 10 AP.f242.body)))))))))):=rfl
def pA:xN:=(eA,Ec [1,0,0,0])
theorem Fx (g:H):∀x∈[pA],yF g x∧x.2.sc=true:=fun x hx=>by obtain rfl:=List.mem_singleton.1 hx;exact⟨yF.ar (e:=eA) rfl (by decide) (by decide),KR [1,0,0,0]⟩
theorem Yp {g:H} {n:Nat} (hg:g.get n=some (xA eA (Ec [1,0,0,0]))):yM 9 g (.aH n 0 1 9) [pA].length (xG [pA]):=Vl hg rfl
theorem LI:[pA].map (·.1)=Hj:=rfl
set_option maxHeartbeats 8000000 in
theorem K6 (h : H) : aU AP.A 242 [] h = some (.bool true, h) := by
 obtain⟨E,hE⟩:∃E,E=xA eA (Ec [1,0,0,0]):=⟨_,rfl⟩
 have lE:E.length=9:=by rw[hE];rfl
 have cE:AV.aE E=true:=by rw[hE];exact yH (KR _)
 have fE:setFrom Z9 0 E=E:=by rw[hE];rfl
 have k0:∀g,aU AP.A 246 [.str ⟨#[97]⟩,.int .i64 0,.int .i64 1,.str ⟨#[104,105]⟩] g=some (.agg E,g):=fun g=>by rw[hE];exact JA g nA Zt 0 1 (by omega) (by decide)
 obtain⟨G,hG⟩:∃G,G=((h.eO.alloc E).alloc [.aS]).set (h.next+1) [.aH h.next 0 1 9]:=⟨_,rfl⟩
 have g1:G.get h.next=some E:=by rw[hG];simp (disch:=first|omega|(simp only[yP,aaV,aaX,wY,Nat.reduceAdd];first|done|omega|fail)|fail)only[yP,CB,aaY,aaV,aaX,wY,Nat.reduceAdd]
 have g2:G.get (h.next+1)=some [.aH h.next 0 1 9]:=by rw[hG];simp (disch:=first|omega|(simp only[yP,aaV,aaX,wY,Nat.reduceAdd];first|done|omega|fail)|fail)only[yP,CB,aaY,aaV,aaX,wY,Nat.reduceAdd]
 have gf:G.floor=h.next:=by rw[hG];simp
 have gn:G.next=h.next+1+1:=by rw[hG];simp
 have b0:aO (aU AP.A) bH (.seq (at_ 0 AP.f242.body) (at_ 1 AP.f242.body)) (params 0 []) h.eO=some (.normal,[(1,.aG (h.next+1) 0)],G):=by
  have gg:=hG.symm
  clear hE
  simp (disch:=first|omega|(simp only[yP,aaV,aaX,wY,Nat.reduceAdd];first|done|omega|fail)|(simp (disch:=first|omega|(simp only[yP,aaV,aaX,wY,Nat.reduceAdd];first|done|omega|fail)|fail)only[yP,CB,aaY,aaV,aaX,wY,Nat.reduceAdd];done)|fail)only[go_sem,xF,CF,AP.f242,yD,yz,k0,lE,cE,fE,gg]
 have sv:(AV.aH h.next 0 1 9).sc=true:=rfl
 have lz:([pA].length:Nat)<1125899906842624:=by show 1<_;omega
 have lz0:(([]:List xN).length:Nat)<1125899906842624:=by show 0<_;omega
 have rdA:∀{g:H},g.get h.next=some E→yM 9 g (.aH h.next 0 1 9) [pA].length (xG [pA]):=fun hg=>Yp (by rw[←hE];exact hg)
 have rd0:∀g:H,yM 9 g .aS ([]:List xN).length (xG []):=fun g=>⟨rfl,rfl,fun s q=>by cases q⟩
 have hv0:∀g:H,∀x∈([]:List xN),yF g x∧x.2.sc=true:=fun g x hx=>by cases hx
 have sO:=Kn Hj 0 1
 have sO1:=Kn Hj 1 1
 have z0:([.int .i64 0,.int .i64 0,.int .i64 0,.int .i64 0,.aS,.aS,.aS,.aS,.aS]:List AV)=xz yc:=rfl
 have cz:AV.aE (xz yc)=true:=rfl
 have lx:∀x,(xz x).length=9:=fun x=>rfl
 have tX:∀x,List.take 9 (xz x)=xz x:=fun x=>rfl
 have k2:=Hn G _ [pA] sv lz (rdA g1) (Fx G) 0 1
 rw[LI,PT.1]at k2
 obtain⟨A2,G2,O2,a2,n2,ga2,st2,go2,e2,f2,lt2⟩:=Iw G (by omega) _ sO
 obtain⟨Y2,hY2⟩:∃Y,Y=xz (Ah (Ax Hj 0 1).1):=⟨_,rfl⟩
 rw[←hY2]at k2 st2 go2
 have cY2:AV.aE Y2=true:=by rw[hY2];exact Aj (Dn G sO)
 have b2:aO (aU AP.A) bH (at_ 2 AP.f242.body) [(1,.aG (h.next+1) 0)] G=some (.normal,[(1,.aG (h.next+1) 0),(2,.aG O2 0),(3,.int .i64 0)],G2):=by
  clear sO sO1 hE k0 rdA rd0 hv0 e2
  generalize xz yc=Z at *
  simp (disch:=omega)only[go_sem,xF,AP.f242,yD,yz,g2,yx,k2,z0,cz,a2,n2,ga2,st2]
 have p1:=e2 _ _ g1
 have p2:=e2 _ _ g2
 obtain⟨y4,w4,A4,G4,O4,k4,m4,a4,n4,ga4,st4,go4,e4,ok4,f4,l4,l4'⟩:=Cq G2 (by omega) .aS [] rfl lz0 (rd0 _) (hv0 _) (Ah (Ax Hj 0 1).1) (Dn G2 sO)
 have m4':y4.m=Yo:=m4
 have k4':aU AP.A 240 [.agg [.aS],.agg Y2] G2=some (.bW [.agg (xz y4),.bool (zk [] Vi).2.1,.int .i64 (zk [] Vi).2.2],w4):=by rw[hY2];exact k4
 rw[Ni.1]at k4'
 have q2:=e4 _ _ go2
 have q1:=e4 _ _ p1
 have q1':=e4 _ _ p2
 have lY2:Y2.length=9:=by rw[hY2];rfl
 have tY2:List.take 9 Y2=Y2:=by rw[hY2];rfl
 have b3:aO (aU AP.A) bH (at_ 3 AP.f242.body) [(1,.aG (h.next+1) 0),(2,.aG O2 0),(3,.int .i64 0)] G2=some (.normal,[(1,.aG (h.next+1) 0),(2,.aG O2 0),(3,.int .i64 0),(4,.aG O4 0),(5,.bool true),(6,.int .i64 0)],G4):=by
  clear sO sO1 hE k0 rdA rd0 hv0 e2 e4 k4 ok4 m4 m4' lx tX hY2
  generalize xz yc=Z at *
  generalize xz y4=Y4 at *
  simp (disch:=omega)only[go_sem,xF,AP.f242,yD,yz,go2,LO,zg,lY2,tY2,aa8,k4',z0,cz,a4,n4,ga4,st4]
 obtain⟨y7,w7,A7,G7,O7,k7,m7,a7,n7,ga7,st7,go7,e7,ok7,f7,l7,l7'⟩:=Cq G4 (by omega) _ [pA] sv lz (rdA q1) (Fx _) y4 ok4
 rw[LI,m4',Nl.1]at k7
 have m7':y7.m=Yv:=by rw[m7,m4'];rfl
 have r1:=e7 _ _ q1
 have r1':=e7 _ _ q1'
 have r2:=e7 _ _ q2
 have r4:=e7 _ _ go4
 have lY4:=lx y4
 have tY4:=tX y4
 have b4:aO (aU AP.A) bH (at_ 4 AP.f242.body) [(1,.aG (h.next+1) 0),(2,.aG O2 0),(3,.int .i64 0),(4,.aG O4 0),(5,.bool true),(6,.int .i64 0)] G4=some (.normal,[(1,.aG (h.next+1) 0),(2,.aG O2 0),(3,.int .i64 0),(4,.aG O4 0),(5,.bool true),(6,.int .i64 0),(7,.aG O7 0),(8,.bool true),(9,.int .i64 0)],G7):=by
  clear sO sO1 hE k0 rdA rd0 hv0 e2 e4 e7 k4 ok4 ok7 m4 m4' m7 m7' lx tX hY2
  generalize xz yc=Z at *
  generalize xz y4=Y4 at *
  generalize xz y7=Y7 at *
  simp (disch:=omega)only[go_sem,xF,AP.f242,yD,yz,q1',yx,go4,LO,zg,lY4,tY4,aa8,k7,z0,cz,a7,n7,ga7,st7]
 obtain⟨y10,w10,A10,G10,O10,k10,m10,a10,n10,ga10,st10,go10,e10,ok10,f10,l10,l10'⟩:=Cq G7 (by omega) .aS [] rfl lz0 (rd0 _) (hv0 _) y7 ok7
 have m10':y10.m=YJ:=by rw[m10,m7'];rfl
 rw[m7',abn,PX.1]at k10
 have s1:=e10 _ _ r1
 have s1':=e10 _ _ r1'
 have s2:=e10 _ _ r2
 have s4:=e10 _ _ r4
 have s7:=e10 _ _ go7
 have lY7:=lx y7
 have tY7:=tX y7
 have b5:aO (aU AP.A) bH (at_ 5 AP.f242.body) [(1,.aG (h.next+1) 0),(2,.aG O2 0),(3,.int .i64 0),(4,.aG O4 0),(5,.bool true),(6,.int .i64 0),(7,.aG O7 0),(8,.bool true),(9,.int .i64 0)] G7=some (.normal,[(1,.aG (h.next+1) 0),(2,.aG O2 0),(3,.int .i64 0),(4,.aG O4 0),(5,.bool true),(6,.int .i64 0),(7,.aG O7 0),(8,.bool true),(9,.int .i64 0),(10,.aG O10 0),(11,.bool true),(12,.int .i64 0)],G10):=by
  clear sO sO1 hE k0 rdA rd0 hv0 e2 e4 e7 e10 k4 ok4 ok7 ok10 m4 m4' m7 m7' m10 m10' lx tX hY2
  generalize xz yc=Z at *
  generalize xz y7=Y7 at *
  generalize xz y10=Y10 at *
  simp (disch:=omega)only[go_sem,xF,AP.f242,yD,yz,go7,LO,zg,lY7,tY7,aa8,k10,z0,cz,a10,n10,ga10,st10]
 obtain⟨y13,w13,A13,G13,O13,k13,m13,a13,n13,ga13,st13,go13,e13,ok13,f13,l13,l13'⟩:=Cq G10 (by omega) _ [pA] sv lz (rdA s1) (Fx _) y10 ok10
 rw[LI,m10',PY.1]at k13
 have m13':y13.m=Ze:=by rw[m13,m10'];rfl
 have t1:=e13 _ _ s1
 have t1':=e13 _ _ s1'
 have t2:=e13 _ _ s2
 have t4:=e13 _ _ s4
 have t7:=e13 _ _ s7
 have t10:=e13 _ _ go10
 have lY10:=lx y10
 have tY10:=tX y10
 have b6:aO (aU AP.A) bH (at_ 6 AP.f242.body) [(1,.aG (h.next+1) 0),(2,.aG O2 0),(3,.int .i64 0),(4,.aG O4 0),(5,.bool true),(6,.int .i64 0),(7,.aG O7 0),(8,.bool true),(9,.int .i64 0),(10,.aG O10 0),(11,.bool true),(12,.int .i64 0)] G10=some (.normal,[(1,.aG (h.next+1) 0),(2,.aG O2 0),(3,.int .i64 0),(4,.aG O4 0),(5,.bool true),(6,.int .i64 0),(7,.aG O7 0),(8,.bool true),(9,.int .i64 0),(10,.aG O10 0),(11,.bool true),(12,.int .i64 0),(13,.aG O13 0),(14,.bool true),(15,.int .i64 0)],G13):=by
  clear sO sO1 hE k0 rdA rd0 hv0 e2 e4 e7 e10 e13 k4 ok4 ok7 ok10 ok13 m4 m4' m7 m7' m10 m10' m13 m13' lx tX hY2
  generalize xz yc=Z at *
  generalize xz y10=Y10 at *
  generalize xz y13=Y13 at *
  simp (disch:=omega)only[go_sem,xF,AP.f242,yD,yz,s1',yx,go10,LO,zg,lY10,tY10,aa8,k13,z0,cz,a13,n13,ga13,st13]
 obtain⟨y16,w16,A16,G16,O16,k16,m16,a16,n16,ga16,st16,go16,e16,ok16,f16,l16,l16'⟩:=Cq G13 (by omega) _ [pA] sv lz (rdA t1) (Fx _) y13 ok13
 rw[LI,m13',Qh.1]at k16
 have u1:=e16 _ _ t1
 have u1':=e16 _ _ t1'
 have u2:=e16 _ _ t2
 have u4:=e16 _ _ t4
 have u7:=e16 _ _ t7
 have u10:=e16 _ _ t10
 have u13:=e16 _ _ go13
 have lY13:=lx y13
 have tY13:=tX y13
 have b7:aO (aU AP.A) bH (at_ 7 AP.f242.body) [(1,.aG (h.next+1) 0),(2,.aG O2 0),(3,.int .i64 0),(4,.aG O4 0),(5,.bool true),(6,.int .i64 0),(7,.aG O7 0),(8,.bool true),(9,.int .i64 0),(10,.aG O10 0),(11,.bool true),(12,.int .i64 0),(13,.aG O13 0),(14,.bool true),(15,.int .i64 0)] G13=some (.normal,[(1,.aG (h.next+1) 0),(2,.aG O2 0),(3,.int .i64 0),(4,.aG O4 0),(5,.bool true),(6,.int .i64 0),(7,.aG O7 0),(8,.bool true),(9,.int .i64 0),(10,.aG O10 0),(11,.bool true),(12,.int .i64 0),(13,.aG O13 0),(14,.bool true),(15,.int .i64 0),(17,.bool false),(18,.int .i64 0)],G16):=by
  clear sO sO1 hE k0 rdA rd0 hv0 e2 e4 e7 e10 e13 e16 k4 ok4 ok7 ok10 ok13 ok16 m4 m4' m7 m7' m10 m10' m13 m13' m16 lx tX hY2
  generalize xz yc=Z at *
  generalize xz y13=Y13 at *
  generalize xz y16=Y16 at *
  simp (disch:=omega)only[go_sem,xF,AP.f242,yD,yz,t1',yx,go13,LO,zg,lY13,tY13,aa8,k16,z0,cz,a16,n16,ga16,st16]
 obtain⟨y19,w19,A19,G19,O19,k19,m19,a19,n19,ga19,st19,go19,e19,ok19,f19,l19,l19'⟩:=Cq G16 (by omega) _ [pA] sv lz (rdA u1) (Fx _) (Ah (Ax Hj 0 1).1) (Dn G16 sO)
 have k19':aU AP.A 240 [.agg [.aH h.next 0 1 9],.agg Y2] G16=some (.bW [.agg (xz y19),.bool (zk Hj Vi).2.1,.int .i64 (zk Hj Vi).2.2],w19):=by rw[hY2];exact k19
 rw[Qh.2]at k19'
 have x1:=e19 _ _ u1
 have x1':=e19 _ _ u1'
 have x4:=e19 _ _ u4
 have x7:=e19 _ _ u7
 have x10:=e19 _ _ u10
 have x13:=e19 _ _ u13
 have b8:aO (aU AP.A) bH (at_ 8 AP.f242.body) [(1,.aG (h.next+1) 0),(2,.aG O2 0),(3,.int .i64 0),(4,.aG O4 0),(5,.bool true),(6,.int .i64 0),(7,.aG O7 0),(8,.bool true),(9,.int .i64 0),(10,.aG O10 0),(11,.bool true),(12,.int .i64 0),(13,.aG O13 0),(14,.bool true),(15,.int .i64 0),(17,.bool false),(18,.int .i64 0)] G16=some (.normal,[(1,.aG (h.next+1) 0),(3,.int .i64 0),(4,.aG O4 0),(5,.bool true),(6,.int .i64 0),(7,.aG O7 0),(8,.bool true),(9,.int .i64 0),(10,.aG O10 0),(11,.bool true),(12,.int .i64 0),(13,.aG O13 0),(14,.bool true),(15,.int .i64 0),(17,.bool false),(18,.int .i64 0),(20,.bool false),(21,.int .i64 0)],G19):=by
  clear sO sO1 hE k0 rdA rd0 hv0 e2 e4 e7 e10 e13 e16 e19 k4 ok4 ok7 ok10 ok13 ok16 ok19 m4 m4' m7 m7' m10 m10' m13 m13' m16 m19 lx tX hY2 k19
  generalize xz yc=Z at *
  generalize xz y19=Y19 at *
  simp (disch:=omega)only[go_sem,xF,AP.f242,yD,yz,u1',yx,u2,LO,zg,lY2,tY2,aa8,k19',z0,cz,a19,n19,ga19,st19]
 have k22:=Hn G19 _ [pA] sv lz (rdA x1) (Fx G19) 1 1
 rw[LI,PT.2]at k22
 obtain⟨A22,G22,O22,a22,n22,ga22,st22,go22,e22,f22,lt22⟩:=Iw G19 (by omega) _ sO1
 have v1:=e22 _ _ x1
 have v1':=e22 _ _ x1'
 have v4:=e22 _ _ x4
 have v7:=e22 _ _ x7
 have v10:=e22 _ _ x10
 have v13:=e22 _ _ x13
 have b9:aO (aU AP.A) bH (at_ 9 AP.f242.body) [(1,.aG (h.next+1) 0),(3,.int .i64 0),(4,.aG O4 0),(5,.bool true),(6,.int .i64 0),(7,.aG O7 0),(8,.bool true),(9,.int .i64 0),(10,.aG O10 0),(11,.bool true),(12,.int .i64 0),(13,.aG O13 0),(14,.bool true),(15,.int .i64 0),(17,.bool false),(18,.int .i64 0),(20,.bool false),(21,.int .i64 0)] G19=some (.normal,[(1,.aG (h.next+1) 0),(3,.int .i64 0),(4,.aG O4 0),(5,.bool true),(6,.int .i64 0),(7,.aG O7 0),(8,.bool true),(9,.int .i64 0),(10,.aG O10 0),(11,.bool true),(12,.int .i64 0),(13,.aG O13 0),(14,.bool true),(15,.int .i64 0),(17,.bool false),(18,.int .i64 0),(20,.bool false),(21,.int .i64 0),(23,.int .i64 2200)],G22):=by
  clear sO sO1 hE k0 rdA rd0 hv0 e2 e4 e7 e10 e13 e16 e19 e22 k4 ok4 ok7 ok10 ok13 ok16 ok19 m4 m4' m7 m7' m10 m10' m13 m13' m16 m19 lx tX hY2 k19
  generalize xz yc=Z at *
  generalize xz (Ah (Ax Hj 1 1).1)=Y22 at *
  simp (disch:=omega)only[go_sem,xF,AP.f242,yD,yz,x1',yx,k22,z0,cz,a22,n22,ga22,st22]
 have E7:Ext G7 G22:=fun i c q=>e22 _ _ (e19 _ _ (e16 _ _ (e13 _ _ (e10 _ _ q))))
 have E10:Ext G10 G22:=fun i c q=>e22 _ _ (e19 _ _ (e16 _ _ (e13 _ _ q)))
 have E13:Ext G13 G22:=fun i c q=>e22 _ _ (e19 _ _ (e16 _ _ q))
 have ok7':=ok7.mono E7
 have ok10':=ok10.mono E10
 have ok13':=ok13.mono E13
 obtain⟨W,hW⟩:∃g,g=G22.alloc [.str ⟨#[97]⟩]:=⟨_,rfl⟩
 have hw:=hW.symm
 have gW:W.get G22.next=some [.str ⟨#[97]⟩]:=by rw[hW];exact xE rfl
 have xW:Ext G22 W:=by rw[hW];exact(Ext.refl G22).alloc _
 have w1:=xW _ _ v1
 have w1':=xW _ _ v1'
 have w13:=xW _ _ v13
 have kn:aU AP.A 247 [y10.vn,.aH G22.next 0 1 1] W=some (.bool true,W):=by
  have:=Pb W y10.vn (.aH G22.next 0 1 1) y10.m.names [nA] (ok10'.rn.mono fun i c q=>xW i c q) ⟨by simp only[aV,if_true,gW];rfl,fun _=>by simp⟩ (by have:=ok10.zn;omega) (by show 1<_;omega)
  rw[m10',dt PX.2]at this;exact this
 have ke:aU AP.A 207 [y13.ve,.aH h.next 0 1 9] W=some (.bool true,W):=by
  have:=FK W y13.ve (.aH h.next 0 1 9) y13.es [pA] (by have:=ok13.ze;rw[←ok13.he,aa0]at this;omega) (ok13'.re.mono fun i c q=>xW i c q) (rdA w1) (fun x hx=>(ok13'.mono xW).ve x hx) (Fx W)
  rw[ok13'.he,m13',LI,dt PY.2]at this;exact this
 have c40:(xz y4)[0]?=some (.int .i64 1):=by show some (AV.int .i64 y4.m.kind)=_;rw[m4',Ni.2.1]
 have c41:(xz y4)[1]?=some (.int .i64 1):=by show some (AV.int .i64 y4.m.src)=_;rw[m4',Ni.2.2]
 have c70:(xz y7)[0]?=some (.int .i64 2):=by show some (AV.int .i64 y7.m.kind)=_;rw[m7',Nl.2.1]
 have c76:(xz y7)[6]?=some y7.vf:=rfl
 have l76:jQ false y7.vf=some (.int .i64 1):=by
  have:=ok7.rf.rd.len
  rw[show y7.fs.length=1 by have:=abt List.length ok7.hf;rw[aa0,m7',Nl.2.2]at this;exact this]at this
  exact this
 have c107:(xz y10)[7]?=some y10.vn:=rfl
 have c138:(xz y13)[8]?=some y13.ve:=rfl
 have kc:=fun (g:H) n=>Na g n
 simp only[I]at kc
 have bF:∃hF,aO (aU AP.A) bH (I9 10 AP.f242.body) [(1,.aG (h.next+1) 0),(3,.int .i64 0),(4,.aG O4 0),(5,.bool true),(6,.int .i64 0),(7,.aG O7 0),(8,.bool true),(9,.int .i64 0),(10,.aG O10 0),(11,.bool true),(12,.int .i64 0),(13,.aG O13 0),(14,.bool true),(15,.int .i64 0),(17,.bool false),(18,.int .i64 0),(20,.bool false),(21,.int .i64 0),(23,.int .i64 2200)] G22=some (.ret,[(0,.bool true)],hF):=by
  clear sO sO1 hE k0 rdA rd0 hv0 e2 e4 e7 e10 e13 e16 e19 e22 k4 ok4 ok7 ok10 ok13 ok16 ok19 m4 m4' m7 m7' m10 m10' m13 m13' m16 m19 lx tX hY2 k19 E7 E10 E13 ok7' ok10' ok13' xW hW b0 b2 b3 b4 b5 b6 b7 b8 b9
  generalize xz yc=Z at *
  generalize xz y4=Y4 at *
  generalize xz y7=Y7 at *
  generalize xz y10=Y10 at *
  generalize xz y13=Y13 at *
  refine⟨?_, ?_⟩
  rotate_left
  simp (disch:=omega)only[go_sem,xF,AP.f242,CV,CW,v1',v4,v7,v10,v13,c40,c41,c70,c76,l76,c107,c138,kc,hw,gW,kn,ke,w1',w13]
  rfl
 obtain⟨hF,bF⟩:=bF
 rw[ua]at b0
 have hh:aO (aU AP.A) bH AP.f242.body (params 0 []) h.eO=some (.ret,[(0,.bool true)],hF):=by
  rw[K5,ua]
  cases hq:aO (aU AP.A) bH (at_ 0 AP.f242.body) (params 0 []) h.eO with
  |none=>rw[hq]at b0;cases b0
  | some r =>
    obtain⟨ex,ev,hr⟩:=r
    cases ex with
    | normal =>
      rw[hq,uH]at b0
      rw[uH,ua,b0,uH,ua,b2,uH,ua,b3,uH,ua,b4,uH,ua,b5,uH,ua,b6,uH,ua,b7,uH,ua,b8,uH,ua,b9,uH]
      exact bF
    |exit i=>rw[hq]at b0;cases b0
    |ret=>rw[hq]at b0;cases b0
 exact vP (fn:=AP.f242) (h2:=hF) (e:=[(0,.bool true)]) rfl rfl rfl hh rfl rfl
structure SzM (m:BE):Prop where
 zd:m.y5.length<20000000000000
 zb:m.zA.length<20000000000000
 zn:m.names.length<9000000000000
 zf:m.xV.length<3600000000000
 ze:m.yJ.length<1353300000000
 wf:∀b∈m.xV,b.2.length<20000000000000
 we:∀e∈m.yJ,e.vec.length<20000000000000
structure YN (h:H) (ov:AV) (x:Be):Prop where
 vec:Rd h x.2 (ints x.1.2)
 sc:x.2.sc=true
 id:∀j,x.2.id?=some j→j<h.next∧ov.id?≠some j
theorem YN.mono {h g:H} {ov ov':AV} {x:Be} (b:YN h ov x) (hn:h.next≤g.next) (hg:∀j,x.2.id?=some j→j<h.next→ov.id?≠some j→g.get j=h.get j) (ho:∀j,j<h.next→ov.id?≠some j→ov'.id?≠some j):YN g ov' x:=
 ⟨b.vec.Fq fun i q=>hg i q (b.id i q).1 (b.id i q).2,b.sc,fun j q=>⟨by have:=(b.id j q).1;omega,ho j (b.id j q).1 (b.id j q).2⟩⟩
theorem yM.Dw {n:Nat} {h g:H} {v:AV} {k:Nat} {cs:List AV} (r:yM n h v k cs) (hg:∀i c,v.id?=some i→h.get i=some c→g.get i=some c):yM n g v k cs:=by
 obtain⟨r,hl,hs⟩:=r
 refine⟨?_,hl,hs⟩
 unfold aV at r ⊢
 split at r
 · exact r
 · exact r
 · rename_i id off len s
   split at r
   · rename_i q
     cases hq:h.get id with
     |none=>rw[hq]at r;cases r
     |some c=>rw[if_pos q,hg id c rfl hq];rw[hq]at r;exact r
   · cases r
 · exact r
 · cases r
theorem Rd.Dw {h g:H} {v:AV} {cs:List AV} (r:Rd h v cs) (hg:∀i c,v.id?=some i→h.get i=some c→g.get i=some c):Rd g v cs:=by
 have:=r.HB.Dw hg
 exact⟨this.1,this.2.2⟩
def YH (R:Nat) (g h:H):Prop:=∀i c,R<i→g.get i=some c→h.get i=some c
theorem YH.trans {R:Nat} {a b c:H} (x:YH R a b) (y:YH R b c):YH R a c:=fun i d h q=>y i d h (x i d h q)
theorem x8.VK {n:Nat} {h:H} {v:AV} {k:Nat} {cs:List AV} (o:x8 n h v k cs) {i:Nat} (q:v.id?=some i):∃c,h.get i=some c:=by
 obtain⟨_,hh⟩:=o
 rcases hh with ⟨rfl,_⟩|⟨j,rfl,hg,_⟩
 · cases q
 · obtain rfl:=wH q
   exact⟨_,hg⟩
theorem WM.up {B:Nat} {h g:H} {y:yT} (w:WM B h y) (e:Ext h g) (hf:g.floor=h.floor):WM B g y:=by
 have wi:∀{v l},WI B h v l→WI B g v l:=fun {v l} q=>by
  rcases q with rfl|⟨i,rfl,w1,w2,w3,w4⟩
  · exact .inl rfl
  · exact .inr ⟨i,rfl,e _ _ w1,by rw[hf];exact w2,w3,w4⟩
 rcases w with ⟨hd,e1,e2,e3,e4⟩|⟨hb,hF,hn,ap,e1,e3,e4⟩|⟨hn,e1,e2,e3,e4⟩|⟨he,hn,e1,e2,e3,e4⟩
 · exact .d (wi hd) e1 e2 e3 e4
 · refine .b (wi hb) (hF.mono hf fun i _ _ q=> ?_) hn ap e1 e3 e4
   rcases q with q|⟨x,hx,q⟩
   · obtain⟨c,hc⟩:=hF.own.VK q
     rw[hc,e _ _ hc]
   · obtain⟨_,_,j,a1,a2,_⟩:=hF.el x hx
     rw[a1]at q
     obtain rfl:=wH q
     rw[a2,e _ _ a2]
 · refine .n ?_ e1 e2 e3 e4
   rcases hn with q|⟨i,q,w1,w2,w3,w4,w5⟩
   · exact .inl q
   · exact .inr ⟨i,q,e _ _ w1,by rw[hf];exact w2,w3,w4,w5⟩
 · refine .e (he.mono hf fun i _ _ q=> ?_) hn e1 e2 e3 e4
   rcases q with q|⟨x,hx,q⟩
   · obtain⟨c,hc⟩:=he.own.VK q
     rw[hc,e _ _ hc]
   · obtain⟨_,_,j,a1,a2,_⟩:=he.el x hx
     rw[a1]at q
     obtain rfl:=wH q
     rw[a2,e _ _ a2]
theorem Md (G:H) (hf:G.floor≤G.next) (v:AV) (l:List xN) (sv:v.sc=true) (hn:l.length<1125899906842624) (rd:yM 9 G v l.length (xG l)) (hv:∀x∈l,yF G x∧x.2.sc=true) (x:yT) (ox:B0 G x):
 ∃(y:yT) (h' A G':H) (O:Nat),aU AP.A 240 [.agg [v],.agg (xz x)] G=some (.bW [.agg (xz y),.bool (zk (l.map (·.1)) x.m).2.1,.int .i64 (zk (l.map (·.1)) x.m).2.2],h')∧y.m=(zk (l.map (·.1)) x.m).1∧h'.alloc (xz yc)=A∧h'.next=O∧A.get O=some (xz yc)∧vR A O 0 9 (xz y) (some (xz yc))=some G'∧G'.get O=some (xz y)∧Ext G G'∧B0 G' y∧G'.floor=G.floor∧G.next≤O∧O<G'.next∧WM G.next G' y:=by
 obtain⟨y,h',k,em,a⟩:=Ps G hf v l sv hn rd hv x ox
 have lt:=a.nx
 have ga:(h'.alloc (xz yc)).get h'.next=some (xz yc):=xE rfl
 have e1:Ext h' ((h'.alloc (xz yc)).set h'.next (xz y)):=fun i c q=>by have:=h'.lt _ _ q;rw[xC (by omega),xI (by omega)];exact q
 refine⟨y,h',_,(h'.alloc (xz yc)).set h'.next (xz y),h'.next,k,em,rfl,rfl,ga,yl (by simp;have:=a.fl;omega) rfl rfl (Aj a.ok),by rw[xH rfl,ga];rfl,fun i c q=>e1 _ _ (a.ext _ _ q),a.ok.mono e1,by simp [a.fl],lt,by simp,a.wm.up e1 (by simp)⟩
theorem N8 (G:H) (hf:G.floor≤G.next) (y:yT) (oy:B0 G y):∃(A G':H) (O:Nat),G.alloc (xz yc)=A∧G.next=O∧A.get O=some (xz yc)∧vR A O 0 9 (xz y) (some (xz yc))=some G'∧G'.get O=some (xz y)∧Ext G G'∧G'.floor=G.floor∧O<G'.next:=by
 have ga:(G.alloc (xz yc)).get G.next=some (xz yc):=xE rfl
 have e1:Ext G ((G.alloc (xz yc)).set G.next (xz y)):=fun i c q=>by have:=G.lt _ _ q;rw[xC (by omega),xI (by omega)];exact q
 exact⟨_,(G.alloc (xz yc)).set G.next (xz y),G.next,rfl,rfl,ga,yl (by simp;omega) rfl rfl (Aj oy),by rw[xH rfl,ga];rfl,e1,by simp,by simp⟩
theorem Fi (a:List UInt8):Op.bytesLess a a=false:=by
 have:=zX a a
 rw[beq_self_eq_true a,Bool.or_true]at this;exact this
theorem DY:∀{L:List xP} {x:xP},yC (some x) L=true→∀e∈L,Op.bytesLess x.name.toList e.name.toList=true
 |[],_,_,e,h=>by cases h
 | y :: r, x, h, e, he => by
   rw[yC,wT,Di]at h
   simp only[wT]at h
   rcases xn.1 he with rfl|he
   · exact h.1.2.1
   · exact BM h.1.2.1 (DY h.2 e he)
theorem CS:∀{a b:List xP} {e:xP} {p:Option xP},yC p (a++e::b)=true→xO e.name (a++e::b)=(a.length,true)
 | [], b, e, p, h => by
   show xO e.name (e::b)=_
   rw[xO,Fi,if_neg (by decide),beq_self_eq_true];rfl
 | x :: a, b, e, p, h => by
   have h2:yC (some x) (a++e::b)=true:=by
    have:yC p (x::(a++e::b))=true:=h
    rw[yC,wT]at this;exact this.2
   have lt:=DY h2 e (by simp)
   show xO e.name (x::(a++e::b))=_
   rw[xO,if_pos lt,CS h2];rfl
theorem Fc:∀a:List Int,yw a a=a
 |[]=>rfl
 | x :: a => by
   show yX x x::yw a a=_
   rw[Fc a];unfold yX;simp
theorem BT:∀{L:List xP} {p:Option xP},yC p L=true→yW (p.map (·.name)) (L.map (·.name))=true
 |[],none,_=>rfl
 |[],some _,_=>rfl
 | e :: r, none, h => by
   rw[yC,wT]at h
   have i:=BT h.2
   have q:=h.1
   rw[Dh,wT]at q
   show((yI e.name&&true)&&yW (some e.name) (r.map (·.name)))=true
   have i':yW (some e.name) (r.map (·.name))=true:=i
   rw[i',q.1];rfl
 | e :: r, some x, h => by
   rw[yC,wT]at h
   have i:=BT h.2
   have q:=h.1
   rw[Di,wT,wT]at q
   show((yI e.name&&Op.bytesLess x.name.toList e.name.toList)&&yW (some e.name) (r.map (·.name)))=true
   have i':yW (some e.name) (r.map (·.name))=true:=i
   rw[i',q.1,q.2.1];rfl
theorem DI:∀(ds:List Int) (i:Nat),yk i ds ds=[]
 |[],_=>rfl
 |d::ds,i=>by rw[yk,if_pos rfl];exact DI ds (i+1)
def mq0 (L:List xP) (a b:Int):BE:=⟨0,a,b,xZ (xQ L),[],[],[],[],[]⟩
def mq1 (L:List xP) (a b:Int):BE:=⟨1,a,b,0,xQ L,[],[],[],[]⟩
theorem Ez {m:BE} (ha:yY m.src=true) (hb:yY m.dst=true) (ne:m.src≠m.dst) (k:At m=true) (l:A9 m=true):BP m=true:=by
 unfold BP;rw[ha,hb,df ne,k,l];rfl
theorem yM.none {n:Nat} {h:H} {k:Nat} {cs:List AV} (r:yM n h .aS k cs):k=0:=by
 have:=r.1
 unfold aV at this
 simp at this
 omega
theorem B0.Yl {B:Nat} {h g:H} {y:yT} (w:WM B h y) (o:B0 h y) (e:∀i c,B≤i→h.get i=some c→g.get i=some c):B0 g y:=by
 have nil:∀{v:AV},v=.aS→∀i,v.id?=some i→B≤i:=fun hv i q=>by rw[hv]at q;cases q
 have wi:∀{v l},WI B h v l→∀i,v.id?=some i→B≤i:=fun {v l} q i qi=>by
  rcases q with rfl|⟨j,rfl,_,_,q3,_⟩
  · cases qi
  · obtain rfl:=wH qi;exact q3
 have ws:∀{v l},WS B h v l→∀i,v.id?=some i→B≤i:=fun {v l} q i qi=>by
  rcases q with rfl|⟨j,rfl,_,_,q3,_⟩
  · cases qi
  · obtain rfl:=wH qi;exact q3
 have nf:y.vf=.aS→y.fs=[]:=fun q=>by
  have:=o.rf.rd;rw[q]at this
  exact aa7 this.none
 have ne:y.ve=.aS→y.es=[]:=fun q=>by
  have:=o.re;rw[q]at this
  exact aa7 this.none
 have fin:(∀i,y.vd.id?=some i→B≤i)→(∀i,y.vb.id?=some i→B≤i)→(∀i,y.vf.id?=some i→B≤i)→(∀i,y.vn.id?=some i→B≤i)→(∀i,y.ve.id?=some i→B≤i)→(∀x∈y.fs,∀i,x.2.id?=some i→B≤i)→(∀x∈y.es,∀i,x.2.id?=some i→B≤i)→B0 g y:=fun a1 a2 a3 a4 a5 a6 a7=>
  ⟨o.rd.Dw fun i c q=>e i c (a1 i q),o.rb.Dw fun i c q=>e i c (a2 i q),⟨o.rf.rd.Dw fun i c q=>e i c (a3 i q),fun x hx=>⟨(o.rf.vec x hx).1.Dw fun i c q=>e i c (a6 x hx i q),(o.rf.vec x hx).2⟩⟩,o.hf,o.rn.Dw fun i c q=>e i c (a4 i q),o.re.Dw fun i c q=>e i c (a5 i q),o.he,
   fun x hx=>⟨⟨(o.ve x hx).1.vec.Dw fun i c q=>e i c (a7 x hx i q),(o.ve x hx).1.vl,(o.ve x hx).1.nl,(o.ve x hx).1.pl⟩,(o.ve x hx).2⟩,o.vf,o.sc,o.zd,o.zb,o.zf,o.zn,o.ze,o.zs⟩
 rcases w with ⟨hd,e1,e2,e3,e4⟩|⟨hb,hF,hn,ap,e1,e3,e4⟩|⟨hn,e1,e2,e3,e4⟩|⟨he,hn,e1,e2,e3,e4⟩
 · exact fin (wi hd) (nil e1) (nil e2) (nil e3) (nil e4) (fun x hx=>by rw[nf e2]at hx;cases hx) (fun x hx=>by rw[ne e4]at hx;cases hx)
 · refine fin (nil e1) (wi hb) hF.ge (nil e3) (nil e4) (fun x hx i q=> ?_) (fun x hx=>by rw[ne e4]at hx;cases hx)
   obtain⟨_,_,j,a1,a2,a3,_⟩:=hF.el x hx
   rw[a1]at q
   obtain rfl:=wH q
   exact a3
 · exact fin (nil e1) (nil e2) (nil e3) (ws hn) (nil e4) (fun x hx=>by rw[nf e3]at hx;cases hx) (fun x hx=>by rw[ne e4]at hx;cases hx)
 · refine fin (nil e1) (nil e2) (nil e3) (nil e4) he.ge (fun x hx=>by rw[nf e3]at hx;cases hx) (fun x hx i q=> ?_)
   obtain⟨_,_,j,a1,a2,a3,_⟩:=he.el x hx
   rw[a1]at q
   obtain rfl:=wH q
   exact a3
theorem J9 {v w:AV} {a b:List Int} (la:a.length=4) (lb:b.length=4) (h0:H) (ra:Rd h0 v (ints a)) (rb:Rd h0 w (ints b)):∀(n i:Nat),i+n=4→∀(h:H) (ov:AV),Ext h0 h→h.floor≤h.next→h0.next≤h.next→x8 1 h ov i (ints ((yw a b).take i))→(∀j,ov.id?=some j→h0.next≤j)→
 ∃e' h' ov',Lp AP.A [0,1,6,7] AP.f166L0 [(0,v),(1,w),(6,ov),(7,.int .i64 i)] h=some (.exit 0,e',h')∧look e' 6=ov'∧x8 1 h' ov' 4 (ints (yw a b))∧h'.floor=h.floor
 | 0, i, hi, h, ov, hx, hf, hn, o, hge => by
   obtain rfl:i=4:=by omega
   have ln:=(ra.mono fun i c q=>hx i c q:Rd h v (ints a)).HB.len
   rw[rk,la]at ln
   have jl:(yw a b).length=4:=by unfold yw;rw[List.length_zipWith];omega
   rw[xj (by omega)]at o
   refine⟨[(0,v),(1,w),(6,ov),(7,.int .i64 4),(19,.bool false)],h,ov,u6 ?_,rfl,o,rfl⟩
   simp (disch:=omega)only[go_sem,xF,AP.f166L0,ln]
 | n + 1, i, hi, h, ov, hx, hf, hn, o, hge => by
   have ln:=(ra.mono fun i c q=>hx i c q:Rd h v (ints a)).HB.len
   rw[rk,la]at ln
   obtain⟨x,ax⟩:∃x,a[i]?=some x:=⟨a[i]'(by omega),by simp⟩
   obtain⟨y,bx⟩:∃y,b[i]?=some y:=⟨b[i]'(by omega),by simp⟩
   obtain⟨ad,a1,a2⟩:=ra.yL
   obtain⟨bd,b1,b2⟩:=rb.yL
   have a3:=a1 i ⟨by omega,by omega⟩
   have b3:=b1 i ⟨by omega,by omega⟩
   have a4:=a2 h hx i x ax
   have b4:=b2 h hx i y bx
   have jl:(yw a b).length=4:=by unfold yw;rw[List.length_zipWith];omega
   have jx:(yw a b)[i]?=some (yX x y):=by unfold yw;rw[List.getElem?_zipWith,ax,bx]
   have tk:(yw a b).take (i+1)=(yw a b).take i++[yX x y]:=by rw[List.take_add_one,jx];rfl
   have il:(yw a b).take i=(yw a b).take i:=rfl
   obtain⟨v',h',p1,p2,p3,p4,p5,p6⟩:=o.push hf (z:=8) (m:=1) (by omega) (by omega) [.int .i64 (yX x y)] rfl rfl (by simp [roomy];omega)
   have e:ints ((yw a b).take i)++[.int .i64 (yX x y)]=ints ((yw a b).take (i+1)):=by rw[tk];simp [ints,I]
   rw[e]at p2
   obtain⟨e',h2,ov',r1,r2,r3,r4⟩:=J9 la lb h0 ra rb n (i+1) (by omega) h' v' (fun j c q=>by
    have:=h0.lt _ _ q
    rw[p5 j (fun q2=>by have:=hge j q2;omega) (by omega)];exact hx j c q) (by omega) (by omega) p2 (fun j q=>by rw[p6]at q;have:=wH q;omega)
   have w1:((i+1:Nat):Int)=(i:Int)+1:=by omega
   rw[w1]at r1
   refine⟨e',h2,ov',u9 ?_ r1,r2,r3,by rw[r4,p3]⟩
   clear r1 r2 r3 ra rb a1 a2 b1 b2 hx o p2 e tk jx
   simp (disch:=omega)only[go_sem,xF,AP.f166L0,ln,a3,b3,a4,b4,Nb,JE,p1]
theorem OG (h:H) (v w:AV) (a b:List Int) (ra:Rd h v (ints a)) (rb:Rd h w (ints b)) (ha:yS a=true) (hb:yS b=true):aU AP.A 166 [v,w] h=some (.bW [xU (yw a b),.int .i64 0],h):=by
 have la:a.length=4:=by unfold yS at ha;simp only[wT,aa1]at ha;exact ha.1
 have lb:b.length=4:=by unfold yS at hb;simp only[wT,aa1]at hb;exact hb.1
 have jl:(yw a b).length=4:=by unfold yw;rw[List.length_zipWith];omega
 have raf:Rd h.eO v (ints a):=ra.mono fun i c q=>q
 have rbf:Rd h.eO w (ints b):=rb.mono fun i c q=>q
 have k1:=FX h.eO v a raf (by omega)
 have k2:=FX h.eO w b rbf (by omega)
 rw[ha]at k1
 rw[hb]at k2
 obtain⟨e',h2,ov,r1,r2,r3,r4⟩:=J9 la lb h.eO raf rbf 4 0 rfl h.eO .aS (Ext.refl _) (wU _) (wU _) x8.nil (fun j q=>by cases q)
 have r1':Lp AP.A [0,1,6,7] AP.f166L0 [(0,v),(1,w),(6,.aS),(7,.int .i64 0)] h.eO=some (.exit 0,e',h2):=r1
 refine vP (fn:=AP.f166) (h2:=h2) (e:=[(4,ov),(5,.int .i64 0)]) (vs:=[ov,.int .i64 0]) rfl rfl rfl ?_ rfl ?_
 · clear ra rb raf rbf r1 r3 ha hb
   simp (disch:=omega)only[go_sem,xF,AP.f166,k1,k2,uo,r1',r2]
 · have s:=r3.Aa (fl:=h.next) (m:=13) (t:=true) (by rw[r4];exact wU _)
   have e:CG 1 4 (ints (yw a b))=xU (yw a b):=by unfold CG xU;rw[jl];rfl
   rw[e]at s
   show(gH (snap h2.get h.next 15 true) [ov,.int .i64 0]).bind _=_
   simp only[gH,s,wP]
   rfl
theorem Is {e:xP} (h:yi e=true):e.vec.length=4:=by
 have:=Fm h
 unfold yS at this
 simp only[wT,aa1]at this
 exact this.1
def Kj:Option xP→AV
 |some e=>.bW [.agg (xA e (xU e.vec)),.int .i64 0]
 |none=>.bW [.agg Z9,.int .i64 1500]
theorem LF (h:H) (a b:xP) (va vb:AV) (sa:va.sc=true) (sb:vb.sc=true) (oka:yF h (a,va)) (okb:yF h (b,vb)) (hm:BN a b=none):
 aU AP.A 156 [.agg (xA a va),.agg (xA b vb)] h=some (.bW [.agg Z9,.int .i64 1500],h):=by
 obtain⟨h1,eh1⟩:∃g,g=h.eO.alloc (xA a va):=⟨_,rfl⟩
 obtain⟨h2,eh2⟩:∃g,g=h1.alloc (xA b vb):=⟨_,rfl⟩
 obtain⟨h3,eh3⟩:∃g,g=h2.alloc Z9:=⟨_,rfl⟩
 have x3:Ext h h3:=fun i c q=>by rw[eh3,eh2,eh1];exact((((Ext.refl h.eO).alloc _).alloc _).alloc _) i c q
 have n0:h.eO.next=h.next:=rfl
 have n1:h1.next=h.next+1:=by rw[eh1];simp
 have n2:h2.next=h.next+2:=by rw[eh2];simp [n1]
 have f3:h3.floor=h.next:=by rw[eh3,eh2,eh1];simp
 have ga3:h3.get h.next=some (xA a va):=by rw[eh3,xI (by omega),eh2,xI (by omega),eh1,xE (by simp)]
 have gb3:h3.get (h.next+1)=some (xA b vb):=by rw[eh3,xI (by omega),eh2,xE (by omega)]
 have gc3:h3.get (h.next+2)=some Z9:=by rw[eh3,xE (by omega)]
 have k1:=BK h3 a va sa (oka.mono x3)
 have k2:=BK h3 b vb sb (okb.mono x3)
 have ra:iO true 9 (xA a va) 0=some (.agg (xA a va)):=rfl
 have rb:iO true 9 (xA b vb) 0=some (.agg (xA b vb)):=rfl
 have cm:bC .neq (.str a.name) (.str b.name)=some (.bool (!(a.name.data.toList==b.name.data.toList))):=BV _ _
 have e1:h.eO.alloc (xA a va)=h1:=eh1.symm
 have e2:h1.alloc (xA b vb)=h2:=eh2.symm
 have e3:h2.alloc [.str ⟨#[]⟩,.bool false,.aS,.int .i64 0,.int .i64 0,.int .i64 0,.str ⟨#[]⟩,.int .i64 0,.int .i64 0]=h3:=eh3.symm
 unfold BN at hm
 have hbad:(yi a&&(yi b&&(a.name.data.toList==b.name.data.toList)))=false:=by
  cases hq:(yi a&&(yi b&&(a.name.data.toList==b.name.data.toList)))with
  |false=>rfl
  |true=>rw[hq,if_pos rfl]at hm;cases hm
 clear hm
 obtain⟨h4,eh4⟩:∃g,g=h3.set (h.next+2) Z9:=⟨_,rfl⟩
 have st4:vR h3 (h.next+2) 0 9 [.str ⟨#[]⟩,.bool false,.aS,.int .i64 0,.int .i64 0,.int .i64 0,.str ⟨#[]⟩,.int .i64 0,.int .i64 0] (some Z9)=some h4:=by rw[eh4];exact yl (by omega) rfl rfl rfl
 have g4:h4.get (h.next+2)=some Z9:=by rw[eh4,xH rfl,gc3];rfl
 have lA:(xA a va).length=9:=rfl
 have lB:(xA b vb).length=9:=rfl
 have cA:=yH (e:=a) sa
 have cB:=yH (e:=b) sb
 have a0:(xA a va)[0]?=some (.str a.name):=rfl
 have b0:(xA b vb)[0]?=some (.str b.name):=rfl
 refine vP (fn:=AP.f156) (h2:=h4) (e:=[(4,.aG (h.next+2) 0),(5,.int .i64 1500)]) (vs:=[.agg Z9,.int .i64 1500]) rfl rfl rfl ?_ (by simp only[AP.f156,c9,oL,ou,mM,sX,g4,uX];rfl) rfl
 clear x3 oka okb g4
 generalize yi a=B1 at *
 generalize yi b=B2 at *
 generalize (a.name.data.toList==b.name.data.toList)=B3 at *
 generalize xA a va=A at *
 generalize xA b vb=B at *
 cases B1 with
 |false=>simp (disch:=omega)only[go_sem,xF,AP.f156,n0,lA,cA,e1,n1,lB,cB,e2,n2,e3,ga3,gb3,gc3,ra,rb,k1,k2,a0,b0,cm,st4]
 | true =>
   cases B2 with
   |false=>simp (disch:=omega)only[go_sem,xF,AP.f156,n0,lA,cA,e1,n1,lB,cB,e2,n2,e3,ga3,gb3,gc3,ra,rb,k1,k2,a0,b0,cm,st4]
   | true =>
     cases B3 with
     |false=>simp (disch:=omega)only[go_sem,xF,AP.f156,n0,lA,cA,e1,n1,lB,cB,e2,n2,e3,ga3,gb3,gc3,ra,rb,k1,k2,a0,b0,cm,st4]
     |true=>cases hbad
set_option maxHeartbeats 1600000 in
theorem M6 (h : H) (a b : xP) (va vb : AV) (sa : va.sc = true) (sb : vb.sc = true) (oka : yF h (a, va)) (okb : yF h (b, vb)) :
 aU AP.A 156 [.agg (xA a va),.agg (xA b vb)] h=some (Kj (BN a b),h):=by
 cases hq:(yi a&&(yi b&&(a.name.data.toList==b.name.data.toList)))with
 | false =>
   have hm:BN a b=none:=by unfold BN;rw[hq];rfl
   rw[hm];exact LF h a b va vb sa sb oka okb hm
 |true=>
 have hm:BN a b=some {(if Ae a b then b else a)with vec:=yw a.vec b.vec}:=by unfold BN;rw[if_pos hq]
 rw[hm]
 simp only[wT]at hq
 obtain⟨q1,q2,q3⟩:=hq
 have a4:=Is q1
 have b4:=Is q2
 obtain⟨h1,eh1⟩:∃g,g=h.eO.alloc (xA a va):=⟨_,rfl⟩
 obtain⟨h2,eh2⟩:∃g,g=h1.alloc (xA b vb):=⟨_,rfl⟩
 obtain⟨h3,eh3⟩:∃g,g=h2.alloc Z9:=⟨_,rfl⟩
 obtain⟨h4,eh4⟩:∃g,g=h3.alloc Z9:=⟨_,rfl⟩
 obtain⟨h5,eh5⟩:∃g,g=h4.set (h.next+3) (xA a (xU a.vec)):=⟨_,rfl⟩
 have x3:Ext h h3:=fun i c q=>by rw[eh3,eh2,eh1];exact((((Ext.refl h.eO).alloc _).alloc _).alloc _) i c q
 have x5:Ext h h5:=fun i c q=>by have:=h.lt _ _ q;rw[eh5,xC (by omega),eh4];exact(x3.alloc _) i c q
 have n0:h.eO.next=h.next:=rfl
 have n1:h1.next=h.next+1:=by rw[eh1];simp
 have n2:h2.next=h.next+2:=by rw[eh2];simp [n1]
 have n3:h3.next=h.next+3:=by rw[eh3];simp [n2]
 have f5:h5.floor=h.next:=by rw[eh5,eh4,eh3,eh2,eh1];simp
 have ga3:h3.get h.next=some (xA a va):=by rw[eh3,xI (by omega),eh2,xI (by omega),eh1,xE (by simp)]
 have gb3:h3.get (h.next+1)=some (xA b vb):=by rw[eh3,xI (by omega),eh2,xE (by omega)]
 have gc3:h3.get (h.next+2)=some Z9:=by rw[eh3,xE (by omega)]
 have gz4:h4.get (h.next+3)=some Z9:=by rw[eh4,xE (by omega)]
 have low5:∀i,i<h.next+3→h5.get i=h3.get i:=fun i hi=>by rw[eh5,xC (by omega),eh4,xI (by omega)]
 have ga5:h5.get h.next=some (xA a va):=by rw[low5 _ (by omega)];exact ga3
 have gb5:h5.get (h.next+1)=some (xA b vb):=by rw[low5 _ (by omega)];exact gb3
 have gd5:h5.get (h.next+3)=some (xA a (xU a.vec)):=by rw[eh5,xH rfl,gz4];rfl
 have k1:=BK h3 a va sa (oka.mono x3)
 have k2:=BK h3 b vb sb (okb.mono x3)
 rw[q1]at k1
 rw[q2]at k2
 have c1:=De h3 a va sa (oka.mono x3) (by omega) (by omega)
 have c2:=De h5 b vb sb (okb.mono x5) (by omega) (by omega)
 have ra:iO true 9 (xA a va) 0=some (.agg (xA a va)):=rfl
 have rb:iO true 9 (xA b vb) 0=some (.agg (xA b vb)):=rfl
 have cm:bC .neq (.str a.name) (.str b.name)=some (.bool false):=by rw[BV,q3];rfl
 have e1:h.eO.alloc (xA a va)=h1:=eh1.symm
 have e2:h1.alloc (xA b vb)=h2:=eh2.symm
 have e3:h2.alloc [.str ⟨#[]⟩,.bool false,.aS,.int .i64 0,.int .i64 0,.int .i64 0,.str ⟨#[]⟩,.int .i64 0,.int .i64 0]=h3:=eh3.symm
 have e4:h3.alloc [.str ⟨#[]⟩,.bool false,.aS,.int .i64 0,.int .i64 0,.int .i64 0,.str ⟨#[]⟩,.int .i64 0,.int .i64 0]=h4:=eh4.symm
 have st5:vR h4 (h.next+3) 0 9 (xA a (xU a.vec)) (some Z9)=some h5:=by rw[eh5];exact yl (by rw[eh4,eh3,eh2,eh1];simp) rfl rfl rfl
 obtain⟨w,ew⟩:∃w:xP,w=if Ae a b then b else a:=⟨_,rfl⟩
 obtain⟨h6,eh6⟩:∃g,g=if Ae a b then h5.set (h.next+3) (xA b (xU b.vec))else h5:=⟨_,rfl⟩
 have st6:vR h5 (h.next+3) 0 9 (xA b (xU b.vec)) (some (xA a (xU a.vec)))=some (h5.set (h.next+3) (xA b (xU b.vec))):=yl (by omega) rfl rfl rfl
 have low6:∀i,i<h.next+3→h6.get i=h3.get i:=fun i hi=>by
  rw[eh6]
  split
  · rw[xC (by omega),low5 i hi]
  · exact low5 i hi
 have f6:h6.floor=h.next:=by rw[eh6];split<;>simp [f5]
 have x6:Ext h h6:=fun i c q=>by have:=h.lt _ _ q;rw[low6 i (by omega)];exact x3 i c q
 have ga6:h6.get h.next=some (xA a va):=by rw[low6 _ (by omega)];exact ga3
 have gb6:h6.get (h.next+1)=some (xA b vb):=by rw[low6 _ (by omega)];exact gb3
 have gc6:h6.get (h.next+2)=some Z9:=by rw[low6 _ (by omega)];exact gc3
 have gd6:h6.get (h.next+3)=some (xA w (xU w.vec)):=by
  rw[eh6,ew];split
  · rw[xH rfl,gd5];rfl
  · exact gd5
 have kj:=OG h6 va vb a.vec b.vec (oka.mono x6).vec (okb.mono x6).vec (Fm q1) (Fm q2)
 obtain⟨V,hV⟩:∃V,V=xU (yw a.vec b.vec):=⟨_,rfl⟩
 have sV:V.sc=true:=by rw[hV];rfl
 have cV:=ye sV
 obtain⟨r,er⟩:∃r:xP,r={w with vec:=yw a.vec b.vec}:=⟨_,rfl⟩
 obtain⟨R,hR⟩:∃R,R=xA r V:=⟨_,rfl⟩
 obtain⟨h7,eh7⟩:∃g,g=h6.set (h.next+3) R:=⟨_,rfl⟩
 obtain⟨h8,eh8⟩:∃g,g=h7.set (h.next+2) R:=⟨_,rfl⟩
 have lR:R.length=9:=by rw[hR];rfl
 have cR:AV.aE R=true:=by rw[hR];exact yH sV
 have rR:iO true 9 R 0=some (.agg R):=by rw[hR];rfl
 have st7:vR h6 (h.next+3) 2 1 [V] (some (xA w (xU w.vec)))=some h7:=by
  rw[wx (by omega) (by show 2<9;omega) sV,eh7,hR,er];rfl
 have gd7:h7.get (h.next+3)=some R:=by rw[eh7,xH rfl,gd6];rfl
 have gc7:h7.get (h.next+2)=some Z9:=by rw[eh7,xC (by omega)];exact gc6
 have st8:vR h7 (h.next+2) 0 9 R (some Z9)=some h8:=by rw[eh8];exact yl (by rw[eh7];simp [f6]) lR rfl cR
 have gc8:h8.get (h.next+2)=some R:=by rw[eh8,xH rfl,gc7];rfl
 rw[←hV]at kj
 have lA:(xA a va).length=9:=rfl
 have lB:(xA b vb).length=9:=rfl
 have cA:=yH (e:=a) sa
 have cB:=yH (e:=b) sb
 have a0:(xA a va)[0]?=some (.str a.name):=rfl
 have b0:(xA b vb)[0]?=some (.str b.name):=rfl
 have a2:(xA a va)[2]?=some va:=rfl
 have b2:(xA b vb)[2]?=some vb:=rfl
 have a3:(xA a va)[3]?=some (.int .i64 a.xL):=rfl
 have b3:(xA b vb)[3]?=some (.int .i64 b.xL):=rfl
 have an:(xA a va)[4]?=some (.int .i64 a.node):=rfl
 have bn:(xA b vb)[4]?=some (.int .i64 b.node):=rfl
 have lA':(xA a (xU a.vec)).length=9:=rfl
 have lB':(xA b (xU b.vec)).length=9:=rfl
 have cA':AV.aE (xA a (xU a.vec))=true:=rfl
 have cB':AV.aE (xA b (xU b.vec))=true:=rfl
 have hres:Kj (some {(if Ae a b then b else a)with vec:=yw a.vec b.vec})=.bW [.agg R,.int .i64 0]:=by
  rw[hR,er,ew,hV];rfl
 rw[hres]
 have wn:Ae a b=(decide (a.xL<b.xL)||(decide (a.xL=b.xL)&&decide (a.node<b.node))):=rfl
 refine vP (fn:=AP.f156) (h2:=h8) (e:=[(4,.aG (h.next+2) 0),(5,.int .i64 0)]) (vs:=[.agg R,.int .i64 0]) rfl rfl rfl ?_ (by simp only[AP.f156,c9,oL,ou,mM,sX,gc8,uX,rR];rfl) (by rw[hR,hV];rfl)
 clear x3 x5 x6 oka okb low5 low6 gc8 hR hV er ew hres hm eh8 eh7
 generalize xA w (xU w.vec)=WW at *
 generalize xA a (xU a.vec)=A2 at *
 generalize xA b (xU b.vec)=B2 at *
 generalize xA a va=A at *
 generalize xA b vb=B at *
 by_cases d1:a.xL<b.xL
 · rw[wn,dt d1,Bool.true_or,if_pos rfl]at eh6
   rw[←eh6]at st6
   simp (disch:=omega)only[go_sem,xF,AP.f156,n0,lA,cA,e1,n1,lB,cB,e2,n2,e3,ga3,gb3,ra,rb,k1,k2,a0,b0,cm,c1,e4,n3,lA',cA',gz4,st5,ga5,gb5,a3,b3,an,bn,c2,lB',cB',gd5,st6,a2,b2,ga6,gb6,kj,cV,sV,gd6,st7,gd7,rR,lR,cR,gc7,st8]
 · rw [wn, df d1, abp] at eh6
   by_cases d2:b.xL=a.xL
   · rw[dt d2.symm,aa3]at eh6
     by_cases d3:a.node<b.node
     · rw[dt d3,if_pos rfl]at eh6
       rw[←eh6]at st6
       simp (disch:=omega)only[go_sem,xF,AP.f156,n0,lA,cA,e1,n1,lB,cB,e2,n2,e3,ga3,gb3,ra,rb,k1,k2,a0,b0,cm,c1,e4,n3,lA',cA',gz4,st5,ga5,gb5,a3,b3,an,bn,c2,lB',cB',gd5,st6,a2,b2,ga6,gb6,kj,cV,sV,gd6,st7,gd7,rR,lR,cR,gc7,st8]
     · rw[df d3,if_neg (by decide)]at eh6
       subst eh6
       simp (disch:=omega)only[go_sem,xF,AP.f156,n0,lA,cA,e1,n1,lB,cB,e2,n2,e3,ga3,gb3,ra,rb,k1,k2,a0,b0,cm,c1,e4,n3,lA',cA',gz4,st5,ga5,gb5,a3,b3,an,bn,a2,b2,ga6,gb6,kj,cV,sV,gd6,st7,gd7,rR,lR,cR,gc7,st8]
   · rw[df (fun q=>d2 q.symm),aa4,if_neg (by decide)]at eh6
     subst eh6
     simp (disch:=omega)only[go_sem,xF,AP.f156,n0,lA,cA,e1,n1,lB,cB,e2,n2,e3,ga3,gb3,ra,rb,k1,k2,a0,b0,cm,c1,e4,n3,lA',cA',gz4,st5,ga5,gb5,a3,b3,an,bn,a2,b2,ga6,gb6,kj,cV,sV,gd6,st7,gd7,rR,lR,cR,gc7,st8]
theorem IV {α:Type} {l:List α} {i:Nat} {x:α} (h:l[i]?=some x):∃p q,p.length=i∧l=p++x::q:=by
 obtain⟨hi,rfl⟩:=wO.1 h
 refine⟨l.take i,l.drop (i+1),by rw[abC];omega, ?_⟩
 rw[←List.drop_eq_getElem_cons hi,List.take_append_drop]
structure AX (G:H) (b:Nat) (v:AV) (l:List xN):Prop where
 g:G.get b=some [v]
 sv:v.sc=true
 rd:yM 9 G v l.length (xG l)
 ok:∀x∈l,yF G x∧x.2.sc=true
 may:yh (l.map (·.1))=true
theorem AX.mono {G g:H} {b:Nat} {v:AV} {l:List xN} (o:AX G b v l) (e:Ext G g):AX g b v l:=
 ⟨e _ _ o.g,o.sv,o.rd.mono fun i c q=>e i c q,fun x hx=>⟨(o.ok x hx).1.mono e,(o.ok x hx).2⟩,o.may⟩
theorem AX.len {G:H} {b:Nat} {v:AV} {l:List xN} (o:AX G b v l):l.length≤6:=by
 have hm:=yB o.may
 unfold yK at hm
 rw[wT,aa1,aa0]at hm
 exact hm.2
theorem AX.vec {G:H} {b:Nat} {v:AV} {l:List xN} (o:AX G b v l) {x:xN} (hx:x∈l):yS x.1.vec=true:=by
 have hm:=yB o.may
 unfold yK at hm
 rw[wT]at hm
 have:=(Dv hm.1 x.1 (aa6.2 ⟨x,hx,rfl⟩)).2.1
 unfold yy at this
 rw[wT]at this
 exact this.1
theorem AX.at_ {G:H} {b:Nat} {v:AV} {l:List xN} (o:AX G b v l):∃ad:Int→Nat→AV,(∀i:Int,0≤i∧i<l.length→gZ 9 v (.int .i64 i)=some (ad i 0)∧fZ 0 (ad i 0)=some (ad i 0)∧fZ 2 (ad i 0)=some (ad i 2))∧
 ∀g,Ext G g→∀(i:Nat) (x:xN),l[i]?=some x→cf false 1 (ad i 0) g=some (.str x.1.name)∧cf false 1 (ad i 2) g=some x.2∧cf true 9 (ad i 0) g=some (.agg (xA x.1 x.2)):=by
 obtain⟨ad,a1,a2,a4,a3⟩:=o.rd.at_
 refine⟨ad,fun i hi=>⟨a1 i hi,a2 i 0 0 hi,a2 i 0 2 hi⟩,fun g hg i x hx=> ?_⟩
 have hi:i<l.length:=(wO.1 hx).1
 have f:=fun k (hk:k<9)=>Bm (f:=k) AB hx hk
 have a5:=a3 g fun i c q=>hg i c q
 refine⟨a5.1 i 0 _ ⟨by omega,by omega⟩ ?_,a5.1 i 2 _ ⟨by omega,by omega⟩ ?_, ?_⟩
 · rw[yZ];exact f 0 (by omega)
 · rw[yZ];exact f 2 (by omega)
 · rw[a5.2 i ⟨by omega,by omega⟩,yZ]
   obtain⟨p,q,rfl,rfl⟩:=IV hx
   have:xG (p++x::q)=xG p++(xA x.1 x.2++xG q):=by simp [xG,Jk]
   rw[this,List.drop_append_of_le_length (by rw[yQ];omega),List.drop_of_length_le (by rw[yQ];omega),abB,List.take_append_of_le_length (by show 9≤9;omega),xj (by show 9≤9;omega)]
def Qr (e:xP):L3:=(e.name,e.vec)
theorem Bi (f:xP→Bool):∀{L:List xP} {p:Option xP},yC p L=true→yC p (L.filter f)=true
 |[],_,_=>by simp [yC]
 | e :: r, p, h => by
   have h':=h
   rw[yC,wT]at h
   cases q:f e with
   |true=>rw[aby,q,if_pos rfl,yC,h.1,Bi f h.2];rfl
   | false =>
     rw[aby,q,if_neg (by decide)]
     exact Bi f (Fo (a:=[]) h')
theorem Kw {LA:List xP} (h:yh LA=true):∀F:List xP,(∀e∈F,e∈LA)→BS LA (F.map (·.name))=F
 |[],_=>rfl
 | e :: F, hF => by
   have hm:=yB h
   unfold yK at hm
   rw[wT]at hm
   obtain⟨a,b,rfl⟩:=List.append_of_mem (hF e (by simp))
   rw[aa5,Nr,Kw h F fun x hx=>hF x (by simp [hx]),CS hm.1]
   simp
def mq3 (W:List ByteArray):BE:=⟨3,1,0,0,[],[],[],W,[]⟩
def mq5 (F:List xP):BE:=⟨4,0,1,0,[],[],[],[],F⟩
structure WX (h0 h:H) (w:Nat) (bs:List Nat) (ov:AV):Prop where
 wr:Wr h w bs ov
 ext:Ext h0 h
 lw:h0.next≤w
 ln:h0.next≤h.next
 lo:∀j,ov.id?=some j→h0.next≤j
theorem WX.step {h0 h h':H} {w:Nat} {bs bs':List Nat} {ov ov':AV} (x:WX h0 h w bs ov) (wr:Wr h' w bs' ov') (f:Ql h w ov h' ov'):WX h0 h' w bs' ov':=
 ⟨wr,fun i c hi=>by
  have:=h0.lt _ _ hi
  have:=x.ln
  have:=x.lw
  rw[f.yR i (by omega) (by omega) (fun q=>by have:=x.lo i q;omega),x.ext i c hi],x.lw,by have:=f.next;have:=x.ln;omega,fun j hj=>by
  rcases f.ids j hj with q|q
  · exact x.lo j q
  · have:=x.ln;omega⟩
def OU (E:List (Int×Int)) (s:Nat):Prop:=∃n v:Nat,E[s]?=some ((n:Int),(v:Int))∧1≤n∧n≤15∧v<2^n
def HT (E:List (Int×Int)) (s:Nat):List Nat:=Mt (E.getD s (0,0)).2.toNat (E.getD s (0,0)).1.toNat
theorem OU.bits {E:List (Int×Int)} {s:Nat} (o:OU E s):∃n v:Nat,E[s]?=some ((n:Int),(v:Int))∧1≤n∧n≤15∧v<2^n∧HT E s=Mt v n:=by
 obtain⟨n,v,h,h1,h2,h3⟩:=o
 refine⟨n,v,h,h1,h2,h3, ?_⟩
 unfold HT
 rw[aaZ,h];rfl
theorem OU.lt {E:List (Int×Int)} {s:Nat} (o:OU E s):s<E.length:=by
 obtain⟨n,v,h,_⟩:=o
 exact(wO.1 h).1
def okT (E D:List (Int×Int)) (t:Tok):Prop:=
 (t.len=0∧0≤t.lit∧OU E t.lit.toNat)∨(3≤t.len∧t.len≤258∧1≤t.EX∧t.EX≤32768∧OU E (Yi t.len.toNat)∧OU D (Xc t.EX.toNat))
structure Ro (h:H) (f:Nat) (vs:List AV) (cs:List (List AV)):Prop where
 get:h.get f=some vs
 own:∀(i:Nat) (v:AV) (c:List AV),vs[i]?=some v→cs[i]?=some c→x8 1 h v c.length c
 len:vs.length=cs.length
 ne:∀(i:Nat) (v:AV),vs[i]?=some v→v.id?≠some f
 JX:∀(i j:Nat) (v u:AV),i≠j→vs[i]?=some v→vs[j]?=some u→∀id,v.id?=some id→u.id?≠some id
 fl:h.floor≤f
 Yc:h.floor≤h.next
structure Lo (h h':H):Prop where
 floor:h'.floor=h.floor
 next:h.next≤h'.next
 yR:∀i,i<h.floor→h'.get i=h.get i
theorem Lo.refl (h:H):Lo h h:=⟨rfl,wU _,fun _ _=>rfl⟩
theorem Lo.trans {a b c:H} (x:Lo a b) (y:Lo b c):Lo a c:=⟨y.floor.trans x.floor,xq x.next y.next,fun i hi=>(y.yR i (by rw[x.floor];exact hi)).trans (x.yR i hi)⟩
theorem Ext.lo {h0 a b:H} (x:Ext h0 a) (y:Lo a b) (hf:a.floor=h0.next):Ext h0 b:=fun i c hi=>by
 rw[y.yR i (by rw[hf];exact h0.lt _ _ hi),x i c hi]
theorem Ro.push {h : H} {f : Nat} {vs : List AV} {cs : List (List AV)} (r : Ro h f vs cs) (k : Nat) {v : AV} {c : List AV} (hv : vs[k]? = some v) (hc : cs[k]? = some c) (x : AV) (sc : x.sc = true) {z : Nat} (hz : roomy z (c.length + 1) = true) :
 ∃v' h1,mo (h.alloc [x]) 1 z v (.aH h.next 0 1 1)=some (v',h1)∧h1.get f=some vs∧h1.floor=h.floor∧Ro (h1.set f (vs.set k v')) f (vs.set k v') (cs.set k (c++[x]))∧Lo h (h1.set f (vs.set k v')):=by
 have o:=r.own k v c hv hc
 have hfl:=h.lt _ _ r.get
 obtain⟨v',h1,p1,p2,p3,p4,p5,p6⟩:=o.push r.Yc (z:=z) (m:=1) (by omega) (by omega) [x] rfl (by simp [AV.aE,sc]) hz
 have hk:k<vs.length:=(wO.1 hv).1
 have gf:h1.get f=some vs:=by rw[p5 f (r.ne k v hv) hfl,r.get]
 have key:∀(i:Nat) (u:AV),(vs.set k v')[i]?=some u→(i=k∧u=v')∨(i≠k∧vs[i]?=some u):=by
  intro i u hu
  by_cases e:k=i
  · subst e
    rw[abi,if_pos rfl,if_pos hk]at hu
    exact .inl ⟨rfl,(wH hu).symm⟩
  · rw[abi,if_neg e]at hu
    exact .inr ⟨fun q=>e q.symm,hu⟩
 have ju:∀(i:Nat) (u:AV),vs[i]?=some u→∀id,u.id?=some id→id<h.next:=by
  intro i u hu id hid
  have hi:i<cs.length:=by rw[←r.len];exact(wO.1 hu).1
  exact((r.own i u _ hu (abe hi)).lt hid).2
 refine⟨v',h1,p1,gf,p3,⟨?_, ?_, ?_, ?_, ?_, ?_, ?_⟩,⟨by simp [p3],by simp;omega, ?_⟩⟩
 · rw[xH rfl,gf];rfl
 · intro i u d hu hd
   rcases key i u hu with ⟨rfl,rfl⟩|⟨hne,hu⟩
   · rw[abi,if_pos rfl,if_pos (by rw[←r.len];exact hk)]at hd
     obtain rfl:=wH hd
     have:(c++[x]).length=c.length+1:=by simp
     rw[this]
     exact p2.mono (by simp) fun j hj=>by rw[xC];rw[p6]at hj;have:=wH hj;omega
   · rw[abi,if_neg (fun q=>hne q.symm)]at hd
     exact(r.own i u d hu hd).mono (by simp [p3]) fun j hj=>by
      rw[xC (fun q=>r.ne i u hu (by rw[hj,q])),p5 j (fun q=>r.JX i k u v hne hu hv j hj q) (ju i u hu j hj)]
 · simp [r.len]
 · intro i u hu
   rcases key i u hu with ⟨rfl,rfl⟩|⟨hne,hu⟩
   · rw[p6];intro q;have:=wH q;omega
   · exact r.ne i u hu
 · intro i j u w hij hu hw id hid
   rcases key i u hu with ⟨e1,e2⟩|⟨hne,hu2⟩
   · rcases key j w hw with ⟨e3,e4⟩|⟨hne2,hw2⟩
     · exact absurd (e1.trans e3.symm) hij
     · intro q;have:=ju j w hw2 id q;rw[e2,p6]at hid;have:=wH hid;omega
   · rcases key j w hw with ⟨e3,e4⟩|⟨hne2,hw2⟩
     · intro q;have:=ju i u hu2 id hid;rw[e4,p6]at q;have:=wH q;omega
     · exact r.JX i j u w hij hu2 hw2 id hid
 · simpa [p3]using r.fl
 · simp [p3];have:=r.Yc;omega
 · intro i hi
   have:=r.fl
   rw[xC (by omega),p5 i (fun q=>by have:=(o.lt q).1;omega) (by have:=r.Yc;omega)]
theorem Ro.put {h:H} {f:Nat} {vs:List AV} {cs:List (List AV)} (r:Ro h f vs cs) (k i:Nat) {v:AV} {c:List AV} (hv:vs[k]?=some v) (hc:cs[k]?=some c) (x:AV) (sc:x.sc=true) (hi:i<c.length):
 ∃id,v=.aH id 0 c.length 1∧h.get id=some c∧h.floor≤id∧id≠f∧(∀(j:Nat) (u:AV),j≠k→vs[j]?=some u→u.id?≠some id)∧Ro (h.set id (c.set i x)) f vs (cs.set k (c.set i x))∧Lo h (h.set id (c.set i x)):=by
 have o:=r.own k v c hv hc
 rcases o.2 with ⟨_,q⟩|⟨id,q1,q2,q3,q4⟩
 · omega
 have hid:v.id?=some id:=by rw[q1];rfl
 have hne:id≠f:=fun q=>r.ne k v hv (by rw[hid,q])
 have hk:k<vs.length:=(wO.1 hv).1
 refine⟨id,q1,q2,q3,hne,fun j u hj hu q=>r.JX j k u v hj hu hv id q hid,⟨?_, ?_, ?_,r.ne,r.JX,by simpa using r.fl,by simpa using r.Yc⟩,⟨by simp,by simp,fun j hj=>by rw[xC (by omega)]⟩⟩
 · rw[xC hne.symm,r.get]
 · intro j u d hu hd
   by_cases e:k=j
   · subst e
     rw[hv]at hu
     obtain rfl:=wH hu
     rw[abi,if_pos rfl,if_pos (by rw[←r.len];exact hk)]at hd
     obtain rfl:=wH hd
     have lc:(c.set i x).length=c.length:=abz
     rw[lc]
     exact⟨by omega,.inr ⟨id,q1,by rw[xH rfl,q2];rfl,by simpa using q3,q4⟩⟩
   · rw[abi,if_neg e]at hd
     exact(r.own j u d hu hd).mono (by simp) fun m hm=>by rw[xC];intro q;subst q;exact r.JX j k u v (fun q=>e q.symm) hu hv m hm hid
 · simp [r.len]
def Z7 (F:List Bool):List AV:=F.map .bool
abbrev Z8 (W U:List Int) (F:List Bool):List (List AV):=[ints W,ints U,Z7 F]
theorem x8.cells {n:Nat} {h:H} {v:AV} {k:Nat} {cs:List AV} (o:x8 n h v k cs):v.cells=[v]:=by
 rcases o.2 with ⟨e,_⟩|⟨id,e,_⟩<;>rw[e]<;>rfl
def Aw (W:List Int) (F:List Bool):Nat→Nat→Int→Int
 |0,_,a=>a
 |m+1,i,a=>Aw W F m (i+1) (if F.getD i false=true∧(a<0∨W.getD i 0<W.getD a.toNat 0)then i else a)
def CQ (W:List Int) (F:List Bool):Nat:=(Aw W F W.length 0 (-1)).toNat
structure FS where
 W:List Int
 U:List Int
 F:List Bool
def FS.add (s:FS) (x:Int):FS:=⟨s.W++[x],s.U++[-1],s.F++[true]⟩
def FS.a (s:FS):Nat:=CQ s.W s.F
def FS.F1 (s:FS):List Bool:=s.F.set s.a false
def FS.b (s:FS):Nat:=CQ s.W s.F1
def FS.F2 (s:FS):List Bool:=s.F1.set s.b false
def FS.sum (s:FS):Int:=s.W.getD s.a 0+s.W.getD s.b 0
def FS.L4 (s:FS):FS:=FS.add ⟨s.W,(s.U.set s.a s.U.length).set s.b s.U.length,s.F2⟩ s.sum
structure FS.ok (s:FS):Prop where
 lu:s.U.length=s.W.length
 lf:s.F.length=s.W.length
 l1:0≤Aw s.W s.F s.W.length 0 (-1)
 l2:0≤Aw s.W s.F1 s.W.length 0 (-1)
 sm:0≤s.sum∧s.sum<1000000000000000
abbrev FS.C (s:FS):List (List AV):=Z8 s.W s.U s.F
def FS.LD:Nat→FS→FS
 |0,s=>s
 |n+1,s=>FS.LD n s.L4
def Yd (ws:List Int):FS:=⟨ws,List.replicate ws.length (-1),List.replicate ws.length true⟩
def YF (U:List Int):Nat→Int→Nat
 |0,_=>0
 |m+1,j=>if 0≤j then YF U m (U.getD j.toNat (-1))+1 else 0
def Po (U:List Int):Prop:=∀j:Nat,j<U.length→U.getD j (-1)= -1∨((j:Int)<U.getD j (-1)∧U.getD j (-1)<U.length)
def YV (U:List Int) (n:Nat):List Int:=(List.range n).map fun i=>((YF U U.length (U.getD i (-1)):Nat):Int)
def Eu (ws:List Int):List Int:=YV (FS.LD (ws.length-1) (Yd ws)).U ws.length
def L5 (u v:AV):Prop:=∀j,u.id?=some j→v.id?≠some j
theorem L5.symm {u v:AV} (a:L5 u v):L5 v u:=fun j h q=>a j q h
def Hz:Nat→List Int→List Int
 |_,[]=>[]
 |i,c::r=>if 0<c then(i:Int)::Hz (i+1) r else Hz (i+1) r
def N1:List Int→List Int
 |[]=>[]
 |c::r=>if 0<c then c::N1 r else N1 r
theorem x8.zK {h:H} {v:AV} {cs:List AV} (o:x8 1 h v cs.length cs):Rd h v cs:=⟨o.rd.1,o.rd.2.2⟩
theorem x8.Zc {h:H} {v:AV} {l:List Int} (o:x8 1 h v l.length (ints l)):Rd h v (ints l):=by
 refine x8.zK ?_
 rw[rk];exact o
def Jz:List Int→List Int→List Int→List Int
 |s::ss,d::ds,o=>Jz ss ds (o.set s.toNat d)
 |_,_,o=>o
def U8:List Int→Int→Int
 |[],m=>m
 |d::ds,m=>U8 ds (yX m d)
def Ye (w:Int):Int:=(w+1)/2
def PI (ws:List Int):List Int:=ws.map Ye
def PU (ws:List Int):Prop:=ws=[]∨(1≤ws.length∧ws.length≤288∧(∀k,k<ws.length-1→(FS.LD k (Yd ws)).ok)∧Po (FS.LD (ws.length-1) (Yd ws)).U∧(FS.LD (ws.length-1) (Yd ws)).U.length=(FS.LD (ws.length-1) (Yd ws)).W.length)
def PM (S:List Int):Nat→List Int→List Int→List Int
 |0,W,O=>Jz S (Eu W) O
 |K+1,W,O=>PM S K (PI W) (Jz S (Eu W) O)
inductive DM (most:Int):Nat→List Int→Prop
 |last {W:List Int}:PU W→U8 (Eu W) 0≤most→DM most 0 W
 |more {K:Nat} {W:List Int}:PU W→most<U8 (Eu W) 0→W≠[]→DM most K (PI W)→DM most (K+1) W
def Y9 (S:List Int):List Int:=if S.length=1 then(if 0<S.getD 0 0 then [0,S.getD 0 0]else S++[1])else S
def Za (S W:List Int):List Int:=if S.length=1 then(if 0<S.getD 0 0 then [1,W.getD 0 0]else W++[1])else W
def Yf (C:List Int):List Int:=Y9 (Hz 0 C)
def Kd (C:List Int):List Int:=Za (Hz 0 C) (N1 C)
def MW (C:List Int) (K:Nat):List Int:=PM (Yf C) K (Kd C) (List.replicate C.length 0)
theorem Fe (W : List Int) (F : List Bool) : ∀ (m i : Nat) (a : Int), (a = -1 ∧ (∀ j, j < i → F.getD j false = false)) ∨ (∃ k : Nat, a = k ∧ k < i ∧ F.getD k false = true ∧ ∀ j, j < i → F.getD j false = true → W.getD k 0 ≤ W.getD j 0) →
 (Aw W F m i a= -1∧(∀j,j<i+m→F.getD j false=false))∨(∃k:Nat,Aw W F m i a=k∧k<i+m∧F.getD k false=true∧∀j,j<i+m→F.getD j false=true→W.getD k 0≤W.getD j 0)
 |0,i,a,h=>by simpa [Aw]using h
 | m + 1, i, a, h => by
   rw[Aw]
   have e:i+(m+1)=i+1+m:=by omega
   rw[e]
   refine Fe W F m (i+1) _ ?_
   by_cases c:F.getD i false=true∧(a<0∨W.getD i 0<W.getD a.toNat 0)
   · rw [if_pos c]
     refine .inr ⟨i,rfl,by omega,c.1,fun j hj hf=> ?_⟩
     by_cases q:j=i
     · subst q;exact Int.le_refl _
     · rcases h with ⟨_,h2⟩|⟨k,rfl,h1,h2,h3⟩
       · rw[h2 j (by omega)]at hf;cases hf
       · have:=h3 j (by omega) hf
         have tk:((k:Nat):Int).toNat=k:=by omega
         rw[tk]at c
         have:=c.2
         omega
   · rw [if_neg c]
     rcases h with ⟨rfl,h2⟩|⟨k,rfl,h1,h2,h3⟩
     · refine .inl ⟨rfl,fun j hj=> ?_⟩
       by_cases q:j=i
       · subst q
         cases e:F.getD j false with
         |false=>rfl
         |true=>exact absurd ⟨e,.inl (by omega)⟩ c
       · exact h2 j (by omega)
     · refine .inr ⟨k,rfl,by omega,h2,fun j hj hf=> ?_⟩
       by_cases q:j=i
       · subst q
         have tk:((k:Nat):Int).toNat=k:=by omega
         rw[tk]at c
         have:¬(W.getD j 0<W.getD k 0):=fun x=>c ⟨hf,.inr x⟩
         omega
       · exact h3 j (by omega) hf
theorem Ff {W:List Int} {F:List Bool} (hl:F.length=W.length) {i:Nat} (hi:F.getD i false=true):0≤Aw W F W.length 0 (-1)∧CQ W F<W.length∧F.getD (CQ W F) false=true∧∀j,F.getD j false=true→W.getD (CQ W F) 0≤W.getD j 0:=by
 have hiL:∀j,F.getD j false=true→j<F.length:=by
  intro j hj
  rw[aaZ]at hj
  cases e:F[j]? with
  |none=>rw[e]at hj;cases hj
  |some b=>exact(wO.1 e).1
 rcases Fe W F W.length 0 (-1) (.inl ⟨rfl,fun j hj=>by omega⟩)with ⟨_,h2⟩|⟨k,h1,h2,h3,h4⟩
 · have:=h2 i (by have:=hiL i hi;omega)
   rw[hi]at this;cases this
 · have ek:CQ W F=k:=by unfold CQ;rw[h1];omega
   rw[ek]
   exact⟨by omega,by omega,h3,fun j hj=>h4 j (by have:=hiL j hj;omega) hj⟩
def Vo (U:List Int):Nat→Nat→Nat→Prop
 |0,i,r=>i=r
 |d+1,i,r=>∃j:Nat,U[i]?=some (j:Int)∧Vo U d j r
theorem Fz {U:List Int}:∀{d i r:Nat} {j:Nat},Vo U d i r→U[r]?=some (j:Int)→Vo U (d+1) i j
 | 0, i, r, j, h, hj => by
   have:i=r:=h
   subst this
   exact⟨j,hj,rfl⟩
 |d+1,i,r,j,⟨k,h1,h2⟩,hj=>⟨k,h1,Fz h2 hj⟩
def A8 (U:List Int) (a b:Nat):List Int:=(U.set a U.length).set b U.length++[-1]
theorem Gl (U:List Int) (a b:Nat):(A8 U a b).length=U.length+1:=by simp [A8]
theorem DX {U:List Int} {a b i:Nat} (hi:i<U.length) (ha:a≠i) (hb:b≠i):(A8 U a b)[i]?=U[i]?:=by
 unfold A8
 rw[abf (by simpa using hi),abi,if_neg hb,abi,if_neg ha]
theorem Ka {U:List Int} {a b:Nat} (ha:a<U.length):(A8 U a b)[a]?=some (U.length:Int):=by
 unfold A8
 rw[abf (by simpa using ha),abi]
 split
 · rename_i e;subst e;simp [ha]
 · rw[abi,if_pos rfl,if_pos ha]
theorem Kb {U:List Int} {a b:Nat} (hb:b<U.length):(A8 U a b)[b]?=some (U.length:Int):=by
 unfold A8
 rw[abf (by simpa using hb),abi,if_pos rfl,if_pos (by simpa using hb)]
theorem Kc {U:List Int} {a b:Nat}:(A8 U a b)[U.length]?=some (-1):=by
 unfold A8
 rw[abj (by simp)];simp
theorem Dz {U:List Int} {a b:Nat} (ha:U[a]?=some (-1)) (hb:U[b]?=some (-1)):∀{d i r:Nat},Vo U d i r→Vo (A8 U a b) d i r
 |0,i,r,h=>h
 | d + 1, i, r, ⟨j, h1, h2⟩ => by
   refine⟨j, ?_,Dz ha hb h2⟩
   rw[DX (wO.1 h1).1 (fun e=>by rw[e,h1]at ha;have:=wH ha;omega) (fun e=>by rw[e,h1]at hb;have:=wH hb;omega),h1]
theorem LX {U : List Int} {a b : Nat} (ha : a < U.length) (hb : b < U.length) (up : Po U) : Po (A8 U a b) := by
 intro j hj
 rw[Gl]at hj ⊢
 by_cases e:j=U.length
 · subst e
   left
   rw[aaZ,Kc];rfl
 · by_cases ea:a=j
   · subst ea
     right
     rw[aaZ,Ka ha]
     simp;omega
   · by_cases eb:b=j
     · subst eb
       right
       rw[aaZ,Kb hb]
       simp;omega
     · have:=up j (by omega)
       rw[aaZ,DX (by omega) ea eb,←aaZ]
       omega
theorem FS.Yk (s:FS):s.L4.U=A8 s.U s.a s.b:=rfl
abbrev Tr:=Nat×List (Nat×Nat)
def kr (D:Nat) (l:List (Nat×Nat)):Nat:=(l.map fun p=>2^(D-p.2)).sum
structure EI (bal:Bool) (n:Nat) (tot:Int) (s:FS) (T:List Tr):Prop where
 lu:s.U.length=s.W.length
 lf:s.F.length=s.W.length
 root:∀t∈T,s.F.getD t.1 false=true∧s.U[t.1]?=some (-1)
 free:∀i,s.F.getD i false=true→∃t∈T,t.1=i
 nd:(T.map (·.1)).Nodup
 pt:∀t∈T,∀p∈t.2,Vo s.U p.2 p.1 t.1
 leaves:(T.flatMap fun t=>t.2.map (·.1)).Perm (List.range n)
 Ih:∀t∈T,∀D,(∀p∈t.2,p.2≤D)→kr D t.2=2^D
 ne:∀t∈T,t.2≠[]
 LY:∀t∈T,1≤s.W.getD t.1 0
 up:Po s.U
 sum:(T.map fun t=>s.W.getD t.1 0).sum=tot
 Ob:bal=true→∀t∈T,∀u∈T,s.W.getD t.1 0≤2* s.W.getD u.1 0
 Mh:bal=true→∀t∈T,∀p∈t.2,(3:Int)^p.2≤s.W.getD t.1 0* 2^p.2
theorem LJ {l l':List Int} (p:l.Perm l'):l.sum=l'.sum:=by
 induction p with
 |nil=>rfl
 |cons x _ ih=>simp only[List.sum_cons,ih]
 |swap x y l=>simp only[List.sum_cons];omega
 |trans _ _ h1 h2=>exact h1.trans h2
theorem EI.perm {bal:Bool} {n:Nat} {tot:Int} {s:FS} {T T':List Tr} (v:EI bal n tot s T) (p:T.Perm T'):EI bal n tot s T' where
 lu:=v.lu
 lf:=v.lf
 root t h:=v.root t (p.mem_iff.2 h)
 free i h:=by
  obtain⟨t,h1,h2⟩:=v.free i h
  exact⟨t,p.mem_iff.1 h1,h2⟩
 nd:=(p.map _).nodup_iff.1 v.nd
 pt t h:=v.pt t (p.mem_iff.2 h)
 leaves:=((p.flatMap_right _).symm).trans v.leaves
 Ih t h:=v.Ih t (p.mem_iff.2 h)
 ne t h:=v.ne t (p.mem_iff.2 h)
 LY t h:=v.LY t (p.mem_iff.2 h)
 up:=v.up
 sum:=by rw[←v.sum];exact(LJ (p.map _)).symm
 Ob hb t h u h2:=v.Ob hb t (p.mem_iff.2 h) u (p.mem_iff.2 h2)
 Mh hb t h:=v.Mh hb t (p.mem_iff.2 h)
def BJ (l:List (Nat×Nat)):List (Nat×Nat):=l.map fun p=>(p.1,p.2+1)
theorem Lu {D:Nat} {l:List (Nat×Nat)}:kr (D+1) (BJ l)=kr D l:=by
 unfold kr BJ
 rw[abw]
 congr 1
 refine List.map_congr_left fun p _=> ?_
 show 2^(D+1-(p.2+1))=_
 rw[Nat.add_sub_add_right]
theorem U1 (D:Nat) (a b:List (Nat×Nat)):kr D (a++b)=kr D a+kr D b:=by simp [kr]
theorem getD_set_ne {α:Type} {l:List α} {i j:Nat} {x d:α} (h:i≠j):(l.set i x).getD j d=l.getD j d:=by
 rw[aaZ,abi,if_neg h,←aaZ]
theorem CO {l:List Bool} {i:Nat}:(l.set i false).getD i false=false:=by
 rw[aaZ,abi,if_pos rfl]
 split<;>rfl
theorem EI.two {bal:Bool} {n:Nat} {tot:Int} {s:FS} {T:List Tr} (v:EI bal n tot s T) (h2:2≤T.length):
 ∃ta tb T2,T.Perm (ta::tb::T2)∧ta.1=s.a∧tb.1=s.b∧0≤Aw s.W s.F s.W.length 0 (-1)∧0≤Aw s.W s.F1 s.W.length 0 (-1)∧s.W.getD s.a 0≤s.W.getD s.b 0∧(∀t∈T2,s.W.getD s.b 0≤s.W.getD t.1 0):=by
 obtain⟨t0,t1,T0,rfl⟩:∃t0 t1 T0,T=t0::t1::T0:=by
  match T,h2 with
  |t0::t1::T0,_=>exact⟨t0,t1,T0,rfl⟩
 obtain⟨l1,la,fa,ma⟩:=Ff v.lf (v.root t0 (by simp)).1
 obtain⟨ta,hta,ea⟩:=v.free _ fa
 have p1:=List.perm_cons_erase hta
 have v1:=v.perm p1
 obtain⟨T1,eT1⟩:∃T1,T1=(t0::t1::T0).erase ta:=⟨_,rfl⟩
 rw[←eT1]at p1 v1
 have lT1:T1≠[]:=by
  intro e
  have:=p1.length_eq
  rw[e]at this
  simp at this
 obtain⟨tx,hx⟩:=List.exists_mem_of_ne_nil _ lT1
 have nd1:∀t∈T1,t.1≠ta.1:=by
  intro t ht e
  have:=v1.nd
  rw[aa5,List.nodup_cons]at this
  exact this.1 (aa6.2 ⟨t,ht,e⟩)
 have f1:∀t∈T1,s.F1.getD t.1 false=true:=by
  intro t ht
  have:=(v1.root t (by simp [ht])).1
  show(s.F.set s.a false).getD t.1 false=true
  rw[getD_set_ne (by have:=nd1 t ht;intro e;exact this (by rw[ea,←e];rfl)),this]
 obtain⟨l2,lb,fb,mb⟩:=Ff (W:=s.W) (F:=s.F1) (by show(s.F.set s.a false).length=_;rw[abz];exact v.lf) (f1 tx hx)
 have hnb:s.a≠s.b:=by
  intro e
  have fb':s.F1.getD s.b false=true:=fb
  rw[←e]at fb'
  have:(s.F.set s.a false).getD s.a false=true:=fb'
  rw[CO]at this;cases this
 have fb2:s.F.getD s.b false=true:=by
  have fb':(s.F.set s.a false).getD s.b false=true:=fb
  rwa [getD_set_ne hnb]at fb'
 obtain⟨tb,htb,eb⟩:=v1.free _ fb2
 have htb1:tb∈T1:=by
  rcases xn.1 htb with q|q
  · subst q;exact absurd (ea.symm.trans eb) hnb
  · exact q
 have p2:=List.perm_cons_erase htb1
 refine⟨ta,tb,T1.erase tb,p1.trans (p2.cons ta),ea,eb,l1,l2,ma _ fb2,fun t ht=>mb _ (f1 t (List.mem_of_mem_erase ht))⟩
theorem EI.Vz {bal : Bool} {n : Nat} {tot : Int} {s : FS} {T T2 : List Tr} {ta tb : Tr} (v : EI bal n tot s T) (p : T.Perm (ta :: tb :: T2)) (ea : ta.1 = s.a) (eb : tb.1 = s.b) (l1 : 0 ≤ Aw s.W s.F s.W.length 0 (-1)) (l2 : 0 ≤ Aw s.W s.F1 s.W.length 0 (-1)) (wab : s.W.getD s.a 0 ≤ s.W.getD s.b 0) (wbt : ∀ t ∈ T2, s.W.getD s.b 0 ≤ s.W.getD t.1 0) (ht : tot < 1000000000000000) : s.ok ∧ EI bal n tot s.L4 ((s.U.length, BJ (ta.2 ++ tb.2)) :: T2) := by
 have lT:=p.length_eq
 have v1:=v.perm p
 have nd:=v1.nd
 rw[aa5,aa5,List.nodup_cons,List.nodup_cons]at nd
 obtain⟨nd1,nd2,nd3⟩:=nd
 have ra:=v1.root ta (by simp)
 have rb:=v1.root tb (by simp)
 rw[ea]at ra
 rw[eb]at rb
 have hla:s.a<s.U.length:=(wO.1 ra.2).1
 have hlb:s.b<s.U.length:=(wO.1 rb.2).1
 have wa:=v1.LY ta (by simp)
 have wb1:=v1.LY tb (by simp)
 rw[ea]at wa
 rw[eb]at wb1
 have sm:=v1.sum
 rw[aa5,aa5,List.sum_cons,List.sum_cons,ea,eb]at sm
 have nn:0≤(T2.map fun t=>s.W.getD t.1 0).sum:=by
  have:∀l:List Tr,(∀t∈l,1≤s.W.getD t.1 0)→0≤(l.map fun t=>s.W.getD t.1 0).sum:=by
   intro l
   induction l with
   |nil=>intro _;simp
   |cons x l ih=>intro h;have:=ih fun t ht=>h t (by simp [ht]);have:=h x (by simp);simp only[aa5,List.sum_cons];omega
  exact this T2 fun t ht=>v1.LY t (by simp [ht])
 have es:s.sum=s.W.getD s.a 0+s.W.getD s.b 0:=rfl
 refine⟨⟨v.lu,v.lf,l1,l2,by omega⟩, ?_⟩
 have nT2:∀t∈T2,t.1≠s.a∧t.1≠s.b∧t.1<s.U.length:=fun t ht=>⟨fun e=>nd1 (by simp only[xn,aa6];exact .inr ⟨t,ht,by rw[e,ea]⟩),fun e=>nd2 (aa6.2 ⟨t,ht,by rw[e,eb]⟩),(wO.1 (v1.root t (by simp [ht])).2).1⟩
 have mW:∀i,i<s.W.length→s.L4.W.getD i 0=s.W.getD i 0:=fun i hi=>by
  show(s.W++[s.sum]).getD i 0=_
  rw[aaZ,abf hi,←aaZ]
 have mWn:s.L4.W.getD s.U.length 0=s.sum:=by
  show(s.W++[s.sum]).getD s.U.length 0=_
  rw[v.lu,aaZ,abj (wU _)];simp
 have lF2:s.F2.length=s.W.length:=by show((s.F.set s.a false).set s.b false).length=_;rw[abz,abz,v.lf]
 have mF:∀i,i<s.W.length→s.L4.F.getD i false=s.F2.getD i false:=fun i hi=>by
  show(s.F2++[true]).getD i false=_
  rw[aaZ,abf (by omega),←aaZ]
 have mFn:s.L4.F.getD s.U.length false=true:=by
  show(s.F2++[true]).getD s.U.length false=_
  rw[v.lu,aaZ,abj (by omega),lF2];simp
 have F2o:∀i,i≠s.a→i≠s.b→s.F2.getD i false=s.F.getD i false:=fun i h1 h2=>by
  show((s.F.set s.a false).set s.b false).getD i false=_
  rw[getD_set_ne h2.symm,getD_set_ne h1.symm]
 have F2a:s.a≠s.b→s.F2.getD s.a false=false:=fun h=>by
  show((s.F.set s.a false).set s.b false).getD s.a false=_
  rw[getD_set_ne h.symm,CO]
 have F2b:s.F2.getD s.b false=false:=CO
 have hab:s.a≠s.b:=fun e=>nd1 (by simp only[xn];exact .inl (by rw[ea,eb,e]))
 have jl:∀p∈ta.2++tb.2,Vo (A8 s.U s.a s.b) (p.2+1) p.1 s.U.length:=fun q hq=>by
  rcases abA.1 hq with h|h
  · have:=v1.pt ta (by simp) q h
    rw[ea]at this
    exact Fz (Dz ra.2 rb.2 this) (Ka hla)
  · have:=v1.pt tb (by simp) q h
    rw[eb]at this
    exact Fz (Dz ra.2 rb.2 this) (Kb hlb)
 have lu:=v.lu
 have lf:=v.lf
 have getT2:∀t∈T2,s.L4.W.getD t.1 0=s.W.getD t.1 0:=fun t ht=>mW _ (by have:=(nT2 t ht).2.2;omega)
 have W2:∀t∈(s.U.length,BJ (ta.2++tb.2))::T2,(t.1=s.U.length∧t.2=BJ (ta.2++tb.2)∧s.L4.W.getD t.1 0=s.sum)∨(t∈T2∧s.L4.W.getD t.1 0=s.W.getD t.1 0):=fun t ht=>by
  rcases xn.1 ht with q|q
  · subst q;exact .inl ⟨rfl,rfl,mWn⟩
  · exact .inr ⟨q,getT2 t q⟩
 constructor
 · show(A8 s.U s.a s.b).length=(s.W++[s.sum]).length
   rw[Gl];simp [lu]
 · show(s.F2++[true]).length=(s.W++[s.sum]).length
   simp [lF2]
 · intro t ht
   rcases xn.1 ht with q|q
   · subst q
     exact⟨mFn,Kc⟩
   · have n:=nT2 t q
     have r:=v1.root t (by simp [q])
     refine⟨by rw[mF _ (by omega),F2o _ n.1 n.2.1];exact r.1, ?_⟩
     rw[FS.Yk,DX n.2.2 n.1.symm n.2.1.symm];exact r.2
 · intro i hi
   by_cases e:i=s.U.length
   · exact⟨_,List.mem_cons_self ..,e.symm⟩
   · have hiL:i<s.W.length:=by
      apply Classical.byContradiction
      intro c
      have:s.L4.F.length=s.W.length+1:=by show(s.F2++[true]).length=_;simp [lF2]
      rw[aaZ,List.getElem?_eq_none (by omega)]at hi
      cases hi
     rw[mF i hiL]at hi
     have h1:i≠s.a:=fun q=>by rw[q,F2a hab]at hi;cases hi
     have h2:i≠s.b:=fun q=>by rw[q,F2b]at hi;cases hi
     rw[F2o i h1 h2]at hi
     obtain⟨t,ht,et⟩:=v1.free i hi
     rcases xn.1 ht with q|q
     · subst q;exact absurd (et.symm.trans ea) h1
     · rcases xn.1 q with q|q
       · subst q;exact absurd (et.symm.trans eb) h2
       · exact⟨t,List.mem_cons_of_mem _ q,et⟩
 · rw[aa5,List.nodup_cons]
   refine⟨fun hm=> ?_,nd3⟩
   obtain⟨t,ht,e⟩:=aa6.1 hm
   have:=(nT2 t ht).2.2
   rw[e]at this
   exact absurd this (by simp)
 · intro t ht
   rcases xn.1 ht with q|q
   · subst q
     intro q hq
     obtain⟨q',hq',rfl⟩:=aa6.1 hq
     exact jl q' hq'
   · intro x hx
     exact Dz ra.2 rb.2 (v1.pt t (by simp [q]) x hx)
 · have lv:=v1.leaves
   refine List.Perm.trans ?_ lv
   rw[abh,abh,abh,←List.append_assoc]
   have:(BJ (ta.2++tb.2)).map (·.1)=ta.2.map (·.1)++tb.2.map (·.1):=by
    unfold BJ;rw[abw,abg];rfl
   rw[this]
 · intro t ht
   rcases xn.1 ht with q|q
   · subst q
     intro D hD
     have hne:=v1.ne ta (by simp)
     obtain⟨x,hx⟩:=List.exists_mem_of_ne_nil _ hne
     have h1:=hD (x.1,x.2+1) (aa6.2 ⟨x,List.mem_append_left _ hx,rfl⟩)
     obtain⟨D,rfl⟩:∃E,D=E+1:=⟨D-1,by simp at h1;omega⟩
     rw[Lu,U1]
     rw[v1.Ih ta (by simp) D fun y hy=>by have:=hD (y.1,y.2+1) (aa6.2 ⟨y,List.mem_append_left _ hy,rfl⟩);simp at this;omega]
     rw[v1.Ih tb (by simp) D fun y hy=>by have:=hD (y.1,y.2+1) (aa6.2 ⟨y,List.mem_append_right _ hy,rfl⟩);simp at this;omega]
     rw[Nat.pow_succ];omega
   · exact v1.Ih t (by simp [q])
 · intro t ht
   rcases xn.1 ht with q|q
   · subst q
     have hne:=v1.ne ta (by simp)
     intro e
     have:BJ (ta.2++tb.2)=[]:=e
     unfold BJ at this
     rw[List.map_eq_nil_iff,List.append_eq_nil_iff]at this
     exact hne this.1
   · exact v1.ne t (by simp [q])
 · intro t ht
   rcases W2 t ht with ⟨_,_,e⟩|⟨q,e⟩
   · rw[e];omega
   · rw[e];exact v1.LY t (by simp [q])
 · exact LX hla hlb v.up
 · rw[aa5,List.sum_cons,mWn,List.map_congr_left getT2];omega
 · intro hb t ht u hu
   have b1:=v1.Ob hb
   have ba:=b1 tb (by simp) ta (by simp)
   rw[ea,eb]at ba
   rcases W2 t ht with ⟨_,_,e⟩|⟨q,e⟩
   · rcases W2 u hu with ⟨_,_,e'⟩|⟨q',e'⟩
     · rw[e,e'];omega
     · rw[e,e'];have:=wbt u q';omega
   · rcases W2 u hu with ⟨_,_,e'⟩|⟨q',e'⟩
     · rw[e,e'];have:=b1 t (by simp [q]) ta (by simp);rw[ea]at this;omega
     · rw[e,e'];exact b1 t (by simp [q]) u (by simp [q'])
 · intro hb t ht x hx
   have b1:=v1.Ob hb
   have ba:=b1 tb (by simp) ta (by simp)
   have bb:=b1 ta (by simp) tb (by simp)
   rw[ea,eb]at ba bb
   rcases W2 t ht with ⟨_,e2,e⟩|⟨q,e⟩
   · rw[e]
     rw[e2]at hx
     obtain⟨y,hy,rfl⟩:=aa6.1 hx
     have p2:(0:Int)<2^y.2:=Int.pow_pos (by omega)
     show(3:Int)^(y.2+1)≤s.sum* 2^(y.2+1)
     rw[Int.pow_succ,Int.pow_succ]
     have key:∀w:Int,(3:Int)^y.2≤w* 2^y.2→3* w≤2* s.sum→(3:Int)^y.2* 3≤s.sum* (2^y.2* 2):=fun w h1 h2=>by
      have a1:(3:Int)^y.2* 3≤(w* 2^y.2)* 3:=Int.mul_le_mul_of_nonneg_right h1 (by omega)
      have a2:(3* w)* 2^y.2≤(2* s.sum)* 2^y.2:=Int.mul_le_mul_of_nonneg_right h2 (by omega)
      have a3:(w* 2^y.2)* 3=(3* w)* 2^y.2:=by rw[Int.mul_comm 3 w,Int.mul_assoc,Int.mul_assoc,Int.mul_comm _ 3]
      have a4:s.sum* (2^y.2* 2)=(2* s.sum)* 2^y.2:=by rw[Int.mul_comm 2 s.sum,Int.mul_assoc,Int.mul_comm 2 (2^y.2)]
      omega
     rcases abA.1 hy with h|h
     · have:=v1.Mh hb ta (by simp) y h
       rw[ea]at this
       exact key _ this (by omega)
     · have:=v1.Mh hb tb (by simp) y h
       rw[eb]at this
       exact key _ this (by omega)
   · rw[e];exact v1.Mh hb t (by simp [q]) x hx
theorem EI.step {bal:Bool} {n:Nat} {tot:Int} {s:FS} {T:List Tr} (v:EI bal n tot s T) (h2:2≤T.length) (ht:tot<1000000000000000):s.ok∧∃T',T'.length+1=T.length∧EI bal n tot s.L4 T':=by
 obtain⟨ta,tb,T2,p,ea,eb,l1,l2,wab,wbt⟩:=v.two h2
 have lT:=p.length_eq
 obtain⟨a,b⟩:=v.Vz p ea eb l1 l2 wab wbt ht
 exact⟨a,_,by rw[lT];simp,b⟩
def T0 (n:Nat):List Tr:=(List.range n).map fun i=>(i,[(i,0)])
def OC (l:List Int) (i:Nat):List Int:=l.set i (l.getD i 0+1)
def YC (t:Tok):Prop:=(t.len=0∧0≤t.lit∧t.lit≤255)∨(3≤t.len∧t.len≤258∧1≤t.EX∧t.EX≤32768)
def W8:List Tok→List Int→List Int
 |[],A=>A
 |t::r,A=>W8 r (if t.len=0 then OC A t.lit.toNat else OC A (Yi t.len.toNat))
def W9:List Tok→List Int→List Int
 |[],B=>B
 |t::r,B=>W9 r (if t.len=0 then B else OC B (Xc t.EX.toNat))
structure VJ (h h':H) (a b:Nat):Prop where
 floor:h'.floor=h.floor
 next:h.next≤h'.next
 yR:∀i,i<h.next→i≠a→i≠b→h'.get i=h.get i
theorem VJ.refl (h:H) (a b:Nat):VJ h h a b:=⟨rfl,wU _,fun _ _ _ _=>rfl⟩
theorem VJ.trans {x y z:H} {a b:Nat} (p:VJ x y a b) (q:VJ y z a b):VJ x z a b:=⟨q.floor.trans p.floor,xq p.next q.next,fun i h1 h2 h3=>(q.yR i (Nat.lt_of_lt_of_le h1 p.next) h2 h3).trans (p.yR i h1 h2 h3)⟩
def Sr:List Int→List Int→List Int
 |[],C=>C
 |d::r,C=>Sr r (OC C d.toNat)
def dA (ts:List Tok):List Int:=W8 ts ((List.replicate 286 0).set 256 1)
def dB (ts:List Tok):List Int:=W9 ts (List.replicate 30 0)
def Xb (l:List Int) (k:Nat):List Int:=l.take (Qj l k l.length)
structure Zl (ts:List Tok) (KA KB KC:Nat) (la lb Lc:List Int):Prop where
 few:YX ts=true
 n:ts.length≤300
 tok:∀t∈ts,YC t
 ra:DM 15 KA (Kd (dA ts))
 rb:DM 15 KB (Kd (dB ts))
 ea:la=Xb (MW (dA ts) KA) 257
 eb:lb=Xb (MW (dB ts) KB) 1
 all:∀y∈la++lb,0≤y∧y<19
 rc:DM 7 KC (Kd (Sr (la++lb) (List.replicate 19 0)))
 ec:Lc=MW (Sr (la++lb) (List.replicate 19 0)) KC
 row:∀y∈Lc,0≤y∧y<8
 ca:yf la=0∨yf la=302
 cb:yf lb=0∨yf lb=302
 cc:yf Lc=0∨yf Lc=302
 Zr:∀y∈la++lb,OU (G8 Lc) y.toNat
 okt:∀t∈ts,okT (G8 la) (G8 lb) t
 Zq:OU (G8 la) 256
def f15 (n:Nat) (x:Int):Nat:=if 1≤x∧x≤n then 2^(n-x.toNat)else 0
def K0 (t:ByteArray) (p:Nat) (bs:List Nat):Prop:=p+bs.length≤8* t.size∧∀i,i<bs.length→yN t (p+i)=bs.getD i 0
theorem K0.app {t:ByteArray} {p:Nat} {a b:List Nat} (h:K0 t p (a++b)):K0 t p a∧K0 t (p+a.length) b:=by
 obtain⟨h1,h2⟩:=h
 rw[xu]at h1 h2
 refine⟨⟨by omega,fun i hi=> ?_⟩,⟨by omega,fun i hi=> ?_⟩⟩
 · have:=h2 i (by omega)
   rw[this,aaZ,aaZ,abf hi]
 · have:=h2 (a.length+i) (by omega)
   rw[wS,this,aaZ,aaZ,abj (by omega),Nat.add_sub_cancel_left]
theorem Mj {x b k j:Nat} (hb:b≤1) (hx:x<2^k):(x|||b* 2^k)/2^j%2=if j=k then b else x/2^j%2:=by
 rw[←Nat.toNat_testBit,←Nat.toNat_testBit,Nat.testBit_or]
 have hb':b=0∨b=1:=by omega
 rcases hb' with rfl|rfl
 · rw[Nat.zero_mul,Nat.zero_testBit,Bool.or_false]
   split
   · rename_i e;subst e
     rw[Nat.testBit_lt_two_pow hx];rfl
   · rfl
 · rw[Nat.one_mul,Nat.testBit_two_pow]
   split
   · rename_i e;subst e;simp
   · rename_i e
     have:decide (k=j)=false:=by simp;omega
     rw[this,Bool.or_false]
structure Qm (out:List Nat) (bs:List Nat):Prop where
 len:out.length=(bs.length+7)/8
 bit:∀j,j<bs.length→out.getD (j/8) 0/2^(j%8)%2=bs.getD j 0
 top:bs.length%8≠0→out.getD (bs.length/8) 0<2^(bs.length%8)
theorem Qm.step {out bs : List Nat} {b : Nat} (hb : b ≤ 1) (v : Qm out bs) : Qm (Cz out bs.length b) (bs ++ [b]) := by
 obtain⟨len,bit,top⟩:=v
 obtain⟨n,hn⟩:∃n,n=bs.length:=⟨_,rfl⟩
 rw[←hn]at len bit top ⊢
 obtain⟨o,ho⟩:∃o,o=if n%8=0 then out++[0]else out:=⟨_,rfl⟩
 have es:Cz out n b=o.set (n/8) (o.getD (n/8) 0|||b* 2^(n%8)):=by rw[ho];rfl
 have ol:n/8<o.length:=by
  rw[ho];split
  · rw[xu,len];simp;omega
  · rw[len];omega
 have og:∀j,j<n→o.getD (j/8) 0=out.getD (j/8) 0:=fun j hj=>by
  rw[ho];split
  · rw[aaZ,abf (by omega),←aaZ]
  · rfl
 have ox:o.getD (n/8) 0<2^(n%8):=by
  by_cases c:n%8=0
  · rw[ho,if_pos c,aaZ,abj (by omega),c]
    have:n/8-out.length=0:=by omega
    rw[this];simp
  · rw[ho,if_neg c];exact top c
 have gn:∀m,(Cz out n b).getD m 0=if m=n/8 then o.getD (n/8) 0|||b* 2^(n%8)else o.getD m 0:=fun m=>by
  rw[es]
  by_cases e:m=n/8
  · subst e
    rw[if_pos rfl,aaZ,abi,if_pos rfl,if_pos ol];rfl
  · rw[if_neg e,getD_set_ne (fun q=>e q.symm)]
 have bl:(bs++[b]).length=n+1:=by simp [hn]
 refine⟨by rw[bl,Iy len],fun j hj=> ?_,fun hc=> ?_⟩
 · rw [bl] at hj
   rw[gn]
   by_cases e:j=n
   · subst e
     rw[if_pos rfl,Mj hb ox,if_pos rfl,aaZ,hn,abj (wU _)];simp
   · have hjn:j<n:=by omega
     have gb:(bs++[b]).getD j 0=bs.getD j 0:=by rw[aaZ,abf (by omega),←aaZ]
     rw[gb,←bit j hjn,←og j hjn]
     split
     · rename_i e2
       rw[Mj hb ox,if_neg (by omega),e2]
     · rfl
 · rw[bl]at hc ⊢
   have e8:(n+1)/8=n/8:=by omega
   have m8:(n+1)%8=n%8+1:=by omega
   rw[gn,e8,if_pos rfl,m8,Jx ox,Nat.pow_succ]
   have:b* 2^(n%8)≤1* 2^(n%8):=wW _ hb
   omega
theorem KO {t:ByteArray} {p:Nat} {v:Nat}:∀(n:Nat),(∀i,i<n→yN t (p+i)=v/2^i%2)→xJ t p n=v%2^n
 |0,h=>by simp [xJ,Nat.mod_one]
 | n + 1, h => by
   rw[xJ,KO n fun i hi=>h i (by omega),h n (by omega),Nat.pow_succ,Nat.mod_mul,Nat.mul_comm]
theorem ID (v:Nat):∀m i j,j<m→(LM v i m).getD j 0=v/2^(i+j)%2
 |0,i,j,h=>by omega
 |m+1,i,0,h=>rfl
 | m + 1, i, j + 1, h => by
   show(LM v (i+1) m).getD j 0=_
   rw[ID v m (i+1) j (by omega)]
   congr 3;omega
theorem K0.put {t:ByteArray} {p v n:Nat} (h:K0 t p (Yu v n)) (hv:v<2^n):xJ t p n=v∧p+n≤8* t.size:=by
 obtain⟨h1,h2⟩:=h
 unfold Yu at h1 h2
 rw[IE]at h1 h2
 refine⟨?_,h1⟩
 rw[KO n fun i hi=>by rw[h2 i hi,ID v n 0 i hi,wY],Nat.mod_eq_of_lt hv]
structure Z2 (l:List Int):Prop where
 left:0≤yj l 15
 rng:∀y∈l,0≤y∧y<16
theorem IB (s:ByteArray):∀L:List xP,(xO s L).1≤L.length∧((xO s L).2=true→∃x,L[(xO s L).1]?=some x∧x.name.toList=s.toList)
 |[]=>⟨wU _,fun q=>by cases q⟩
 | x :: r => by
   obtain⟨a,b⟩:=IB s r
   unfold xO
   split
   · exact⟨by simpa using a,fun q=>by simpa using b q⟩
   · exact⟨Nat.zero_le _,fun q=>⟨x,rfl,by simpa using q⟩⟩
theorem GS (x:xP) (r:List xP) (k:Nat) (b:Bool) (e:xP):Bc (x::r) (k+1) b e=x::Bc r k b e:=by
 unfold Bc
 cases b<;>simp
theorem Lz {a b:xP} (h:a.name.toList=b.name.toList):∀r:List xP,yC (some a) r=yC (some b) r
 |[]=>rfl
 |y::r=>by rw[yC,yC,Di,Di,h]
theorem LC (e : xP) (h1 : yI e.name = true) (h2 : yy e = true) (h3 : zm e = true) : ∀ (L : List xP) (p : Option xP), yC p L = true → CT p e = true → yC p (Bc L (xO e.name L).1 (xO e.name L).2 e) = true := by
 have ok:∀p,CT p e=true→zt p e=true:=fun p hp=>by rw[Dg,hp,Ej,h1,h2,h3];rfl
 intro L
 induction L with
 |nil=>intro p _ hp;show(zt p e&&true)=true;rw[ok p hp];rfl
 | cons x r ih =>
   intro p hm hp
   rw[yC,wT]at hm
   unfold xO
   split
   · rename_i hc
     rw[GS,yC,hm.1,aa3]
     exact ih _ hm.2 hc
   · rename_i hc
     have hc':Op.bytesLess x.name.toList e.name.toList=false:=by simpa using hc
     cases hb:(x.name.toList==e.name.toList)with
     | true =>
       have hb':x.name.toList=e.name.toList:=by simpa using hb
       show(zt p e&&yC (some e) r)=true
       rw[ok p hp,aa3,←Lz hb'];exact hm.2
     | false =>
       show(zt p e&&(zt (some e) x&&yC (some x) r))=true
       rw[ok p hp,hm.2,aa3,abD,Dg]
       have a:=hm.1
       rw[Dg,wT]at a
       rw[a.1,aa3]
       show Op.bytesLess e.name.toList x.name.toList=true
       rw[zX x.name.toList e.name.toList,hc',hb];rfl
theorem M5 {L:List xP} {k:Nat} {b:Bool} {e x:xP} (h:x∈Bc L k b e):x=e∨x∈L:=by
 unfold Bc at h
 cases b with
 | true =>
   rcases List.mem_or_eq_of_mem_set h with h|h
   · exact .inr h
   · exact .inl h
 | false =>
   rcases abA.1 h with h|h
   · exact .inr (List.mem_of_mem_take h)
   · rcases xn.1 h with h|h
     · exact .inl h
     · exact .inr (List.mem_of_mem_drop h)
theorem F6 {a b:ByteArray} (h:a.toList=b.toList):a=b:=by
 rw[Ac,Ac]at h
 exact ByteArray.ext (Array.toList_inj.1 h)
theorem Ot (h:H) (v:AV) (l:List xN) (hvs:v.sc=true) (hn:l.length<1125899906842624) (rd:yM 9 h v l.length (xG l)) (hv:∀x∈l,yF h x∧x.2.sc=true) (hm:l.length≤6→yK (l.map (·.1))=true):aU AP.A 211 [.agg [v]] h=some (.bool (decide (l.length≤6)),h):=by
 obtain⟨h1,eh1⟩:∃g,g=h.eO.alloc [v]:=⟨_,rfl⟩
 have hx0:Ext h h1:=by rw[eh1];exact fun i c q=>((Ext.refl h.eO).alloc _) i c q
 have hn0:h.eO.next=h.next:=rfl
 have g1:h1.get h.next=some [v]:=by rw[eh1];exact xE rfl
 have zK:=rd.mono fun i c q=>hx0 i c q
 have ln:=zK.len
 refine vP (fn:=AP.f211) (h2:=h1) (e:=[(2,.bool (decide (l.length≤6)))]) rfl rfl rfl ?_ rfl rfl
 by_cases c:l.length≤6
 · have c':(l.length:Int)≤6:=by omega
   have hm':=hm c
   have k1:=JZ h1 v l hvs hn zK (fun x hx=>⟨(hv x hx).1.mono hx0,(hv x hx).2⟩) hm'
   obtain⟨_,_,m3⟩:=yu hm'
   generalize zM (l.map (·.1))=N at *
   have c2:(N:Int)≤4096:=by omega
   rw[dt c]
   clear rd zK hv hx0 hm hm'
   simp (disch:=omega)only[go_sem,xF,AP.f211,hvs,hn0,←eh1,g1,ln,yx,k1,dt c',dt c2]
 · have c':¬(l.length:Int)≤6:=by omega
   rw[df c]
   clear rd zK hv hx0 hm
   simp (disch:=omega)only[go_sem,xF,AP.f211,hvs,hn0,←eh1,g1,ln,df c']
def B5 (a b:xP):Bool:=Al a {b with vec:=a.vec}
theorem N7 (h:H) (a b:xP) (v w:AV) (sa:v.sc=true) (sb:w.sc=true) (ra:yF h (a,v)) (rb:yF h (b,w)):aU AP.A 280 [.agg (xA a v),.agg (xA b w)] h=some (.bool (B5 a b),h):=by
 obtain⟨h1,eh1⟩:∃g,g=h.eO.alloc (xA a v):=⟨_,rfl⟩
 obtain⟨h2,eh2⟩:∃g,g=h1.alloc (xA b w):=⟨_,rfl⟩
 obtain⟨h3,eh3⟩:∃g,g=h2.set (h.next+1) (xA {b with vec:=a.vec} v):=⟨_,rfl⟩
 have n0:h.eO.next=h.next:=rfl
 have n1:h1.next=h.next+1:=by rw[eh1];simp
 have f2:h2.floor=h.next:=by rw[eh2,eh1];simp
 have x2:Ext h h2:=fun i c q=>by rw[eh2,eh1];exact(((Ext.refl h.eO).alloc _).alloc _) i c q
 have gA:h2.get h.next=some (xA a v):=by rw[eh2,xI (by omega),eh1];exact xE rfl
 have gB:h2.get (h.next+1)=some (xA b w):=by rw[eh2,xE (by omega)]
 have st:vR h2 (h.next+1) 2 1 [v] (some (xA b w))=some h3:=by rw[wx (by omega) (by show 2<9;omega) sa,eh3];rfl
 have gA3:h3.get h.next=some (xA a v):=by rw[eh3,xC (by omega)];exact gA
 have gB3:h3.get (h.next+1)=some (xA {b with vec:=a.vec} v):=by rw[eh3,xH rfl,gB];rfl
 have x3:Ext h h3:=fun i c q=>by have:=h.lt _ _ q;rw[eh3,xC (by omega)];exact x2 i c q
 have ra3:=ra.mono x3
 have ks:=Hu h3 a {b with vec:=a.vec} v v sa sa ra3 ⟨ra3.vec,ra3.vl,rb.nl,rb.pl⟩
 refine vP (fn:=AP.f280) (h2:=h3) (e:=[(4,.bool (B5 a b))]) rfl rfl rfl ?_ rfl rfl
 have e2:(xA a v)[2]?=some v:=rfl
 have lA:(xA a v).length=9:=rfl
 have tA:List.take 9 (xA a v)=xA a v:=rfl
 have lB:(xA b w).length=9:=rfl
 have lC:(xA {b with vec:=a.vec} v).length=9:=rfl
 have tC:List.take 9 (xA {b with vec:=a.vec} v)=xA {b with vec:=a.vec} v:=rfl
 have cA:AV.aE (xA a v)=true:=yH sa
 have cB:AV.aE (xA b w)=true:=yH sb
 have cv:=ye sa
 have z1:=eh1.symm
 have z2:=eh2.symm
 have ks':aU AP.A 98 [.agg (xA a v),.agg (xA {b with vec:=a.vec} v)] h3=some (.bool (B5 a b),h3):=ks
 clear ra rb ra3 x2 x3 eh1 eh2 eh3 ks
 generalize B5 a b=B at *
 generalize xA {b with vec:=a.vec} v=C at *
 generalize xA a v=A at *
 generalize xA b w=D at *
 simp (disch:=omega)only[go_sem,xF,AP.f280,n0,z1,lA,cA,n1,lB,cB,z2,gA,e2,gB,st,gA3,gB3,LO,zg,tA,lC,tC,aa8,ks',sa,cv]
def It (a b:xP):xP:={(if Ae a b then b else a)with vec:=yw a.vec b.vec}
def A6 (s:ByteArray) (L:List xP):Option xP:=if(xO s L).2 then L[(xO s L).1]? else none
theorem E5 (s:ByteArray):A6 s []=none:=rfl
theorem zw (s:ByteArray) (x:xP) (r:List xP):A6 s (x::r)=if Op.bytesLess x.name.toList s.toList then A6 s r else if x.name.toList==s.toList then some x else none:=by
 unfold A6
 rw[xO]
 by_cases c:Op.bytesLess x.name.toList s.toList=true
 · rw[if_pos c,if_pos c];rfl
 · rw[if_neg c,if_neg c];rfl
def zr:List xP→xP→List xP
 |[],e=>[e]
 |x::r,e=>if Op.bytesLess x.name.toList e.name.toList then x::zr r e else if x.name.toList==e.name.toList then It x e::r else e::x::r
def BZ (L:List xP) (e:xP):xP:=match A6 e.name L with|some x=>It x e|none=>e
theorem EB (e:xP):∀L:List xP,Bc L (xO e.name L).1 (xO e.name L).2 (BZ L e)=zr L e
 |[]=>rfl
 | x :: r => by
   have ih:=EB e r
   have g:=zw e.name x r
   unfold BZ
   rw[g]
   unfold zr
   rw[xO]
   by_cases c:Op.bytesLess x.name.toList e.name.toList=true
   · rw[if_pos c,if_pos c,if_pos c,GS,←ih];rfl
   · rw[if_neg c,if_neg c,if_neg c]
     cases q:(x.name.toList==e.name.toList)with
     |true=>rw[if_pos rfl,if_pos rfl];rfl
     |false=>rw[if_neg (by decide),if_neg (by decide)];rfl
theorem Iu {x e:xP} (h:x.name.toList=e.name.toList):(It x e).name.toList=x.name.toList:=by
 unfold It
 cases Ae x e with
 |true=>exact h.symm
 |false=>rfl
theorem E6 (e : xP) (s : ByteArray) (ne : e.name.toList ≠ s.toList) : ∀ L : List xP, A6 s (zr L e) = A6 s L
 | [] => by
   show A6 s [e]=none
   rw[zw,E5]
   have:(e.name.toList==s.toList)=false:=by simpa using ne
   rw[this];simp
 | x :: r => by
   have ih:=E6 e s ne r
   have ne':(e.name.toList==s.toList)=false:=by simpa using ne
   unfold zr
   by_cases c:Op.bytesLess x.name.toList e.name.toList=true
   · rw[if_pos c,zw,zw,ih]
   · rw [if_neg c]
     cases q:(x.name.toList==e.name.toList)with
     | true =>
       have q':x.name.toList=e.name.toList:=by simpa using q
       rw[if_pos rfl,zw,zw,Iu q',q',ne']
       simp
     | false =>
       rw[if_neg (by decide),zw,ne']
       by_cases d:Op.bytesLess e.name.toList s.toList=true
       · rw[if_pos d]
       · rw [if_neg d]
         have hd:Op.bytesLess e.name.toList s.toList=false:=by simpa using d
         have hse:Op.bytesLess s.toList e.name.toList=true:=by rw[zX e.name.toList s.toList,hd,ne'];rfl
         have hc:Op.bytesLess x.name.toList e.name.toList=false:=by simpa using c
         have hex:Op.bytesLess e.name.toList x.name.toList=true:=by rw[zX x.name.toList e.name.toList,hc,q];rfl
         have hsx:=BM hse hex
         rw[zw]
         have n1:Op.bytesLess x.name.toList s.toList=false:=by rw[zX s.toList x.name.toList,hsx];rfl
         have n2:(x.name.toList==s.toList)=false:=by
          cases w:(x.name.toList==s.toList)with
          |false=>rfl
          | true =>
            have w':x.name.toList=s.toList:=by simpa using w
            rw[w',Fi]at hsx;cases hsx
         rw[n1,n2];simp
theorem IH (e x : xP) : ∀ L : List xP, A6 e.name L = some x → It x e = x → zr L e = L
 |[],h,_=>by rw[E5]at h;cases h
 | y :: r, h, hm => by
   rw[zw]at h
   unfold zr
   by_cases c:Op.bytesLess y.name.toList e.name.toList=true
   · rw[if_pos c]at h ⊢
     rw[IH e x r h hm]
   · rw[if_neg c]at h ⊢
     cases q:(y.name.toList==e.name.toList)with
     | true =>
       rw[q,if_pos rfl]at h
       rw[if_pos rfl,wH h,hm]
     |false=>rw[q,if_neg (by decide)]at h;cases h
theorem DS (B:List xP) (P:xP→Bool):∀(es out:List xP) (p:Option xP),yC p es=true→(∀e∈es,A6 e.name out=A6 e.name B)→(∀e∈es,P e=false→∃x,A6 e.name B=some x∧It x e=x)→es.foldl zr out=(es.filter P).foldl zr out
 |[],_,_,_,_,_=>rfl
 | e :: r, out, p, hm, hg, hP => by
   rw[yC,wT]at hm
   have le:=DY hm.2
   have ne:∀x∈r,e.name.toList≠x.name.toList:=fun x hx q=>by
    have:=le x hx
    rw[q,Fi]at this;cases this
   cases c:P e with
   | true =>
     rw[aby,c,if_pos rfl]
     exact DS B P r (zr out e) (some e) hm.2 (fun x hx=>by rw[E6 e x.name (ne x hx),hg x (by simp [hx])]) fun x hx=>hP x (by simp [hx])
   | false =>
     rw[aby,c,if_neg (by decide)]
     obtain⟨x,q1,q2⟩:=hP e (by simp) c
     have n:zr out e=out:=IH e x out (by rw[hg e (by simp)];exact q1) q2
     show r.foldl zr (zr out e)=_
     rw[n]
     exact DS B P r out (some e) hm.2 (fun x hx=>hg x (by simp [hx])) fun x hx=>hP x (by simp [hx])
theorem Ll {L:List xP} {e:xP} {p:Option xP} (h:yC p L=true) (he:e∈L):A6 e.name L=some e:=by
 obtain⟨a,b,rfl⟩:=List.append_of_mem he
 unfold A6
 rw[CS h]
 simp
theorem DV {s : ByteArray} {x : xP} : ∀ {L : List xP}, A6 s L = some x → x ∈ L ∧ x.name.toList = s.toList
 |[],h=>by rw[E5]at h;cases h
 | y :: r, h => by
   rw[zw]at h
   split at h
   · have:=DV h
     exact⟨by simp [this.1],this.2⟩
   · split at h
     · rename_i c
       obtain rfl:=wH h
       exact⟨by simp,by simpa using c⟩
     · cases h
theorem M7 (e:xP):It e e=e:=by
 unfold It
 have:Ae e e=false:=by unfold Ae;simp
 rw[this,Fc];rfl
def Cm (x y:xP):Bool:=
 (x.name.toList==y.name.toList)&&(!Al x y&&((decide (Cf x.vec y.vec=0)||(decide (Cf x.vec y.vec=2)&&Ae x y))||((decide (Cf x.vec y.vec=1)&&(!Ae x y&& !(decide (x.xL=y.xL)&&decide (x.node=y.node))))||((decide (x.xL=y.xL)&&decide (x.node=y.node))&& !B5 x y))))
def DG (A B:List xP):Bool:=A.any fun x=>B.any fun y=>Cm x y
def Ce (L:List xP) (b:Nat):List xP:=L.filter fun e=>CI e==b
def zJ (A B:List xP):Bool:=(decide (xZ (xQ A)=xZ (xQ B))&& !decide (xQ A=xQ B))||(List.range 8).any fun b=>decide (xZ (yO A b)=xZ (yO B b))&& !decide (Ce A b=Ce B b)
theorem Kl:∀{a b:List Int},a.length=b.length→Bg b a=false→Dx a b=false
 |[],[],_,_=>rfl
 |[],_::_,h,_=>by cases h
 |_::_,[],h,_=>by cases h
 | x :: a, y :: b, h, q => by
   unfold Bg at q
   rw[Bool.or_eq_false_iff]at q
   unfold Dx
   rw[q.1,Kl (by simpa using h) q.2];rfl
theorem Jv {A B : List xP} (hA : yh A = true) (hB : yh B = true) (ht : DG A B = false) {e : xP} (he : e ∈ A) (hk : Bn B (Qr e) = true) : ∃ x, A6 e.name B = some x ∧ It x e = x := by
 unfold Bn at hk
 rw[wT]at hk
 obtain⟨k1,k2⟩:=hk
 have k1':(xO e.name B).2=true:=k1
 have k2':(match B[(xO e.name B).1]? with|some x=>decide (yw x.vec e.vec=x.vec)|none=>false)=true:=k2
 cases hb:B[(xO e.name B).1]? with
 |none=>rw[hb]at k2';cases k2'
 | some y =>
   rw[hb]at k2'
   have k3:yw y.vec e.vec=y.vec:=of_decide_eq_true k2'
   have hg:A6 e.name B=some y:=by unfold A6;rw[k1',if_pos rfl];exact hb
   obtain⟨hy,hn⟩:=DV hg
   refine⟨y,hg, ?_⟩
   have va:=(Bt hA e he).2.1
   have vb:=(Bt hB y hy).2.1
   have jl:=Gn (a:=y.vec) (b:=e.vec) (by omega)
   rw[k3,dt rfl]at jl
   have l0:Bg y.vec e.vec=false:=by cases q:Bg y.vec e.vec with|false=>rfl|true=>rw[q]at jl;cases jl
   have m0:=Kl (a:=e.vec) (b:=y.vec) (by omega) l0
   have nw : Ae y e = false := by
    cases hw:Ae y e with
    |false=>rfl
    | true =>
      exfalso
      have t:Cm e y=false:=by
       unfold DG at ht
       rw[List.any_eq_false]at ht
       have:=ht e he
       rw[Bool.not_eq_true,List.any_eq_false]at this
       have:=this y hy
       simpa using this
      unfold Cm at t
      rw[show(e.name.toList==y.name.toList)=true by rw[hn];simp,aa3]at t
      have ns:Al e y=false:=by
       cases q:Al e y with
       |false=>rfl
       | true =>
         have:=(BU e y).1 q
         rw[this]at hw
         unfold Ae at hw;simp at hw
      rw[ns]at t
      have w1:Ae e y=false:=by
       unfold Ae at hw ⊢
       simp only[xh,wT,aa1]at hw
       simp only[Bool.or_eq_false_iff,Bool.and_eq_false_iff,decide_eq_false_iff_not]
       omega
      have s1:(decide (e.xL=y.xL)&&decide (e.node=y.node))=false:=by
       unfold Ae at hw
       simp only[xh,wT,aa1]at hw
       simp only[Bool.and_eq_false_iff,decide_eq_false_iff_not]
       omega
      rw[w1,s1]at t
      unfold Cf at t
      rw[m0]at t
      cases q:Bg e.vec y.vec with
      |false=>rw[q]at t;simp at t
      |true=>rw[q]at t;simp at t
   unfold It
   rw[nw,k3];rfl
theorem LP {A B:List xP} (hB:yh B=true) {e:xP} (he:e∈A) (hi:Ce A (CI e)=Ce B (CI e)):∃x,A6 e.name B=some x∧It x e=x:=by
 have m:e∈Ce A (CI e):=abr.2 ⟨he,by simp⟩
 rw[hi]at m
 have hm:=yB hB
 unfold yK at hm
 rw[wT]at hm
 exact⟨e,Ll hm.1 (abr.1 m).1,M7 e⟩
theorem KN : ∀ (ds ms : List Int) (i j : Nat), ds.length = ms.length → ((yk i ds ms).contains (((i + j : Nat)) : Int) = true ↔ ∃ d m, ds[j]? = some d ∧ ms[j]? = some m ∧ m ≠ d)
 |[],[],i,j,_=>by simp [yk]
 |[],_::_,_,_,h=>by cases h
 |_::_,[],_,_,h=>by cases h
 | d :: ds, m :: ms, i, j, h => by
   have hl:ds.length=ms.length:=by simpa using h
   have lt : ∀ (ds ms : List Int) (i k : Nat), k < i → (yk i ds ms).contains ((k : Nat) : Int) = false := by
    intro ds
    induction ds with
    |nil=>intro ms i k _;simp [yk]
    | cons d ds ih =>
      intro ms i k hk
      cases ms with
      |nil=>simp [yk]
      | cons m ms =>
        unfold yk
        split
        · exact ih ms (i+1) k (by omega)
        · rw[List.contains_cons,ih ms (i+1) k (by omega),Bool.or_false]
          simp;omega
   unfold yk
   cases j with
   | zero =>
     have l0:=lt ds ms (i+1) i (by omega)
     by_cases c:m=d
     · rw[if_pos c]
       simp only[abl]
       rw[l0]
       constructor
       · intro q;cases q
       · rintro ⟨d',m',q1,q2,q3⟩
         simp at q1 q2
         exact absurd (by rw[←q1,←q2];exact c) q3
     · rw[if_neg c]
       simp only[abl]
       rw[List.contains_cons]
       simp
       exact c
   | succ j =>
     have ih:=KN ds ms (i+1) j hl
     rw[show i+1+j=i+(j+1)by omega]at ih
     by_cases c:m=d
     · rw[if_pos c,ih];simp
     · rw[if_neg c,List.contains_cons]
       have:((((i+(j+1):Nat)):Int)==(i:Int))=false:=by rw[beq_eq_false_iff_ne];omega
       rw[this,abp,ih];simp
theorem Ev (L:List xP) {b:Nat} (hb:b<8):(xQ L)[b]?=some (xZ (yO L b)):=by
 unfold xQ
 rw[xa,List.getElem?_range hb];rfl
theorem Pz (e:xP):CI e<8:=by unfold CI;omega
def DL (A B:List xP):List Int:=zB A (xQ B)
theorem Pn (A B:List xP) {b:Nat} (hb:b<8):(DL A B).contains ((b:Nat):Int)=true↔xZ (yO B b)≠xZ (yO A b):=by
 have:=KN (xQ A) (xQ B) 0 b (by rw[x9,x9])
 rw[wY]at this
 unfold DL zB
 rw[this,Ev A hb,Ev B hb]
 simp
def GL (A B:List xP) (e:xP):Bool:=(DL A B).contains ((CI e:Nat):Int)&& !Bn B (Qr e)
def zu (A B:List xP):List xP:=A.filter (GL A B)
theorem LQ (A B:List xP):Ad B (yA A (DL A B))=(zu A B).map (·.name):=by
 unfold Ad yA zu GL
 rw[List.filter_map,abw,List.filter_filter]
 congr 1
 apply List.filter_congr
 intro e _
 show(!Bn B (Qr e)&&_)=_
 rw[Bool.and_comm]
theorem Ms {A B:List xP} (h:zJ A B=false) {b:Nat} (hb:b<8) (hd:xZ (yO B b)=xZ (yO A b)):Ce A b=Ce B b:=by
 unfold zJ at h
 rw[Bool.or_eq_false_iff,List.any_eq_false]at h
 have:=h.2 b (List.mem_range.2 hb)
 rw[dt hd.symm,aa3]at this
 simpa using this
theorem VG {A B:List xP} (hA:yh A=true) (hB:yh B=true) (ht:DG A B=false) (hc:zJ A B=false) {e:xP} (he:e∈A) (hs:GL A B e=false):∃x,A6 e.name B=some x∧It x e=x:=by
 unfold GL at hs
 cases hu:(DL A B).contains ((CI e:Nat):Int)with
 | false =>
   have n:¬xZ (yO B (CI e))≠xZ (yO A (CI e)):=fun q=>by
    rw[(Pn A B (Pz e)).2 q]at hu;cases hu
   exact LP hB he (Ms hc (Pz e) (Decidable.not_not.1 n))
 | true =>
   rw[hu,aa3]at hs
   exact Jv hA hB ht he (by simpa using hs)
theorem D8 {A B:List xP} (hA:yh A=true) (hB:yh B=true) (ht:DG A B=false) (hc:zJ A B=false):A.foldl zr B=(zu A B).foldl zr B:=by
 have hm:=yB hA
 unfold yK at hm
 rw[wT]at hm
 exact DS B (GL A B) A B none hm.1 (fun _ _=>rfl) fun e he hs=>VG hA hB ht hc he hs
theorem GM {A B:List xP} (h:DL A B=[]):zu A B=[]:=by
 unfold zu
 rw[List.filter_eq_nil_iff]
 intro e _
 unfold GL
 rw[h];simp
theorem NU {A B:List xP} (hc:zJ A B=false) (hr:xZ (xQ B)=xZ (xQ A)):DL A B=[]:=by
 unfold zJ at hc
 rw[Bool.or_eq_false_iff]at hc
 have:=hc.1
 rw[dt hr.symm,aa3]at this
 have e:xQ A=xQ B:=by simpa using this
 unfold DL zB
 rw[e];exact DI _ 0
def I8 (A:List xP):BE:=mq0 A 0 1
def Vn (B:List xP):BE:=mq1 B 1 0
def OZ (A B:List xP):BE:=⟨2,0,1,0,[],DL A B,yA A (DL A B),[],[]⟩
def PV (A B:List xP):BE:=mq3 ((zu A B).map (·.name))
def Zs (A B:List xP):BE:=mq5 (zu A B)
theorem Vk {A:List xP} (h:yh A=true):Ax A 0 1=(I8 A,0):=by
 unfold Ax;rw[if_pos ⟨h,by decide,by decide,by decide⟩];rfl
theorem EL {L:List xP} {m:BE} (h:yh L=true) (k:BP m=true) (a:AD L m=none):zk L m=(Bx,false,0):=by
 unfold zk;rw[if_pos ⟨h,k⟩,a];rfl
theorem C6 {L:List xP} {m x:BE} (h:yh L=true) (k:BP m=true) (a:AD L m=some x):zk L m=(x,true,0):=by
 unfold zk;rw[if_pos ⟨h,k⟩,a];rfl
theorem Yq {A B:List xP} (hA:yh A=true) (hB:yh B=true):zk B (I8 A)=if xZ (xQ B)=xZ (xQ A)then(Bx,false,0)else(Vn B,true,0):=by
 have k:BP (I8 A)=true:=Ez rfl rfl (by show(0:Int)≠1;decide) (Ir _) rfl
 by_cases c:xZ (xQ B)=xZ (xQ A)
 · rw[if_pos c]
   exact EL hB k (by unfold AD;rw[show(I8 A).kind=0 from rfl,if_pos rfl,show(I8 A).root=xZ (xQ A)from rfl,if_pos c])
 · rw[if_neg c]
   exact C6 hB k (by unfold AD;rw[show(I8 A).kind=0 from rfl,if_pos rfl,show(I8 A).root=xZ (xQ A)from rfl,if_neg c];rfl)
theorem Yr {A B:List xP} (hA:yh A=true):zk A (Vn B)=if DL A B=[]then(Bx,false,0)else(OZ A B,true,0):=by
 have k:BP (Vn B)=true:=Ez rfl rfl (by show(1:Int)≠0;decide) (by unfold At;rw[show(Vn B).kind=1 from rfl,if_neg (by decide:¬(1:Int)=0),if_pos rfl];show(decide ((xQ B).length=8)&&(xQ B).all Bp)=true;rw[dt (x9 B),Ca];rfl) rfl
 have e:AD A (Vn B)=if DL A B=[]then none else some (OZ A B):=by
  unfold AD
  rw[show(Vn B).kind=1 from rfl,if_neg (by decide:¬(1:Int)=0),if_pos rfl];rfl
 by_cases c:DL A B=[]
 · rw[if_pos c]at e ⊢
   exact EL hA k e
 · rw[if_neg c]at e ⊢
   exact C6 hA k e
theorem O0 {A B:List xP} (h:yh A=true) (ne:DL A B≠[]):BP (OZ A B)=true:=by
 have hm:=yB h
 unfold yK at hm
 rw[wT,aa1]at hm
 refine Ez rfl rfl (by show(0:Int)≠1;decide) ?_ rfl
 unfold At
 rw[show(OZ A B).kind=2 from rfl,if_neg (by decide:¬(2:Int)=0),if_neg (by decide:¬(2:Int)=1),if_pos rfl]
 show(decide (1≤(DL A B).length)&&(BW (DL A B)&&(yW none ((yA A (DL A B)).map (·.1))&&(decide ((yA A (DL A B)).length≤6)&&(yA A (DL A B)).all fun b=>yS b.2))))=true
 have e0:=abo.2 ne
 have e1:(yA A (DL A B)).map (·.1)=(A.filter fun e=>(DL A B).contains ((CI e:Nat):Int)).map (·.name):=by unfold yA;rw[abw];rfl
 have e2:(yA A (DL A B)).length≤6:=by unfold yA;rw[aa0];exact xq (abv _ _) hm.2
 have e3:((yA A (DL A B)).all fun b=>yS b.2)=true:=by
  unfold yA
  rw[List.all_map,aba]
  intro e he
  have:=(Dv hm.1 e (abr.1 he).1).2.1
  unfold yy at this
  rw[wT]at this
  exact this.1
 have e4:yW none ((A.filter fun e=>(DL A B).contains ((CI e:Nat):Int)).map (·.name))=true:=BT (p:=none) (Bi _ hm.1)
 have e5:BW (DL A B)=true:=Bj _ _ 0 none (by rw[x9];omega) (fun q h=>by cases h)
 rw[e1,e4,dt e2,e3,e5,dt (by omega)];rfl
theorem Ys {A B:List xP} (hA:yh A=true) (hB:yh B=true) (ne:DL A B≠[]):zk B (OZ A B)=if zu A B=[]then(Bx,false,0)else(PV A B,true,0):=by
 have k:=O0 hA ne
 have e:AD B (OZ A B)=if(zu A B).map (·.name)=[]then none else some (PV A B):=by
  unfold AD
  rw[show(OZ A B).kind=2 from rfl,if_neg (by decide:¬(2:Int)=0),if_neg (by decide:¬(2:Int)=1),if_pos rfl,show(OZ A B).xV=yA A (DL A B)from rfl,LQ];rfl
 by_cases c:zu A B=[]
 · rw[if_pos (by rw[c];rfl)]at e
   rw[if_pos c]
   exact EL hB k e
 · rw[if_neg (by simpa using c)]at e
   rw[if_neg c]
   exact C6 hB k e
theorem O1 {A B:List xP} (h:yh A=true) (ne:zu A B≠[]):BP (PV A B)=true:=by
 have hm:=yB h
 unfold yK at hm
 rw[wT,aa1]at hm
 refine Ez rfl rfl (by show(1:Int)≠0;decide) ?_ rfl
 unfold At
 rw[show(PV A B).kind=3 from rfl,if_neg (by decide:¬(3:Int)=0),if_neg (by decide:¬(3:Int)=1),if_neg (by decide:¬(3:Int)=2),if_pos rfl]
 show(yW none ((zu A B).map (·.name))&&(decide (1≤((zu A B).map (·.name)).length)&&decide (((zu A B).map (·.name)).length≤6)))=true
 have e4:yW none ((zu A B).map (·.name))=true:=BT (p:=none) (Bi _ hm.1)
 have e5:(zu A B).length≤A.length:=abv _ _
 have e6:=abo.2 ne
 rw[e4,aa0,dt (by omega),dt (by omega)];rfl
theorem Yt {A B:List xP} (hA:yh A=true) (ne:zu A B≠[]):zk A (PV A B)=(Zs A B,true,0):=by
 have e:BS A ((zu A B).map (·.name))=zu A B:=Kw hA _ fun e he=>(abr.1 he).1
 refine C6 hA (O1 hA ne) ?_
 unfold AD
 rw[show(PV A B).kind=3 from rfl,if_neg (by decide:¬(3:Int)=0),if_neg (by decide:¬(3:Int)=1),if_neg (by decide:¬(3:Int)=2),if_pos rfl,show(PV A B).names=(zu A B).map (·.name)from rfl,e,if_neg ne];rfl
theorem Ba {e:xP} (h:yi e=true):yI e.name=true∧yy e=true∧zm e=true:=by
 have:yK [e]=true:=by
  unfold yi AA at h
  by_cases c:yK [e]=false
  · rw[if_pos c]at h;cases h
  · simpa using c
 rw[Ej]at this
 simpa [wT,and_assoc]using this
theorem NW {a b:List Int} (ha:yS a=true) (hb:yS b=true):yS (yw a b)=true:=by
 simp only[yS,wT,aa1,aba]at ha hb ⊢
 refine⟨by unfold yw;rw[List.length_zipWith];omega,fun x hx=> ?_⟩
 unfold yw at hx
 obtain⟨i,hi,rfl⟩:=List.getElem_of_mem hx
 rw[List.getElem_zipWith]
 unfold yX
 split
 · exact hb.2 _ (List.getElem_mem _)
 · exact ha.2 _ (List.getElem_mem _)
theorem Kh {e:xP} (h:yi e=true) {v:List Int} (hv:yS v=true):yi {e with vec:=v}=true:=by
 obtain⟨h1,h2,h3⟩:=Ba h
 have hh:yy {e with vec:=v}=true:=by
  unfold yy at h2 ⊢
  rw[wT]at h2
  show(yS v&&_)=true
  rw[hv,aa3];exact h2.2
 have hc:zm {e with vec:=v}=true:=h3
 have m:yK [{e with vec:=v}]=true:=by rw[Ej];show(yI e.name&&_)=true;rw[h1,hh,hc];rfl
 have m0:yK [e]=true:=by rw[Ej,h1,h2,h3];rfl
 unfold yi AA at h ⊢
 rw[m0]at h
 rw[m]
 exact h
theorem Vf {x e:xP} (hx:yi x=true) (he:yi e=true):yi (It x e)=true:=by
 obtain⟨_,a,_⟩:=Ba hx
 obtain⟨_,b,_⟩:=Ba he
 unfold yy at a b
 rw[wT]at a b
 have j:=NW a.1 b.1
 unfold It
 cases Ae x e with
 |true=>exact Kh he j
 |false=>exact Kh hx j
def Cd (L:List xP):Bool:=yC none L&&L.all yi
theorem Hd {L:List xP} (h:yh L=true):Cd L=true:=by
 unfold yh yK at h
 unfold Cd
 simp only[wT]at h ⊢
 exact⟨h.1.1,h.2⟩
theorem Ow {L:List xP} (h:Cd L=true) (hl:L.length≤6):yh L=true:=by
 unfold Cd at h
 unfold yh yK
 simp only[wT,aa1]at h ⊢
 exact⟨⟨h.1,hl⟩,h.2⟩
theorem Ks {L:List xP} {e:xP} (hL:Cd L=true) (he:yi e=true):Cd (zr L e)=true:=by
 unfold Cd at hL ⊢
 rw[wT,aba]at hL
 have pn:(BZ L e).name.toList=e.name.toList∧yi (BZ L e)=true:=by
  unfold BZ
  cases q:A6 e.name L with
  |none=>exact⟨rfl,he⟩
  | some x =>
    obtain⟨q1,q2⟩:=DV q
    exact⟨by rw[Iu q2,q2],Vf (hL.2 x q1) he⟩
 have pl:xO (BZ L e).name L=xO e.name L:=by rw[F6 pn.1]
 obtain⟨h1,h2,h3⟩:=Ba pn.2
 have w:=LC (BZ L e) h1 h2 h3 L none hL.1 rfl
 rw[pl,EB]at w
 rw[w,aa3,aba]
 intro x hx
 rw[←EB]at hx
 rcases M5 hx with rfl|hx
 · exact pn.2
 · exact hL.2 x hx
theorem Kt (e:xP):∀L:List xP,(zr L e).length≤L.length+1
 |[]=>wU _
 | x :: r => by
   have:=Kt e r
   unfold zr
   split
   · simp;omega
   · split<;>simp
theorem G9 {G:H} {v:AV} {l:List xN} (rd:yM 9 G v l.length (xG l)):∃ad:Int→Nat→AV,(∀i:Int,0≤i∧i<l.length→gZ 9 v (.int .i64 i)=some (ad i 0)∧fZ 0 (ad i 0)=some (ad i 0))∧
 ∀g,Ext G g→∀(i:Nat) (x:xN),l[i]?=some x→cf false 1 (ad i 0) g=some (.str x.1.name)∧cf true 9 (ad i 0) g=some (.agg (xA x.1 x.2)):=by
 obtain⟨ad,a1,a2,a4,a3⟩:=rd.at_
 refine⟨ad,fun i hi=>⟨a1 i hi,a2 i 0 0 hi⟩,fun g hg i x hx=> ?_⟩
 have hi:i<l.length:=(wO.1 hx).1
 have f:=fun k (hk:k<9)=>Bm (f:=k) AB hx hk
 have a5:=a3 g fun i c q=>hg i c q
 refine⟨a5.1 i 0 _ ⟨by omega,by omega⟩ ?_, ?_⟩
 · rw[yZ];exact f 0 (by omega)
 · rw[a5.2 i ⟨by omega,by omega⟩,yZ]
   obtain⟨p,q,rfl,rfl⟩:=IV hx
   have:xG (p++x::q)=xG p++(xA x.1 x.2++xG q):=by simp [xG,Jk]
   rw[this,List.drop_append_of_le_length (by rw[yQ];omega),List.drop_of_length_le (by rw[yQ];omega),abB,List.take_append_of_le_length (by show 9≤9;omega),xj (by show 9≤9;omega)]
theorem Ct (L:List xP):(L.map zP).map (·.1)=L:=by rw[abw];exact List.map_id L
theorem Du (g:H) {e:xP} (h:yi e=true):yF g (zP e)∧(zP e).2.sc=true∧(zP e).1.vec.length=4:=by
 obtain⟨t1,t2,t3⟩:=Ba h
 have a:=zq t1
 have b:=A0 t3
 have c:=(z9 t2).1
 exact⟨⟨y8 g e.vec,by show e.vec.length<_;omega,by show e.name.size<_;omega,by show e.packed.size<_;omega⟩,rfl,c⟩
theorem LG {y e:xP} (hy:yi y=true) (he:yi e=true) (hn:y.name.toList=e.name.toList):BN y e=some (It y e):=by
 unfold BN
 rw[hy,he,F6 hn,beq_self_eq_true];rfl
set_option maxHeartbeats 4000000 in
theorem Ke {G : H} {w : AV} {m : List xN} (rw_ : yM 9 G w m.length (xG m)) (hm : ∀ x ∈ m, yF G x ∧ x.2.sc = true ∧ yi x.1 = true) (m5 : m.length ≤ 500) (R Z : Nat) (hZ : G.next ≤ Z) : ∀ (q p : List xN), m = p ++ q → ∀ (h : H) (ov : AV) (L : List xP), Ext G h → G.next ≤ h.next → h.floor ≤ h.next → h.floor ≤ Z → h.get Z = some [ov] → ov.sc = true → yM 9 h ov (L.map zP).length (xG (L.map zP)) → Cd L = true → L.length ≤ 6 + p.length →
 ∃ e' h' ov', Lp AP.A [1, 4, 7, 8] AP.f244L0 [(1, w), (4, .aG R 0), (7, .aG Z 0), (8, .int .i64 p.length)] h = some (.exit 2, e', h') ∧ look e' 4 = .aG R 0 ∧ look e' 7 = .aG Z 0 ∧ h'.get Z = some [ov'] ∧ h'.floor = h.floor ∧ h.next ≤ h'.next ∧
   (∀i c,i≠Z→h.get i=some c→h'.get i=some c)∧ov'.sc=true∧yM 9 h' ov' (((q.map (·.1)).foldl zr L).map zP).length (xG (((q.map (·.1)).foldl zr L).map zP))∧Cd ((q.map (·.1)).foldl zr L)=true∧((q.map (·.1)).foldl zr L).length≤506∧((q=[]∧ov'=ov∧h'=h)∨ov'=zW ((q.map (·.1)).foldl zr L))
 | [], p, hp, h, ov, L, hx, hn, hf, hfZ, g0, so, ro, hL, hl => by
   rw[aa2]at hp;subst hp
   have ln:=rw_.len
   refine⟨[(1,w),(4,.aG R 0),(7,.aG Z 0),(8,.int .i64 m.length),(36,.bool false)],h,ov,u6 ?_,rfl,rfl,g0,rfl,wU _,fun _ _ _ c=>c,so,ro,hL,(by show L.length≤506;omega),.inl ⟨rfl,rfl,rfl⟩⟩
   clear rw_ hm ro
   simp (disch:=omega)only[go_sem,xF,AP.f244L0,ln]
 | x :: q, p, hp, h, ov, L, hx, hn, hf, hfZ, g0, so, ro, hL, hl => by
   have hlen:m.length=p.length+(q.length+1):=by rw[hp];simp
   have hxi:m[p.length]?=some x:=by rw[hp];simp
   have xm:=wX hxi
   obtain⟨xo,xs,xe⟩:=hm x xm
   have xo':=xo.mono hx
   have ln:=rw_.len
   obtain⟨ad,a1,a2⟩:=G9 rw_
   obtain⟨i1,i2⟩:=a1 p.length ⟨by omega,by omega⟩
   obtain⟨t1,t2⟩:=a2 h hx p.length x hxi
   have lM:(L.map zP).length=L.length:=aa0 _
   have kp:=OY h ov (L.map zP) x.1.name so (by omega) ro
   rw[Ct]at kp
   have hLm:∀z∈L,yi z=true:=by
    unfold Cd at hL;rw[wT,aba]at hL;exact hL.2
   have okL:∀g,∀z∈L.map zP,yF g z∧z.2.sc=true∧z.1.vec.length=4:=fun g z hz=>by
    obtain⟨e,he,rfl⟩:=aa6.1 hz
    exact Du g (hLm e he)
   have x4:x.1.vec.length=4:=(Du h xe).2.2
   have kc:=De h x.1 x.2 xs xo' (by omega) (by omega)
   obtain⟨P,hP⟩:∃P,P=xO x.1.name L:=⟨_,rfl⟩
   have pl:=IB x.1.name L
   rw[←hP]at kp pl
   obtain⟨L',hL'⟩:∃L',L'=zr L x.1:=⟨_,rfl⟩
   have fL':Cd L'=true:=by rw[hL'];exact Ks hL xe
   have lL':L'.length≤6+(p++[x]).length:=by have:=Kt x.1 L;rw[hL'];simp;omega
   have wL:Bc L P.1 P.2 (BZ L x.1)=L':=by rw[hP,EB,hL']
   obtain⟨N,hN⟩:∃N,N=h.next:=⟨_,rfl⟩
   have NZ:Z<N:=by rw[hN];exact h.lt _ _ g0
   obtain⟨h1,eh1⟩:∃g,g=h.alloc Z9:=⟨_,rfl⟩
   obtain⟨h2,eh2⟩:∃g,g=h1.set N (xA x.1 (xU x.1.vec)):=⟨_,rfl⟩
   have n1:h1.next=N+1:=by rw[eh1,hN];simp
   have n2:h2.next=N+1:=by rw[eh2];simp [n1]
   have f1:h1.floor=h.floor:=by rw[eh1];simp
   have f2:h2.floor=h.floor:=by rw[eh2];simp [f1]
   have z1:h1.get N=some Z9:=by rw[eh1,xE hN]
   have z2:h2.get N=some (xA x.1 (xU x.1.vec)):=by rw[eh2,xH rfl,z1];rfl
   have st2:vR h1 N 0 9 (xA x.1 (xU x.1.vec)) (some Z9)=some h2:=by rw[eh2];exact yl (by omega) rfl rfl rfl
   have low2:∀i,i<N→h2.get i=h.get i:=fun i hi=>by rw[eh2,xC (by omega),eh1,xI (by omega)]
   have w1:(((p++[x]).length:Nat):Int)=(p.length:Int)+1:=by simp
   have wa:IntKind.wrap .i64 ((p.length:Int)+1)=(p.length:Int)+1:=wi (by omega)
   have lt:(p.length:Int)<(m.length:Int):=by omega
   have e1:h.alloc [.str ⟨#[]⟩,.bool false,.aS,.int .i64 0,.int .i64 0,.int .i64 0,.str ⟨#[]⟩,.int .i64 0,.int .i64 0]=h1:=eh1.symm
   have lE:(xA x.1 (xU x.1.vec)).length=9:=rfl
   have cE:AV.aE (xA x.1 (xU x.1.vec))=true:=rfl
   have rE:iO true 9 (xA x.1 (xU x.1.vec)) 0=some (.agg (xA x.1 (xU x.1.vec))):=rfl
   have sF:=Dl L'
   have cF:=ye sF
   obtain⟨h6,step,g6,f6,n6,low6⟩:∃h6,aO (aU AP.A) bH AP.f244L0 (ay [(1,w),(4,.aG R 0),(7,.aG Z 0),(8,.int .i64 p.length)] [1,4,7,8]) h=some (.normal,[(1,w),(4,.aG R 0),(7,.aG Z 0),(8,.int .i64 ((p.length:Int)+1))],h6)∧
    h6.get Z=some [zW L']∧h6.floor=h.floor∧N≤h6.next∧∀i c,i≠Z→h.get i=some c→h6.get i=some c:=by
    cases hp2:P.2 with
    | false =>
      have pk:BZ L x.1=x.1:=by
       unfold BZ A6
       rw[←hP,hp2];rfl
      rw[pk,hp2]at wL
      rw[hp2]at kp
      have kw:=NX h2 ov (L.map zP) so (by omega) (ro.mono fun i c q=>by have:=h.lt _ _ q;rw[low2 i (by omega)];exact q) (okL h2) P.1 false (by rw[lM];exact pl.1) (fun q=>by cases q) x.1
      rw[Ct,wL]at kw
      obtain⟨h6,eh6⟩:∃g,g=h2.set Z [zW L']:=⟨_,rfl⟩
      have gZ2:h2.get Z=some [ov]:=by rw[low2 _ NZ];exact g0
      have st6:vR h2 Z 0 1 [zW L'] (some [ov])=some h6:=by rw[wx (by omega) (by simp) sF,eh6];rfl
      refine⟨h6, ?_,by rw[eh6,xH rfl,gZ2];rfl,by rw[eh6];simp [f2],by rw[eh6];simp [n2],fun i c q1 q2=>by have:=h.lt _ _ q2;rw[eh6,xC q1,low2 i (by omega)];exact q2⟩
      clear rw_ hm ro okL xo xo' a1 a2 low2 hLm hx pl fL' hL hP hL' wL
      have hN':=hN.symm
      generalize xA x.1 (xU x.1.vec)=E at *
      generalize xA x.1 x.2=X at *
      simp (disch:=omega)only[go_sem,xF,AP.f244L0,ln,dt lt,g0,yx,i1,i2,t1,kp,t2,kc,e1,hN',z1,lE,cE,st2,gZ2,z2,rE,kw,cF,st6,wa]
    | true =>
      obtain⟨y,hy,yn⟩:=pl.2 hp2
      have ym:yi y=true:=hLm y (wX hy)
      have pk:BZ L x.1=It y x.1:=by
       unfold BZ A6
       rw[←hP,hp2,if_pos rfl,hy]
      rw[pk,hp2]at wL
      rw[hp2]at kp
      obtain⟨bd,b1,b2⟩:=G9 ro
      have Pl:P.1<L.length:=(wO.1 hy).1
      obtain⟨j1,_⟩:=b1 P.1 ⟨by omega,by rw[lM];omega⟩
      have hy':(L.map zP)[P.1]?=some (zP y):=by rw[xa,hy];rfl
      obtain⟨h3,eh3⟩:∃g,g=h2.alloc Z9:=⟨_,rfl⟩
      have n3:h3.next=N+2:=by rw[eh3];simp [n2]
      have low3:∀i,i<N+1→h3.get i=h2.get i:=fun i hi=>by rw[eh3,xI (by omega)]
      have x03:Ext h h3:=fun i c q=>by have:=h.lt _ _ q;rw[low3 i (by omega),low2 i (by omega)];exact q
      obtain⟨_,u2⟩:=b2 h3 x03 P.1 (zP y) hy'
      obtain⟨_,t23⟩:=a2 h3 (fun i c q=>x03 i c (hx i c q)) p.length x hxi
      have u2':cf true 9 (bd (P.1:Int) 0) h3=some (.agg (xA y (xU y.vec))):=u2
      have km:=M6 h3 y x.1 (xU y.vec) x.2 rfl xs (Du h3 ym).1 (xo'.mono x03)
      rw[LG ym xe yn]at km
      obtain⟨r,hr⟩:∃r,r=It y x.1:=⟨_,rfl⟩
      rw[←hr]at km wL
      have km':aU AP.A 156 [.agg (xA y (xU y.vec)),.agg (xA x.1 x.2)] h3=some (.bW [.agg (xA r (xU r.vec)),.int .i64 0],h3):=km
      obtain⟨M,hM⟩:∃M,M=xA r (xU r.vec):=⟨_,rfl⟩
      rw[←hM]at km'
      have lM9:M.length=9:=by rw[hM];rfl
      have cM:AV.aE M=true:=by rw[hM];rfl
      have rM:iO true 9 M 0=some (.agg M):=by rw[hM];rfl
      obtain⟨h4,eh4⟩:∃g,g=h3.set (N+1) M:=⟨_,rfl⟩
      obtain⟨h5,eh5⟩:∃g,g=h4.set N M:=⟨_,rfl⟩
      have f3:h3.floor=h.floor:=by rw[eh3];simp [f2]
      have f4:h4.floor=h.floor:=by rw[eh4];simp [f3]
      have f5:h5.floor=h.floor:=by rw[eh5];simp [f4]
      have z3:h3.get (N+1)=some Z9:=by rw[eh3,xE n2.symm]
      have st4:vR h3 (N+1) 0 9 M (some Z9)=some h4:=by rw[eh4];exact yl (by omega) lM9 rfl cM
      have z4:h4.get (N+1)=some M:=by rw[eh4,xH rfl,z3];rfl
      have y4:h4.get N=some (xA x.1 (xU x.1.vec)):=by rw[eh4,xC (by omega),low3 _ (by omega)];exact z2
      have st5:vR h4 N 0 9 M (some (xA x.1 (xU x.1.vec)))=some h5:=by rw[eh5];exact yl (by omega) lM9 rfl cM
      have z5:h5.get N=some M:=by rw[eh5,xH rfl,y4];rfl
      have low5:∀i,i<N→h5.get i=h.get i:=fun i hi=>by rw[eh5,xC (by omega),eh4,xC (by omega),low3 i (by omega),low2 i hi]
      have kw:=NX h5 ov (L.map zP) so (by omega) (ro.mono fun i c q=>by have:=h.lt _ _ q;rw[low5 i (by omega)];exact q) (okL h5) P.1 true (by rw[lM];exact pl.1) (fun _=>by rw[lM];exact Pl) r
      rw[Ct,wL,←hM]at kw
      obtain⟨h6,eh6⟩:∃g,g=h5.set Z [zW L']:=⟨_,rfl⟩
      have gZ2:h2.get Z=some [ov]:=by rw[low2 _ NZ];exact g0
      have gZ3:h3.get Z=some [ov]:=by rw[low3 _ (by omega)];exact gZ2
      have gZ5:h5.get Z=some [ov]:=by rw[low5 _ NZ];exact g0
      have st6:vR h5 Z 0 1 [zW L'] (some [ov])=some h6:=by rw[wx (by omega) (by simp) sF,eh6];rfl
      have n5:h5.next=N+2:=by rw[eh5,eh4];simp [n3]
      refine⟨h6, ?_,by rw[eh6,xH rfl,gZ5];rfl,by rw[eh6];simp [f5],by rw[eh6];simp [n5],fun i c q1 q2=>by have:=h.lt _ _ q2;rw[eh6,xC q1,low5 i (by omega)];exact q2⟩
      have e3:h2.alloc [.str ⟨#[]⟩,.bool false,.aS,.int .i64 0,.int .i64 0,.int .i64 0,.str ⟨#[]⟩,.int .i64 0,.int .i64 0]=h3:=eh3.symm
      clear rw_ hm ro okL xo xo' a1 a2 b1 b2 low2 low3 low5 hLm hx pl fL' hL hP hL' wL hM x03 km u2 eh1 eh2 eh3 eh4 eh5 eh6
      have hN':=hN.symm
      generalize xA x.1 (xU x.1.vec)=E at *
      generalize xA y (xU y.vec)=Y at *
      generalize xA x.1 x.2=X at *
      simp (disch:=omega)only[go_sem,xF,AP.f244L0,ln,dt lt,g0,yx,i1,i2,t1,kp,t2,kc,e1,hN',z1,lE,cE,st2,e3,n2,gZ2,gZ3,j1,u2',t23,km',z3,lM9,cM,st4,z4,rM,y4,st5,gZ5,z5,kw,cF,st6,wa]
   have low6':Ext G h6:=fun i c q=>low6 i c (by have:=G.lt _ _ q;omega) (hx i c q)
   obtain⟨e',h',ov',r1,r2,r3,r4,r5,r6,r7,r8,r9,r10,r11,r12⟩:=Ke rw_ hm m5 R Z hZ q (p++[x]) (by rw[hp];simp) h6 (zW L') L' low6' (by omega) (by omega) (by omega) g6 sF (He h6 L') fL' lL'
   rw[w1]at r1
   have ef:((x::q).map (·.1)).foldl zr L=(q.map (·.1)).foldl zr L':=by rw[hL'];rfl
   rw[ef]
   refine⟨e',h',ov',u9 step r1,r2,r3,r4,by omega,by omega,fun i c q1 q2=>r7 i c q1 (low6 i c q1 q2),r8,r9,r10,r11, ?_⟩
   rcases r12 with ⟨q1,q2,_⟩|q1
   · right;rw[q2,q1];rfl
   · exact .inr q1
theorem Ki {G:H} {w:AV} {m:List xN} (rw_:yM 9 G w m.length (xG m)) (hm:∀x∈m,yF G x∧x.2.sc=true∧yi x.1=true) (m5:m.length≤500) (o2 o4:AV):∀(q p:List xN),m=p++q→
 ∃e',Lp AP.A [1,2,4,6] AP.f244L1 [(1,w),(2,o2),(4,o4),(6,.int .i64 p.length)] G=some (.exit 0,e',G)∧look e' 1=w∧look e' 2=o2∧look e' 4=o4
 | [], p, hp => by
   rw[aa2]at hp;subst hp
   have ln:=rw_.len
   refine⟨[(1,w),(2,o2),(4,o4),(6,.int .i64 m.length),(21,.bool false)],u6 ?_,rfl,rfl,rfl⟩
   clear rw_ hm
   simp (disch:=omega)only[go_sem,xF,AP.f244L1,ln]
 | x :: q, p, hp => by
   have hlen:m.length=p.length+(q.length+1):=by rw[hp];simp
   have hxi:m[p.length]?=some x:=by rw[hp];simp
   obtain⟨xo,xs,xe⟩:=hm x (wX hxi)
   have ln:=rw_.len
   obtain⟨ad,a1,a2⟩:=G9 rw_
   obtain⟨i1,_⟩:=a1 p.length ⟨by omega,by omega⟩
   obtain⟨_,t2⟩:=a2 G (Ext.refl G) p.length x hxi
   have km:=BK G x.1 x.2 xs xo
   rw[xe]at km
   obtain⟨e',r1,r2⟩:=Ki rw_ hm m5 o2 o4 q (p++[x]) (by rw[hp];simp)
   have w1:(((p++[x]).length:Nat):Int)=(p.length:Int)+1:=by simp
   have wa:IntKind.wrap .i64 ((p.length:Int)+1)=(p.length:Int)+1:=wi (by omega)
   rw[w1]at r1
   have lt:(p.length:Int)<(m.length:Int):=by omega
   refine⟨e',u9 ?_ r1,r2⟩
   clear r1 r2 rw_ hm a1 a2 xo
   generalize xA x.1 x.2=X at *
   simp (disch:=omega)only[go_sem,xF,AP.f244L1,ln,dt lt,i1,t2,km,wa]
def Dt (L:List xP):AV:=if L.length≤6 then .bW [.agg [zW L],.int .i64 0]else .bW [.agg [.aS],.int .i64 1604]
set_option maxHeartbeats 4000000 in
theorem Fp (h : H) (v w : AV) (l m : List xN) (sv : v.sc = true) (rd : yM 9 h v l.length (xG l)) (hv : ∀ x ∈ l, yF h x ∧ x.2.sc = true) (fA : yh (l.map (·.1)) = true) (rw_ : yM 9 h w m.length (xG m)) (hm : ∀ x ∈ m, yF h x ∧ x.2.sc = true ∧ yi x.1 = true) (m5 : m.length ≤ 500) :
 aU AP.A 244 [.agg [v],w] h=some (Dt ((m.map (·.1)).foldl zr (l.map (·.1))),h):=by
 have l6:l.length≤6:=by
  have:=yB fA
  unfold yK at this
  rw[wT,aa1,aa0]at this
  exact this.2
 obtain⟨h1,eh1⟩:∃g,g=h.eO.alloc [v]:=⟨_,rfl⟩
 obtain⟨h2,eh2⟩:∃g,g=h1.alloc [.aS]:=⟨_,rfl⟩
 have n0:h.eO.next=h.next:=rfl
 have n1:h1.next=h.next+1:=by rw[eh1];simp
 have n2:h2.next=h.next+2:=by rw[eh2];simp [n1]
 have f2:h2.floor=h.next:=by rw[eh2,eh1];simp
 have x2:Ext h h2:=fun i c q=>by rw[eh2,eh1];exact(((Ext.refl h.eO).alloc _).alloc _) i c q
 have g0:h2.get h.next=some [v]:=by rw[eh2,xI (by omega),eh1];exact xE rfl
 have g1:h2.get (h.next+1)=some [.aS]:=by rw[eh2,xE (by omega)]
 have rd2:=rd.mono fun i c q=>x2 i c q
 have hv2:∀x∈l,yF h2 x∧x.2.sc=true:=fun x hx=>⟨(hv x hx).1.mono x2,(hv x hx).2⟩
 have rw2:=rw_.mono fun i c q=>x2 i c q
 have hm2:∀x∈m,yF h2 x∧x.2.sc=true∧yi x.1=true:=fun x hx=>⟨(hm x hx).1.mono x2,(hm x hx).2⟩
 have k1:=Ew h2 v l sv (by omega) rd2 hv2
 rw[fA]at k1
 obtain⟨e1,q1,q2,q3,q4⟩:=Ki rw2 hm2 m5 (.aG h.next 0) (.aG (h.next+1) 0) m [] rfl
 have q1':Lp AP.A [1,2,4,6] AP.f244L1 [(1,w),(2,.aG h.next 0),(4,.aG (h.next+1) 0),(6,.int .i64 0)] h2=some (.exit 0,e1,h2):=q1
 obtain⟨o,h3,k2,gen⟩:=JM h2 (by omega) v l sv (by omega) rd2 fun x hx=>⟨(hv2 x hx).1,(hv2 x hx).2,(Bt fA x.1 (aa6.2 ⟨x,hx,rfl⟩)).2.1⟩
 rw[PD]at gen
 obtain⟨L,hL⟩:∃L,L=l.map (·.1):=⟨_,rfl⟩
 have lL:L.length=l.length:=by rw[hL,aa0]
 rw[←hL]at gen fA ⊢
 have so:=gen.own.sc
 have co:=ye so
 have f3:h3.floor=h.next:=by rw[gen.fl,f2]
 have n3:h2.next≤h3.next:=gen.nx
 obtain⟨Z,hZ⟩:∃Z,Z=h3.next:=⟨_,rfl⟩
 obtain⟨h4,eh4⟩:∃g,g=h3.alloc [.aS]:=⟨_,rfl⟩
 obtain⟨h5,eh5⟩:∃g,g=h4.set Z [o]:=⟨_,rfl⟩
 have n5:h5.next=Z+1:=by rw[eh5,eh4];simp [hZ]
 have f4:h4.floor=h.next:=by rw[eh4];simp [f3]
 have f5:h5.floor=h.next:=by rw[eh5];simp [f4]
 have z4:h4.get Z=some [.aS]:=by rw[eh4,xE hZ]
 have z5:h5.get Z=some [o]:=by rw[eh5,xH rfl,z4];rfl
 have st5:vR h4 Z 0 1 [o] (some [.aS])=some h5:=by rw[wx (by omega) (by simp) so,eh5];rfl
 have low5:∀i,i<Z→h5.get i=h3.get i:=fun i hi=>by rw[eh5,xC (by omega),eh4,xI (by omega)]
 have x5:Ext h2 h5:=fun i c q=>by have:=h2.lt _ _ q;rw[low5 i (by omega)];exact gen.ext i c q
 have x35:Ext h3 h5:=fun i c q=>by have:=h3.lt _ _ q;rw[low5 i (by omega)];exact q
 have oZ:∀i,o.id?=some i→i<Z:=fun i q=>by rw[hZ];exact(gen.own.lt q).2
 have o5:x8 9 h5 o l.length (xG (L.map zP)):=gen.own.mono (by rw[f5,f3]) fun i q=>low5 i (oZ i q)
 have ro5:yM 9 h5 o (L.map zP).length (xG (L.map zP)):=by have:=o5.rd;rw[aa0,lL];exact this
 obtain⟨e2,h6,ov,r1,r2,r3,r4,r5,r6,r7,r8,r9,r10,r11,r12⟩:=Ke (rw2.mono fun i c q=>gen.ext i c q) (fun x hx=>⟨(hm2 x hx).1.mono gen.ext,(hm2 x hx).2⟩) m5 (h.next+1) Z (by omega) m [] rfl h5 o L x35 (by omega) (by omega) (by omega) z5 so ro5 (Hd fA) (by simp;omega)
 have r1':Lp AP.A [1,4,7,8] AP.f244L0 [(1,w),(4,.aG (h.next+1) 0),(7,.aG Z 0),(8,.int .i64 0)] h5=some (.exit 2,e2,h6):=r1
 obtain⟨F,hF⟩:∃F,F=(m.map (·.1)).foldl zr L:=⟨_,rfl⟩
 rw[←hF]at r9 r10 r11 r12 ⊢
 have okF:∀z∈F.map zP,yF h6 z∧z.2.sc=true:=fun z hz=>by
  obtain⟨e,he,rfl⟩:=aa6.1 hz
  unfold Cd at r10
  rw[wT,aba]at r10
  have:=Du h6 (r10.2 e he)
  exact⟨this.1,this.2.1⟩
 have kf:=Ot h6 ov (F.map zP) r8 (by rw[aa0];omega) r9 okF (fun q=>by rw[Ct];rw[aa0]at q;exact yB (Ow r10 q))
 rw[aa0]at kf
 have y1:h6.get (h.next+1)=some [.aS]:=r7 _ _ (by omega) (x5 _ _ g1)
 have cov:=ye r8
 have nz:h3.next=Z:=hZ.symm
 by_cases c:F.length≤6
 · rw [dt c] at kf
   obtain⟨h7,eh7⟩:∃g,g=h6.set (h.next+1) [ov]:=⟨_,rfl⟩
   have st7:vR h6 (h.next+1) 0 1 [ov] (some [.aS])=some h7:=by rw[wx (by omega) (by simp) r8,eh7];rfl
   have z7:h7.get (h.next+1)=some [ov]:=by rw[eh7,xH rfl,y1];rfl
   have e:Dt F=.bW [.agg [zW F],.int .i64 0]:=by unfold Dt;rw[if_pos c]
   rw[e]
   refine vP (fn:=AP.f244) (h2:=h7) (e:=[(4,.aG (h.next+1) 0),(5,.int .i64 0)]) (vs:=[.agg [ov],.int .i64 0]) rfl rfl rfl ?_ (by simp only[AP.f244,c9,oL,ou,mM,sX,z7,uX];rfl) ?_
   · clear rd hv rw_ hm x2 rd2 hv2 rw2 hm2 gen low5 x5 o5 ro5 r1 r9 r10 r12 okF q1 z7
     simp (disch:=omega)only[go_sem,xF,AP.f244,sv,n0,←eh1,n1,←eh2,g0,yx,k1,uo,q1',q2,q3,q4,k2,nz,←eh4,z4,co,so,st5,r1',r2,r3,r4,kf,y1,cov,r8,st7]
   · have hs:∀m',snap h7.get h.next (m'+2) true ov=some (zW F):=fun m'=>by
      rcases r12 with ⟨q1,q2,q3⟩|q1
      · have eF:F=L:=by rw[hF,q1];rfl
        have oo:x8 9 h7 o F.length (xG (F.map zP)):=by
         rw[eF,lL]
         refine o5.mono (by rw[eh7,q3];simp) fun i q=> ?_
         rw[eh7,q3,xC]
         have:=gen.ge i q;omega
        rw[q2]
        exact oo.DE (by rw[eh7];simp;omega)
      · rw[q1]
        unfold zW CG
        split
        · rfl
        · rfl
     have s1:snap h7.get h.next 15 true (.agg [ov])=some (.agg [zW F]):=by
      show(gH (snap h7.get h.next 14 true) [ov]).bind _=_
      simp only[gH,hs 12,wP]
     show(gH (snap h7.get h.next 15 true) [.agg [ov],.int .i64 0]).bind _=_
     simp only[gH,s1,wP]
     rfl
 · rw[df c]at kf
   have e:Dt F=.bW [.agg [.aS],.int .i64 1604]:=by unfold Dt;rw[if_neg c]
   rw[e]
   obtain⟨h7,eh7⟩:∃g,g=h6.set (h.next+1) [.aS]:=⟨_,rfl⟩
   have st7:vR h6 (h.next+1) 0 1 [.aS] (some [.aS])=some h7:=by rw[wx (by omega) (by simp) rfl,eh7];rfl
   have z7:h7.get (h.next+1)=some [.aS]:=by rw[eh7,xH rfl,y1];rfl
   refine vP (fn:=AP.f244) (h2:=h7) (e:=[(4,.aG (h.next+1) 0),(5,.int .i64 1604)]) (vs:=[.agg [.aS],.int .i64 1604]) rfl rfl rfl ?_ (by simp only[AP.f244,c9,oL,ou,mM,sX,z7,uX];rfl) rfl
   clear rd hv rw_ hm x2 rd2 hv2 rw2 hm2 gen low5 x5 o5 ro5 r1 r9 r10 r12 okF q1 z7
   simp (disch:=omega)only[go_sem,xF,AP.f244,sv,n0,←eh1,n1,←eh2,g0,yx,k1,uo,q1',q2,q3,q4,k2,nz,←eh4,z4,co,so,st5,r1',r2,r3,r4,kf,y1,st7]
def Y3:aI→aI
 | .seq a (.seq (.block _ _ _) _)=>a
 |c=>c
def Im:aI→aI
 | .seq _ (.seq (.block _ b _) _)=>b
 |c=>c
def Y5:aI→aI
 | .seq _ (.seq (.block _ _ _) c)=>c
 |c=>c
theorem Yg (a b c:aI) (n:Nat) (k:List Nat):Y3 (.seq a (.seq (.block n b k) c))=a:=rfl
theorem Bw (a b c:aI) (n:Nat) (k:List Nat):Im (.seq a (.seq (.block n b k) c))=b:=rfl
theorem Yh (a b c:aI) (n:Nat) (k:List Nat):Y5 (.seq a (.seq (.block n b k) c))=c:=rfl
theorem JC:AP.f243L0=.seq (Y3 AP.f243L0) (.seq (.block 3 (Im AP.f243L0) [2,3,5,6]) (Y5 AP.f243L0)):=rfl
theorem KK:Im AP.f243L0=.seq (at_ 0 (Im AP.f243L0)) (.seq (at_ 1 (Im AP.f243L0)) (.seq (at_ 2 (Im AP.f243L0)) (.seq (at_ 3 (Im AP.f243L0)) (.seq (at_ 4 (Im AP.f243L0)) (I9 5 (Im AP.f243L0)))))):=rfl
def Cg (x y:xP):Bool:=decide (x.xL=y.xL)&&decide (x.node=y.node)
def I5 (x y:xP):Bool:=(decide (Cf x.vec y.vec=0)||(decide (Cf x.vec y.vec=2)&&Ae x y))||((decide (Cf x.vec y.vec=1)&&(!Ae x y&& !Cg x y))||(Cg x y&& !B5 x y))
theorem NT (x y:xP):Cm x y=((x.name.toList==y.name.toList)&&(!Al x y&&I5 x y)):=rfl
theorem LH (a b:List Int):Cf a b=0∨Cf a b=1∨Cf a b=2∨Cf a b=3:=by
 unfold Cf
 split
 · simp
 · split
   · simp
   · split<;>simp
set_option maxHeartbeats 4000000 in
theorem Pj {G : H} {bA bB : Nat} {v w : AV} {l m : List xN} (fA : AX G bA v l) (fB : AX G bB w m) {i j : Nat} {x y : xN} (hx : l[i]? = some x) (hy : m[j]? = some y) (h : H) (low : Ext G h) (hn : G.next ≤ h.next) (hf : h.floor = G.floor) (fG : G.floor ≤ G.next) :
 ∃ h', Ext G h' ∧ G.next ≤ h'.next ∧ h'.floor = G.floor ∧ aO (aU AP.A) bH AP.f243L0 [(2, .aG bA 0), (3, .aG bB 0), (5, .int .i64 i), (6, .int .i64 j)] h =
   if Cm x.1 y.1=true then some (.ret,[(4,.bool true)],h')else some (.normal,[(2,.aG bA 0),(3,.aG bB 0),(5,.int .i64 i),(6,.int .i64 ((j:Int)+1))],h'):=by
 have il:i<l.length:=(wO.1 hx).1
 have jl:j<m.length:=(wO.1 hy).1
 have l6:=fA.len
 have m6:=fB.len
 have gA:=low _ _ fA.g
 have gB:=low _ _ fB.g
 have lnA:=fA.rd.len
 have lnB:=fB.rd.len
 obtain⟨ad,a1,a2⟩:=fA.at_
 obtain⟨bd,b1,b2⟩:=fB.at_
 obtain⟨i1,_,_⟩:=a1 i ⟨by omega,by omega⟩
 obtain⟨j1,_,_⟩:=b1 j ⟨by omega,by omega⟩
 obtain⟨N,hN⟩:∃N,N=h.next:=⟨_,rfl⟩
 obtain⟨h1,eh1⟩:∃g,g=h.alloc Z9:=⟨_,rfl⟩
 obtain⟨h2,eh2⟩:∃g,g=h1.alloc Z9:=⟨_,rfl⟩
 obtain⟨h3,eh3⟩:∃g,g=h2.set N (xA x.1 x.2):=⟨_,rfl⟩
 obtain⟨h4,eh4⟩:∃g,g=h3.set (N+1) (xA y.1 y.2):=⟨_,rfl⟩
 have n1:h1.next=N+1:=by rw[eh1,hN];simp
 have n2:h2.next=N+2:=by rw[eh2];simp [n1]
 have n4:h4.next=N+2:=by rw[eh4,eh3];simp [n2]
 have f2:h2.floor=G.floor:=by rw[eh2,eh1];simp [hf]
 have f3:h3.floor=G.floor:=by rw[eh3];simp [f2]
 have f4:h4.floor=G.floor:=by rw[eh4];simp [f3]
 have z1:h1.get N=some Z9:=by rw[eh1,xE hN]
 have z2:h2.get N=some Z9:=by rw[eh2,xI (by omega)];exact z1
 have y2:h2.get (N+1)=some Z9:=by rw[eh2,xE n1.symm]
 obtain⟨xo,xs⟩:=fA.ok x (wX hx)
 obtain⟨yo,ys⟩:=fB.ok y (wX hy)
 have st3:vR h2 N 0 9 (xA x.1 x.2) (some Z9)=some h3:=by rw[eh3];exact yl (by omega) rfl rfl (yH xs)
 have y3:h3.get (N+1)=some Z9:=by rw[eh3,xC (by omega)];exact y2
 have st4:vR h3 (N+1) 0 9 (xA y.1 y.2) (some Z9)=some h4:=by rw[eh4];exact yl (by omega) rfl rfl (yH ys)
 have z4:h4.get N=some (xA x.1 x.2):=by rw[eh4,xC (by omega),eh3,xH rfl,z2];rfl
 have y4:h4.get (N+1)=some (xA y.1 y.2):=by rw[eh4,xH rfl,y3];rfl
 have low4:∀k,k<N→h4.get k=h.get k:=fun k hk=>by rw[eh4,xC (by omega),eh3,xC (by omega),eh2,xI (by omega),eh1,xI (by omega)]
 have x4:Ext G h4:=fun k c q=>by have:=G.lt _ _ q;rw[low4 k (by omega)];exact low k c q
 refine⟨h4,x4,by omega,f4, ?_⟩
 have xA1:∀g,Ext h g→cf true 9 (ad i 0) g=some (.agg (xA x.1 x.2)):=fun g hg=>(a2 g (fun k c q=>hg k c (low k c q)) i x hx).2.2
 have yB1:∀g,Ext h g→cf true 9 (bd j 0) g=some (.agg (xA y.1 y.2)):=fun g hg=>(b2 g (fun k c q=>hg k c (low k c q)) j y hy).2.2
 have p0:=xA1 h (Ext.refl h)
 have p1:=xA1 h1 (by rw[eh1];exact(Ext.refl h).alloc _)
 have p2:=xA1 h2 (by rw[eh2,eh1];exact((Ext.refl h).alloc _).alloc _)
 have r0:=yB1 h (Ext.refl h)
 have r1:=yB1 h1 (by rw[eh1];exact(Ext.refl h).alloc _)
 have r2:=yB1 h2 (by rw[eh2,eh1];exact((Ext.refl h).alloc _).alloc _)
 have x03:Ext h h3:=fun k c q=>by have:=h.lt _ _ q;rw[eh3,xC (by omega),eh2,xI (by omega),eh1,xI (by omega)];exact q
 have r3:=yB1 h3 x03
 have gB3:=x03 _ _ gB
 have e1:h.alloc [.str ⟨#[]⟩,.bool false,.aS,.int .i64 0,.int .i64 0,.int .i64 0,.str ⟨#[]⟩,.int .i64 0,.int .i64 0]=h1:=eh1.symm
 have e2:h1.alloc [.str ⟨#[]⟩,.bool false,.aS,.int .i64 0,.int .i64 0,.int .i64 0,.str ⟨#[]⟩,.int .i64 0,.int .i64 0]=h2:=eh2.symm
 have hN':=hN.symm
 have lX:(xA x.1 x.2).length=9:=rfl
 have lY:(xA y.1 y.2).length=9:=rfl
 have cX:AV.aE (xA x.1 x.2)=true:=yH xs
 have cY:AV.aE (xA y.1 y.2)=true:=yH ys
 have rX:iO true 9 (xA x.1 x.2) 0=some (.agg (xA x.1 x.2)):=rfl
 have rY:iO true 9 (xA y.1 y.2) 0=some (.agg (xA y.1 y.2)):=rfl
 have xo4:=xo.mono x4
 have yo4:=yo.mono x4
 have ko:=Nf h4 x.2 y.2 x.1.vec y.1.vec xo4.vec yo4.vec (fA.vec (wX hx)) (fB.vec (wX hy))
 have ks:=Hu h4 x.1 y.1 x.2 y.2 xs ys xo4 yo4
 have kl:=N7 h4 x.1 y.1 x.2 y.2 xs ys xo4 yo4
 have kn:bC .neq (.str x.1.name) (.str y.1.name)=some (.bool (!(x.1.name.toList==y.1.name.toList))):=by rw[BV,Ac,Ac]
 have c0:(xA x.1 x.2)[0]?=some (.str x.1.name):=rfl
 have c2:(xA x.1 x.2)[2]?=some x.2:=rfl
 have c3:(xA x.1 x.2)[3]?=some (.int .i64 x.1.xL):=rfl
 have c4:(xA x.1 x.2)[4]?=some (.int .i64 x.1.node):=rfl
 have d0:(xA y.1 y.2)[0]?=some (.str y.1.name):=rfl
 have d2:(xA y.1 y.2)[2]?=some y.2:=rfl
 have d3:(xA y.1 y.2)[3]?=some (.int .i64 y.1.xL):=rfl
 have d4:(xA y.1 y.2)[4]?=some (.int .i64 y.1.node):=rfl
 have O4:=LH x.1.vec y.1.vec
 obtain⟨O,hO⟩:∃O,O=Cf x.1.vec y.1.vec:=⟨_,rfl⟩
 have eT:=NT x.1 y.1
 have eC:I5 x.1 y.1=((decide (O=0)||(decide (O=2)&&Ae x.1 y.1))||((decide (O=1)&&(!Ae x.1 y.1&& !Cg x.1 y.1))||(Cg x.1 y.1&& !B5 x.1 y.1))):=by rw[hO];rfl
 rw[←hO]at ko O4
 have wB:Ae x.1 y.1=(decide (x.1.xL<y.1.xL)||(decide (x.1.xL=y.1.xL)&&decide (x.1.node<y.1.node))):=rfl
 have sB:Cg x.1 y.1=(decide (x.1.xL=y.1.xL)&&decide (x.1.node=y.1.node)):=rfl
 have ltm:(j:Int)<(m.length:Int):=by omega
 have wa:IntKind.wrap .i64 ((j:Int)+1)=(j:Int)+1:=wi (by omega)
 clear fA fB a1 a2 b1 b2 xA1 yB1 x03 xo yo xo4 yo4 x4 low4 low hx hy eh1 eh2 eh3 eh4 y2 hN hn hf fG f2 f3 f4 n4
 generalize xA x.1 x.2=X at *
 generalize xA y.1 y.2=Y at *
 have q0:aO (aU AP.A) bH (at_ 0 (Im AP.f243L0)) [(2,.aG bA 0),(3,.aG bB 0),(5,.int .i64 i),(6,.int .i64 j)] h=some (.normal,[(2,.aG bA 0),(3,.aG bB 0),(5,.int .i64 i),(6,.int .i64 j),(7,.aG N 0),(8,.aG (N+1) 0)],h4):=by
  simp (disch:=omega)only[go_sem,xF,AP.f243L0,Bw,yz,yD,gA,gB,gB3,yx,i1,j1,p0,p1,p2,r0,r1,r2,r3,e1,e2,hN',n1,z1,z2,st3,y3,st4,lX,lY,cX,cY]
 have q1:aO (aU AP.A) bH (at_ 1 (Im AP.f243L0)) [(2,.aG bA 0),(3,.aG bB 0),(5,.int .i64 i),(6,.int .i64 j),(7,.aG N 0),(8,.aG (N+1) 0)] h4=some (.normal,[(2,.aG bA 0),(3,.aG bB 0),(5,.int .i64 i),(6,.int .i64 j),(7,.aG N 0),(8,.aG (N+1) 0),(9,.int .i64 O)],h4):=by
  clear q0
  simp (disch:=omega)only[go_sem,xF,AP.f243L0,Bw,yz,yD,z4,y4,c2,d2,ko]
 have hH:aO (aU AP.A) bH (Y3 AP.f243L0) [(2,.aG bA 0),(3,.aG bB 0),(5,.int .i64 i),(6,.int .i64 j)] h=some (.normal,[(2,.aG bA 0),(3,.aG bB 0),(5,.int .i64 i),(6,.int .i64 j)],h):=by
  clear q0 q1
  simp (disch:=omega)only[go_sem,xF,AP.f243L0,Yg,gB,lnB,dt ltm]
 have hS:aO (aU AP.A) bH (Y5 AP.f243L0) [(2,.aG bA 0),(3,.aG bB 0),(5,.int .i64 i),(6,.int .i64 j)] h4=some (.normal,[(2,.aG bA 0),(3,.aG bB 0),(5,.int .i64 i),(6,.int .i64 ((j:Int)+1))],h4):=by
  clear q0 q1 hH
  simp (disch:=omega)only[go_sem,xF,AP.f243L0,Yh,wa]
 have skip:(x.1.name.toList==y.1.name.toList)=false∨Al x.1 y.1=true→∃E,aO (aU AP.A) bH (Im AP.f243L0) [(2,.aG bA 0),(3,.aG bB 0),(5,.int .i64 i),(6,.int .i64 j)] h=some (.exit 3,E,h4)∧ay E [2,3,5,6]=[(2,.aG bA 0),(3,.aG bB 0),(5,.int .i64 i),(6,.int .i64 j)]:=fun hc=>by
  refine⟨[(2,.aG bA 0),(3,.aG bB 0),(5,.int .i64 i),(6,.int .i64 j),(7,.aG N 0),(8,.aG (N+1) 0),(9,.int .i64 O),(54,.bool true)], ?_,rfl⟩
  rw[KK,ua,q0,uH,ua,q1,uH]
  clear q0 q1 hH hS
  cases cn:(x.1.name.toList==y.1.name.toList)with
  | false =>
    rw[cn]at kn
    simp (disch:=omega)only[go_sem,xF,AP.f243L0,Bw,yz,yD,z4,y4,c0,d0,kn]
  | true =>
    rw[cn]at kn hc
    have hs:Al x.1 y.1=true:=hc.resolve_left (by decide)
    rw[hs]at ks
    simp (disch:=omega)only[go_sem,xF,AP.f243L0,Bw,yz,yD,z4,y4,c0,d0,kn,rX,rY,ks]
 rw[JC,ua,hH,uH]
 cases cn:(x.1.name.toList==y.1.name.toList)with
 | false =>
   rw[eT,cn,aa4,if_neg (by decide)]
   obtain⟨E,hB,hE⟩:=skip (.inl cn)
   clear q0 q1 hH skip
   simp (disch:=omega)only[go_sem,xF,hB,hE,hS]
 | true =>
   cases cs:Al x.1 y.1 with
   | true =>
     rw[eT,cn,cs,aa3,Bool.not_true,aa4,if_neg (by decide)]
     obtain⟨E,hB,hE⟩:=skip (.inr cs)
     clear q0 q1 hH skip
     simp (disch:=omega)only[go_sem,xF,hB,hE,hS]
   | false =>
     rw[eT,cn,cs,aa3,Bool.not_false,aa3]
     rw[cn]at kn
     rw[cs]at ks
     have q2:aO (aU AP.A) bH (at_ 2 (Im AP.f243L0)) [(2,.aG bA 0),(3,.aG bB 0),(5,.int .i64 i),(6,.int .i64 j),(7,.aG N 0),(8,.aG (N+1) 0),(9,.int .i64 O)] h4=some (.normal,[(2,.aG bA 0),(3,.aG bB 0),(5,.int .i64 i),(6,.int .i64 j),(7,.aG N 0),(8,.aG (N+1) 0),(9,.int .i64 O)],h4):=by
      clear q0 q1 hH hS skip
      simp (disch:=omega)only[go_sem,xF,AP.f243L0,Bw,yz,yD,z4,y4,c0,d0,kn,rX,rY,ks]
     have q3 : aO (aU AP.A) bH (at_ 3 (Im AP.f243L0)) [(2, .aG bA 0), (3, .aG bB 0), (5, .int .i64 i), (6, .int .i64 j), (7, .aG N 0), (8, .aG (N + 1) 0), (9, .int .i64 O)] h4 = some (.normal, [(2, .aG bA 0), (3, .aG bB 0), (5, .int .i64 i), (6, .int .i64 j), (7, .aG N 0), (8, .aG (N + 1) 0), (9, .int .i64 O), (11, .bool (Ae x.1 y.1))], h4) := by
      clear q0 q1 hH hS skip q2
      rw[wB]
      by_cases u1:x.1.xL<y.1.xL
      · rw[dt u1,Bool.true_or]
        simp (disch:=omega)only[go_sem,xF,AP.f243L0,Bw,yz,yD,z4,y4,c3,d3,dt u1]
      · by_cases u2:x.1.xL=y.1.xL
        · by_cases u3:x.1.node<y.1.node
          · rw[df u1,dt u2,dt u3,abp,aa3]
            simp (disch:=omega)only[go_sem,xF,AP.f243L0,Bw,yz,yD,z4,y4,c3,d3,c4,d4,u2,dt u3]
          · rw[df u1,dt u2,df u3,abp,aa3]
            simp (disch:=omega)only[go_sem,xF,AP.f243L0,Bw,yz,yD,z4,y4,c3,d3,c4,d4,u2,df u3]
        · rw[df u1,df u2,abp,aa4]
          have u4:¬y.1.xL=x.1.xL:=fun q=>u2 q.symm
          simp (disch:=omega)only[go_sem,xF,AP.f243L0,Bw,yz,yD,z4,y4,c3,d3,df u1,u4]
     have q4:aO (aU AP.A) bH (at_ 4 (Im AP.f243L0)) [(2,.aG bA 0),(3,.aG bB 0),(5,.int .i64 i),(6,.int .i64 j),(7,.aG N 0),(8,.aG (N+1) 0),(9,.int .i64 O),(11,.bool (Ae x.1 y.1))] h4=some (.normal,[(2,.aG bA 0),(3,.aG bB 0),(5,.int .i64 i),(6,.int .i64 j),(7,.aG N 0),(8,.aG (N+1) 0),(9,.int .i64 O),(11,.bool (Ae x.1 y.1)),(12,.bool (Cg x.1 y.1))],h4):=by
      clear q0 q1 hH hS skip q2 q3
      rw[sB]
      generalize Ae x.1 y.1=WB at *
      by_cases u2:x.1.xL=y.1.xL
      · by_cases u3:x.1.node=y.1.node
        · rw[dt u2,dt u3,aa3]
          simp (disch:=omega)only[go_sem,xF,AP.f243L0,Bw,yz,yD,z4,y4,c3,d3,c4,d4,u2,u3]
        · rw[dt u2,df u3,aa3]
          simp (disch:=omega)only[go_sem,xF,AP.f243L0,Bw,yz,yD,z4,y4,c3,d3,c4,d4,u2,u3]
      · rw[df u2,aa4]
        simp (disch:=omega)only[go_sem,xF,AP.f243L0,Bw,yz,yD,z4,y4,c3,d3,u2]
     have q5:aO (aU AP.A) bH (I9 5 (Im AP.f243L0)) [(2,.aG bA 0),(3,.aG bB 0),(5,.int .i64 i),(6,.int .i64 j),(7,.aG N 0),(8,.aG (N+1) 0),(9,.int .i64 O),(11,.bool (Ae x.1 y.1)),(12,.bool (Cg x.1 y.1))] h4=if I5 x.1 y.1=true then some (.ret,[(4,.bool true)],h4)else some (.normal,[(2,.aG bA 0),(3,.aG bB 0),(5,.int .i64 i),(6,.int .i64 j)],h4):=by
      clear q0 q1 hH hS skip q2 q3 q4 eT
      rw[eC]
      clear eC hO wB sB kn ks ko cn cs
      generalize Ae x.1 y.1=WB at *
      generalize Cg x.1 y.1=SB at *
      generalize B5 x.1 y.1=LB at *
      have o1:decide ((0:Int)=0)=true:=rfl
      have o2:decide ((1:Int)=0)=false:=rfl
      have o3:decide ((1:Int)=2)=false:=rfl
      have o4:decide ((1:Int)=1)=true:=rfl
      have o5:decide ((2:Int)=0)=false:=rfl
      have o6:decide ((2:Int)=2)=true:=rfl
      have o7:decide ((2:Int)=1)=false:=rfl
      have o8:decide ((3:Int)=0)=false:=rfl
      have o9:decide ((3:Int)=2)=false:=rfl
      have oA:decide ((3:Int)=1)=false:=rfl
      rcases O4 with rfl|rfl|rfl|rfl<;>cases WB<;>cases SB<;>cases LB<;>simp (disch:=omega)only[go_sem,xF,AP.f243L0,Bw,CW,CV,z4,y4,rX,rY,kl,o1,o2,o3,o4,o5,o6,o7,o8,o9,oA,Bool.true_or,Bool.or_true,Bool.or_false,abp,abD,aa9,aa3,aa4,if_true,xp,wR]
     have hB:aO (aU AP.A) bH (Im AP.f243L0) [(2,.aG bA 0),(3,.aG bB 0),(5,.int .i64 i),(6,.int .i64 j)] h=if I5 x.1 y.1=true then some (.ret,[(4,.bool true)],h4)else some (.normal,[(2,.aG bA 0),(3,.aG bB 0),(5,.int .i64 i),(6,.int .i64 j)],h4):=by
      rw[KK,ua,q0,uH,ua,q1,uH,ua,q2,uH,ua,q3,uH,ua,q4,uH];exact q5
     clear q0 q1 hH skip q2 q3 q4 q5
     cases ct:I5 x.1 y.1 with
     | true =>
       rw[ct,if_pos rfl]at hB
       rw[if_pos rfl]
       simp (disch:=omega)only[go_sem,xF,hB]
     | false =>
       rw[ct,if_neg (by decide)]at hB
       rw[if_neg (by decide)]
       simp (disch:=omega)only[go_sem,xF,hB,hS]
theorem Qi {G:H} {bA bB:Nat} {v w:AV} {l m:List xN} (fA:AX G bA v l) (fB:AX G bB w m) {i:Nat} {x:xN} (hx:l[i]?=some x) (fG:G.floor≤G.next):∀(q p:List xN),m=p++q→∀h:H,Ext G h→G.next≤h.next→h.floor=G.floor→
 ∃ e' h', Ext G h' ∧ G.next ≤ h'.next ∧ h'.floor = G.floor ∧ ((Lp AP.A [2, 3, 5, 6] AP.f243L0 [(2, .aG bA 0), (3, .aG bB 0), (5, .int .i64 i), (6, .int .i64 p.length)] h = some (.exit 2, e', h') ∧ ay e' [2, 3, 5] = [(2, .aG bA 0), (3, .aG bB 0), (5, .int .i64 i)] ∧ (q.any fun y => Cm x.1 y.1) = false) ∨
   (Lp AP.A [2,3,5,6] AP.f243L0 [(2,.aG bA 0),(3,.aG bB 0),(5,.int .i64 i),(6,.int .i64 p.length)] h=some (.ret,e',h')∧e'=[(4,.bool true)]∧(q.any fun y=>Cm x.1 y.1)=true))
 | [], p, hp, h, low, hn, hf => by
   rw[aa2]at hp;subst hp
   have gB:=low _ _ fB.g
   have lnB:=fB.rd.len
   refine⟨[(2,.aG bA 0),(3,.aG bB 0),(5,.int .i64 i),(6,.int .i64 m.length),(24,.bool false)],h,low,hn,hf,.inl ⟨u6 ?_,rfl,rfl⟩⟩
   clear fA fB low hx
   simp (disch:=omega)only[go_sem,xF,AP.f243L0,gB,lnB]
 | y :: q, p, hp, h, low, hn, hf => by
   have hy:m[p.length]?=some y:=by rw[hp];simp
   obtain⟨h1,x1,n1,f1,step⟩:=Pj fA fB hx hy h low hn hf fG
   have w1:(((p++[y]).length:Nat):Int)=(p.length:Int)+1:=by simp
   cases ct:Cm x.1 y.1 with
   | true =>
     rw[ct,if_pos rfl]at step
     exact⟨_,h1,x1,n1,f1,.inr ⟨vF step,rfl,by rw[List.any_cons,ct];rfl⟩⟩
   | false =>
     rw[ct,if_neg (by decide)]at step
     obtain⟨e',h2,x2,n2,f2,r⟩:=Qi fA fB hx fG q (p++[y]) (by rw[hp];simp) h1 x1 n1 f1
     rw[w1]at r
     refine⟨e',h2,x2,n2,f2, ?_⟩
     rcases r with ⟨r1,r2,r3⟩|⟨r1,r2,r3⟩
     · exact .inl ⟨u9 step r1,r2,by rw[List.any_cons,ct,r3];rfl⟩
     · exact .inr ⟨u9 step r1,r2,by rw[List.any_cons,ct,r3];rfl⟩
theorem NR {G : H} {bA bB : Nat} {v w : AV} {l m : List xN} (fA : AX G bA v l) (fB : AX G bB w m) (fG : G.floor ≤ G.next) : ∀ (q p : List xN), l = p ++ q → ∀ h : H, Ext G h → G.next ≤ h.next → h.floor = G.floor →
 ∃ e' h', ((Lp AP.A [2, 3, 5] AP.f243L1 [(2, .aG bA 0), (3, .aG bB 0), (5, .int .i64 p.length)] h = some (.exit 0, e', h') ∧ (q.any fun x => m.any fun y => Cm x.1 y.1) = false) ∨
   (Lp AP.A [2,3,5] AP.f243L1 [(2,.aG bA 0),(3,.aG bB 0),(5,.int .i64 p.length)] h=some (.ret,e',h')∧e'=[(4,.bool true)]∧(q.any fun x=>m.any fun y=>Cm x.1 y.1)=true))
 | [], p, hp, h, low, hn, hf => by
   rw[aa2]at hp;subst hp
   have gA:=low _ _ fA.g
   have lnA:=fA.rd.len
   refine⟨[(2,.aG bA 0),(3,.aG bB 0),(5,.int .i64 l.length),(17,.bool false)],h,.inl ⟨u6 ?_,rfl⟩⟩
   clear fA fB low
   simp (disch:=omega)only[go_sem,xF,AP.f243L1,gA,lnA]
 | x :: q, p, hp, h, low, hn, hf => by
   have hx:l[p.length]?=some x:=by rw[hp];simp
   have il:p.length<l.length:=(wO.1 hx).1
   have gA:=low _ _ fA.g
   have lnA:=fA.rd.len
   have l6:=fA.len
   obtain⟨e1,h1,x1,n1,f1,r⟩:=Qi fA fB hx fG m [] rfl h low hn hf
   have w1:(((p++[x]).length:Nat):Int)=(p.length:Int)+1:=by simp
   have wa:IntKind.wrap .i64 ((p.length:Int)+1)=(p.length:Int)+1:=wi (by omega)
   have lt:(p.length:Int)<(l.length:Int):=by omega
   rcases r with ⟨r1,r2,r3⟩|⟨r1,r2,r3⟩
   · have r1':Lp AP.A [2,3,5,6] AP.f243L0 [(2,.aG bA 0),(3,.aG bB 0),(5,.int .i64 p.length),(6,.int .i64 0)] h=some (.exit 2,e1,h1):=r1
     obtain⟨e',h2,s⟩:=NR fA fB fG q (p++[x]) (by rw[hp];simp) h1 x1 n1 f1
     rw[w1]at s
     have step:aO (aU AP.A) bH AP.f243L1 (ay [(2,.aG bA 0),(3,.aG bB 0),(5,.int .i64 p.length)] [2,3,5]) h=some (.normal,[(2,.aG bA 0),(3,.aG bB 0),(5,.int .i64 ((p.length:Int)+1))],h1):=by
      clear s fA fB low r1 hx hp
      simp (disch:=omega)only[go_sem,xF,AP.f243L1,gA,lnA,dt lt,uo,r1',r2,wa]
     refine⟨e',h2, ?_⟩
     rcases s with ⟨s1,s2⟩|⟨s1,s2,s3⟩
     · exact .inl ⟨u9 step s1,by rw[List.any_cons,r3,s2];rfl⟩
     · exact .inr ⟨u9 step s1,s2,by rw[List.any_cons,r3,s3];rfl⟩
   · have r1':Lp AP.A [2,3,5,6] AP.f243L0 [(2,.aG bA 0),(3,.aG bB 0),(5,.int .i64 p.length),(6,.int .i64 0)] h=some (.ret,[(4,.bool true)],h1):=by rw[←r2];exact r1
     refine⟨[(4,.bool true)],h1,.inr ⟨vF ?_,rfl,by rw[List.any_cons,r3];rfl⟩⟩
     clear fA fB low r1 hx hp
     simp (disch:=omega)only[go_sem,xF,AP.f243L1,gA,lnA,dt lt,uo,r1']
theorem VD (h:H) (v w:AV) (l m:List xN) (sv:v.sc=true) (sw:w.sc=true) (rd:yM 9 h v l.length (xG l)) (rw_:yM 9 h w m.length (xG m)) (hv:∀x∈l,yF h x∧x.2.sc=true) (hw:∀x∈m,yF h x∧x.2.sc=true) (cA:yh (l.map (·.1))=true) (cB:yh (m.map (·.1))=true):
 aU AP.A 243 [.agg [v],.agg [w]] h=some (.bool (DG (l.map (·.1)) (m.map (·.1))),h):=by
 obtain⟨h1,eh1⟩:∃g,g=h.eO.alloc [v]:=⟨_,rfl⟩
 obtain⟨h2,eh2⟩:∃g,g=h1.alloc [w]:=⟨_,rfl⟩
 have n0:h.eO.next=h.next:=rfl
 have n1:h1.next=h.next+1:=by rw[eh1];simp
 have n2:h2.next=h.next+2:=by rw[eh2];simp [n1]
 have f2:h2.floor=h.next:=by rw[eh2,eh1];simp
 have x2:Ext h h2:=fun i c q=>by rw[eh2,eh1];exact(((Ext.refl h.eO).alloc _).alloc _) i c q
 have gA:h2.get h.next=some [v]:=by rw[eh2,xI (by omega),eh1];exact xE rfl
 have gB:h2.get (h.next+1)=some [w]:=by rw[eh2,xE (by omega)]
 have fA:AX h2 h.next v l:=⟨gA,sv,rd.mono fun i c q=>x2 i c q,fun z hz=>⟨(hv z hz).1.mono x2,(hv z hz).2⟩,cA⟩
 have fB:AX h2 (h.next+1) w m:=⟨gB,sw,rw_.mono fun i c q=>x2 i c q,fun z hz=>⟨(hw z hz).1.mono x2,(hw z hz).2⟩,cB⟩
 have eB:DG (l.map (·.1)) (m.map (·.1))=l.any fun x=>m.any fun y=>Cm x.1 y.1:=by unfold DG;rw[List.any_map];congr 1;funext x;rw[Function.comp,List.any_map];rfl
 rw[eB]
 obtain⟨e',h3,r⟩:=NR fA fB (by omega) l [] rfl h2 (Ext.refl _) (wU _) rfl
 rcases r with ⟨r1,r2⟩|⟨r1,r2,r3⟩
 · have r1':Lp AP.A [2,3,5] AP.f243L1 [(2,.aG h.next 0),(3,.aG (h.next+1) 0),(5,.int .i64 0)] h2=some (.exit 0,e',h3):=r1
   rw[r2]
   refine vP (fn:=AP.f243) (h2:=h3) (e:=[(4,.bool false)]) rfl rfl rfl ?_ rfl rfl
   clear rd hv rw_ hw x2 fA fB r1
   simp (disch:=omega)only[go_sem,xF,AP.f243,sv,sw,n0,←eh1,n1,←eh2,uo,r1']
 · have r1':Lp AP.A [2,3,5] AP.f243L1 [(2,.aG h.next 0),(3,.aG (h.next+1) 0),(5,.int .i64 0)] h2=some (.ret,[(4,.bool true)],h3):=by rw[←r2];exact r1
   rw[r3]
   refine vP (fn:=AP.f243) (h2:=h3) (e:=[(4,.bool true)]) rfl rfl rfl ?_ rfl rfl
   clear rd hv rw_ hw x2 fA fB r1
   simp (disch:=omega)only[go_sem,xF,AP.f243,sv,sw,n0,←eh1,n1,←eh2,uo,r1']
end Ab
