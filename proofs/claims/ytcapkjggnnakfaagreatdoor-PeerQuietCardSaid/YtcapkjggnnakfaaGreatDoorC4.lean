/- Part C4. -/
import Derived.Test.YtcapkjggnnakfaaGreatDoorC3
set_option linter.unusedSimpArgs false
set_option linter.unusedVariables false
set_option maxRecDepth 100000
namespace Ab
open Go
structure HR (B G:H) (S M O:Nat) (v w:AV) (l:List vF) (x:wc):Prop where
 sd:Sd B v w l
 ox:zl B x
 gS:G.get S=some [v,w]
 gM:G.get M=some (u9 x)
 ne:S≠O∧M≠O
 Tj:Ext B G
 BO:B.next≤O
 ON:O<G.next
 fO:G.floor≤O
 fG:G.floor≤G.next
theorem HR.ext {B G h:H} {S M O:Nat} {v w:AV} {l:List vF} {x:wc} (k:HR B G S M O v w l x) (low:∀i c,i≠O→G.get i=some c→h.get i=some c):Ext B h:=fun i c q=>by
 have:=B.lt _ _ q
 have:=k.BO
 exact low i c (by omega) (k.Tj i c q)
theorem HR.S_ {B G h:H} {S M O:Nat} {v w:AV} {l:List vF} {x:wc} (k:HR B G S M O v w l x) (low:∀i c,i≠O→G.get i=some c→h.get i=some c):h.get S=some [v,w]∧h.get M=some (u9 x):=
 ⟨low S _ k.ne.1 k.gS,low M _ k.ne.2 k.gM⟩
def v9:Nat→List Int→List Int→List Int
 |i,d::ds,m::ms=>if m=d then v9 (i+1) ds ms else(i:Int)::v9 (i+1) ds ms
 |_,_,_=>[]
theorem zF:∀(ds ms:List Int) (i:Nat) (p:Option Int),i+ds.length≤8→(∀q,p=some q→q<i)→xF p (v9 i ds ms)=true
 |[],_,_,_,_,_=>by simp [v9,xF]
 |_::_,[],_,_,_,_=>by simp [v9,xF]
 | d :: ds, m :: ms, i, p, hl, hp => by
   rw[UR]at hl
   unfold v9
   split
   · exact zF ds ms (i+1) p (by omega) fun q hq=>by have:=hp q hq;omega
   · unfold xF
     simp only[uG,UY]
     refine⟨⟨by omega,by omega, ?_⟩,zF ds ms (i+1) _ (by omega) fun q hq=>by have:=uv hq;omega⟩
     cases p with
     |none=>rfl
     |some q=>exact dt (hp q rfl)
theorem zE:∀(ds ms:List Int) (i:Nat),(v9 i ds ms).length≤ds.length
 |[],_,_=>by simp [v9]
 |_::_,[],_=>by simp [v9]
 | d :: ds, m :: ms, i => by
   unfold v9
   have:=zE ds ms (i+1)
   split<;>simp only[UR]<;>omega
theorem CT {B G : H} {S M O : Nat} {v w : AV} {l : List vF} {x y : wc} (k3 : HR B G S M O v w l x) (l8 : x.m.wA.length = 8) : ∀ (q p r p' : List Int), vK (l.map (·.1)) = p ++ q → x.m.wA = p' ++ r → p.length = p'.length → ∀ (h : H) (ov : AV) (acc : List Int), (∀ i c, i ≠ O → G.get i = some c → h.get i = some c) → G.next ≤ h.next → h.floor = G.floor → h.get O = some (u9 { y with vb := ov }) →
 vM 1 h ov acc.length (ints acc)→(∀j,ov.id?=some j→G.next≤j)→acc.length≤p.length→
 ∃ e' h' ov', Lp AP.A [0, 1, 2, 12, 13, 14] AP.f301L0 [(0, .aC S 0), (1, .aC M 0), (2, .aC O 0), (12, w), (13, .int .i64 8), (14, .int .i64 p.length)] h = some (.exit 0, e', h') ∧ look e' 0 = .aC S 0 ∧ look e' 2 = .aC O 0 ∧
   (∀i c,i≠O→G.get i=some c→h'.get i=some c)∧G.next≤h'.next∧h'.floor=G.floor∧h'.get O=some (u9 {y with vb:=ov'})∧vM 1 h' ov' (acc++v9 p.length q r).length (ints (acc++v9 p.length q r))∧∀j,ov'.id?=some j→G.next≤j
 | [], p, r, p', hp, hp', hpp, h, ov, acc, low, hn, hf, hg, o, ho, ha => by
   rw[UX]at hp
   have e8:p.length=8:=by rw[←hp,vI]
   refine⟨[(0,.aC S 0),(1,.aC M 0),(2,.aC O 0),(12,w),(13,.int .i64 8),(14,.int .i64 p.length),(15,.bool false)],h,ov,sY ?_,rfl,rfl,low,hn,hf,hg,by simpa [v9]using o,ho⟩
   rw[e8]
   clear low o hp hp'
   simp (disch:=omega)only[go_sem,vh,AP.f301L0]
 | d :: q, p, [], p', hp, hp', hpp, h, ov, acc, low, hn, hf, hg, o, ho, ha => by
   have:=Vi List.length hp
   rw[vI]at this
   rw[hp']at l8
   simp at l8 this;omega
 | d :: q, p, m :: r, p', hp, hp', hpp, h, ov, acc, low, hn, hf, hg, o, ho, ha => by
   have e8:=Vi List.length hp
   rw[vI]at e8
   simp only[uZ,UR]at e8
   have xB:=k3.ext low
   obtain⟨gS,gM⟩:=k3.S_ low
   have rw1:=k3.sd.dg
   obtain⟨ad,a1,a2⟩:=rw1.wI
   have b1:=a1 p.length ⟨by omega,by rw[vI];omega⟩
   have b2:=a2 h xB p.length d (by rw[hp];simp)
   obtain⟨cd,c1,c2⟩:=k3.ox.rd.wI
   have d1:=c1 p.length ⟨by omega,by rw[l8];omega⟩
   have d2:=c2 h xB p.length m (by rw[hp',hpp];simp)
   have e4:(u9 x)[4]?=some x.vd:=rfl
   have w1:(((p++[d]).length:Nat):Int)=(p.length:Int)+1:=by simp
   by_cases c:m=d
   · obtain⟨e',h',ov',r1,r2,r3,r4,r5,r6,r7,r8,r9⟩:=CT k3 l8 q (p++[d]) r (p'++[m]) (by rw[hp];simp) (by rw[hp'];simp) (by simp [hpp]) h ov acc low hn hf hg o ho (by simp;omega)
     rw[w1]at r1
     have eu:v9 p.length (d::q) (m::r)=v9 (p++[d]).length q r:=by rw[v9,if_pos c,uZ];rfl
     rw[eu]
     refine⟨e',h',ov',sZ ?_ r1,r2,r3,r4,r5,r6,r7,r8,r9⟩
     clear r1 r4 r8 r9 low o a1 a2 c1 c2 hp hp' xB
     generalize u9 x=X at *
     simp (disch:=omega)only[go_sem,vh,AP.f301L0,b1,b2,gM,e4,d1,d2,KY c]
   · obtain⟨v',h1,p1,p2,p3,p4,p5,p6⟩:=o.push (by have:=k3.fG;omega) (z:=8) (m:=1) (by omega) (by omega) [.int .i64 p.length] rfl rfl (by simp [roomy];omega)
     have ea:ints acc++[.int .i64 p.length]=ints (acc++[(p.length:Int)]):=by simp [ints,I]
     have el:acc.length+1=(acc++[(p.length:Int)]).length:=by simp
     rw[ea,el]at p2
     have sv:=p2.sc
     have cv:=wZ sv
     have hO:=h.lt _ _ hg
     have oO:ov.id?≠some O:=fun q2=>by have:=ho O q2;have:=k3.ON;omega
     have g1:h1.get O=some (u9 {y with vb:=ov}):=by rw[p5 O oO hO];exact hg
     obtain⟨h2,eh2⟩:∃g,g=h1.set O (u9 {y with vb:=v'}):=⟨_,rfl⟩
     have st:tO h1 O 5 1 [v'] (some (u9 {y with vb:=ov}))=some h2:=by rw[uh (by have:=k3.fO;omega) (by show 5<9;omega) sv,eh2];rfl
     have g2:h2.get O=some (u9 {y with vb:=v'}):=by rw[eh2,vA rfl,g1];rfl
     have vj:∀j,v'.id?=some j→j=h.next+1:=fun j q2=>by rw[p6]at q2;exact(uv q2).symm
     obtain⟨e',h',ov',r1,r2,r3,r4,r5,r6,r7,r8,r9⟩:=CT k3 l8 q (p++[d]) r (p'++[m]) (by rw[hp];simp) (by rw[hp'];simp) (by simp [hpp]) h2 v' (acc++[(p.length:Int)])
      (fun i c c2 q3=>by have:=G.lt _ _ q3;rw[eh2,vp c2,p5 i (fun q2=>by have:=ho i q2;omega) (by omega)];exact low i c c2 q3) (by rw[eh2];simp;omega) (by rw[eh2];simp [p3,hf]) g2
      (p2.mono (by rw[eh2];simp) fun i q2=>by have:=vj i q2;rw[eh2,vp (by omega)]) (fun j q2=>by have:=vj j q2;omega) (by simp;omega)
     rw[w1]at r1
     have eu:acc++v9 p.length (d::q) (m::r)=(acc++[(p.length:Int)])++v9 (p++[d]).length q r:=by rw[v9,if_neg c,uZ];simp
     rw[eu]
     refine⟨e',h',ov',sZ ?_ r1,r2,r3,r4,r5,r6,r7,r8,r9⟩
     have e5:(u9 {y with vb:=ov})[5]?=some ov:=rfl
     clear r1 r4 r8 r9 low o a1 a2 c1 c2 hp hp' xB p2 p5
     generalize u9 x=X at *
     generalize u9 {y with vb:=ov}=Y1 at *
     generalize u9 {y with vb:=v'}=Y2 at *
     simp (disch:=omega)only[go_sem,vh,AP.f301L0,b1,b2,gM,e4,d1,d2,PK c,hg,e5,p1,g1,cv,st]
def xL (L:List vQ) (ms:List Int):List Int:=v9 0 (vK L) ms
theorem En:AP.f301.body=.seq (at_ 0 AP.f301.body) (.seq (at_ 1 AP.f301.body) (.seq (at_ 2 AP.f301.body) (.seq (at_ 3 AP.f301.body) (F3 4 AP.f301.body)))):=rfl
theorem HJ {B G:H} {S M O:Nat} {v w:AV} {l:List vF} {x y:wc} (k3:HR B G S M O v w l x) (sv:v.sc=true) (l8:x.m.wA.length=8) (gO:G.get O=some (u9 y)) (y0:y.vb=.aO):
 ∃ h' ov ow acc, aQ AP.A 301 [.aC S 0, .aC M 0, .aC O 0] G = some (.bool (decide (0 < (xL (l.map (·.1)) x.m.wA).length)), h') ∧ (∀ i c, i ≠ O → G.get i = some c → h'.get i = some c) ∧ G.next ≤ h'.next ∧ h'.floor = G.floor ∧
   h'.get O=some (u9 {y with m:={y.m with kind:=2},vb:=ov,vf:=ow})∧vM 1 h' ov (xL (l.map (·.1)) x.m.wA).length (ints (xL (l.map (·.1)) x.m.wA))∧vM 2 h' ow acc.length (wv acc)∧acc.map (·.1)=vL (l.map (·.1)) (xL (l.map (·.1)) x.m.wA)∧
   (∀j,ov.id?=some j→G.next≤j)∧(∀j,ow.id?=some j→G.next≤j∧ov.id?≠some j)∧∀z∈acc,z.1.2.length=4∧∃j,z.2=.aD j 0 4 1∧h'.get j=some (ints z.1.2)∧G.next≤j∧ow.id?≠some j∧ov.id?≠some j∧h'.floor≤j:=by
 obtain⟨e',h1,ov,r1,r2,r3,r4,r5,r6,r7,r8,r9⟩:=CT (y:=y) k3 l8 (vK (l.map (·.1))) [] x.m.wA [] rfl rfl rfl G .aO [] (fun _ _ _ q=>q) (uF _) rfl (by rw[gO,←y0]) vM.nil (fun j q=>by cases q) (uF _)
 have r1':Lp AP.A [0,1,2,12,13,14] AP.f301L0 [(0,.aC S 0),(1,.aC M 0),(2,.aC O 0),(12,w),(13,.int .i64 8),(14,.int .i64 0)] G=some (.exit 0,e',h1):=r1
 have r8':vM 1 h1 ov (xL (l.map (·.1)) x.m.wA).length (ints (xL (l.map (·.1)) x.m.wA)):=r8
 obtain⟨U,hU⟩:∃U,U=xL (l.map (·.1)) x.m.wA:=⟨_,rfl⟩
 have Ul:U.length≤8:=by rw[hU];have:=zE (vK (l.map (·.1))) x.m.wA 0;rw[vI]at this;exact this
 have Um:yz U=true:=by rw[hU];exact zF _ _ 0 none (by rw[vI];omega) fun q hq=>by cases hq
 rw[←hU]at r8' ⊢
 have fG:=k3.fG
 have fO:=k3.fO
 have ON:=k3.ON
 have x1:=k3.ext r4
 obtain⟨gS1,_⟩:=k3.S_ r4
 have ld:jc false w=some (.int .i64 8):=by
  have:=k3.sd.dg.len
  rw[pt,vI]at this
  exact this
 obtain⟨h2,eh2⟩:∃g,g=h1.set O (u9 {y with m:={y.m with kind:=2},vb:=ov}):=⟨_,rfl⟩
 have st2:tO h1 O 0 1 [.int .i64 2] (some (u9 {y with vb:=ov}))=some h2:=by rw[uh (by omega) (by show 0<9;omega) rfl,eh2];rfl
 have g2:h2.get O=some (u9 {y with m:={y.m with kind:=2},vb:=ov}):=by rw[eh2,vA rfl,r7];rfl
 have n2:h2.next=h1.next:=by rw[eh2];simp
 have f2:h2.floor=G.floor:=by rw[eh2];simp [r6]
 have low2:∀i c,i≠O→G.get i=some c→h2.get i=some c:=fun i c c2 q=>by rw[eh2,vp c2];exact r4 i c c2 q
 have x2:=k3.ext low2
 obtain⟨gS2,_⟩:=k3.S_ low2
 have o2:vM 1 h2 ov U.length (ints U):=r8'.mono (by rw[eh2];simp) fun i q=>by have:=r9 i q;rw[eh2,vp (by omega)]
 have rdU:Rd h2 ov (ints U):=by
  have:=o2.rd
  exact⟨by rw[pt];exact this.1,this.2.2⟩
 obtain⟨ow,h3,acc,k4,e4,q4,b4⟩:=Ib h2 (by omega) v ov l U sv (by have:=k3.sd.len;omega) (k3.sd.rd.mono fun i c q=>x2 i c q) (fun z hz=>⟨(k3.sd.ok z hz).1.mono x2,(k3.sd.ok z hz).2⟩) rdU (by omega) (by rw[k3.sd.fo,Um];rfl)
 have n3:=e4.nx
 have f3:=e4.fl
 have s4:=e4.own.sc
 have c4:=wZ s4
 have g3:=e4.ext _ _ g2
 obtain⟨h4,eh4⟩:∃g,g=h3.set O (u9 {y with m:={y.m with kind:=2},vb:=ov,vf:=ow}):=⟨_,rfl⟩
 have st4:tO h3 O 6 1 [ow] (some (u9 {y with m:={y.m with kind:=2},vb:=ov}))=some h4:=by rw[uh (by omega) (by show 6<9;omega) s4,eh4];rfl
 have g4:h4.get O=some (u9 {y with m:={y.m with kind:=2},vb:=ov,vf:=ow}):=by rw[eh4,vA rfl,g3];rfl
 have f4:h4.floor=G.floor:=by rw[eh4];simp;omega
 have n4:h4.next=h3.next:=by rw[eh4];simp
 have low4:∀i c,i≠O→G.get i=some c→h4.get i=some c:=fun i c c2 q=>by rw[eh4,vp c2];exact e4.ext _ _ (low2 i c c2 q)
 have ov4:vM 1 h4 ov U.length (ints U):=by
  obtain⟨a,⟨b1,b2⟩|⟨j,b1,b2,b3,b4'⟩⟩:=o2
  · exact⟨a,.inl ⟨b1,b2⟩⟩
  · have:=r9 j (by rw[b1];rfl)
    exact⟨a,.inr ⟨j,b1,by rw[eh4,vp (by omega)];exact e4.ext _ _ b2,by omega,b4'⟩⟩
 have ow4:vM 2 h4 ow acc.length (wv acc):=e4.own.mono (by rw[eh4];simp) fun i q=>by have:=e4.ge i q;rw[eh4,vp (by omega)]
 have r1c:aK (aQ AP.A) bz (at_ 1 AP.f301.body) [(0,.aC S 0),(1,.aC M 0),(2,.aC O 0)] G=some (.normal,[(0,.aC S 0),(2,.aC O 0)],h1):=by
  have gS:=k3.gS
  clear r1 r4 r8 r9 r8' x1 x2 low2 low4 o2 rdU e4 b4 ov4 ow4
  simp (disch:=omega)only[go_sem,vh,AP.f301,wC,wx,gS,ld,rR,r1',r2,r3]
 have b3c:aK (aQ AP.A) bz (at_ 3 AP.f301.body) [(0,.aC S 0),(2,.aC O 0)] h2=some (.normal,[(2,.aC O 0)],h4):=by
  have e5:(u9 {y with m:={y.m with kind:=2},vb:=ov})[5]?=some ov:=rfl
  have tv:List.take 1 [v,w]=[v]:=rfl
  clear r1 r4 r8 r9 r8' x1 x2 low2 low4 o2 rdU e4 b4 ov4 ow4 r1c r1'
  generalize u9 {y with m:={y.m with kind:=2},vb:=ov}=Y1 at *
  generalize u9 {y with m:={y.m with kind:=2},vb:=ov,vf:=ow}=Y2 at *
  simp (disch:=omega)only[go_sem,vh,AP.f301,wC,wx,gS2,GC,wH,tv,U1,Vg,g2,e5,k4,g3,c4,st4]
 refine⟨h4,ov,ow,acc,tr (fn:=AP.f301) (h2:=h4) (e:=[(6,.bool (decide (0<U.length)))]) (vs:=[.bool (decide (0<U.length))]) rfl rfl rfl ?_ rfl,low4,by omega,f4,g4,ov4,ow4,q4,r9,fun j q=> ?_,fun z hz=> ?_⟩
 · rw[En]
   have b0:aK (aQ AP.A) bz (at_ 0 AP.f301.body) (params 0 [.aC S 0,.aC M 0,.aC O 0]) G=some (.normal,[(0,.aC S 0),(1,.aC M 0),(2,.aC O 0)],G):=by
    simp (disch:=omega)only[go_sem,vh,AP.f301,wx]
   have b2:aK (aQ AP.A) bz (at_ 2 AP.f301.body) [(0,.aC S 0),(2,.aC O 0)] h1=some (.normal,[(0,.aC S 0),(2,.aC O 0)],h2):=by
    clear r1 r4 r8 r9 r8' x1 x2 low2 low4 o2 rdU e4 b4 ov4 ow4 r1c r1' b3c
    generalize u9 {y with vb:=ov}=Y1 at *
    simp (disch:=omega)only[go_sem,vh,AP.f301,wC,wx,r7,st2]
   rw[rF,b0,su,rF,r1c,su,rF,b2,su,rF,b3c,su]
   have lu:=ov4.rd.len
   have e5:(u9 {y with m:={y.m with kind:=2},vb:=ov,vf:=ow})[5]?=some ov:=rfl
   clear r1 r4 r8 r9 r8' x1 x2 low2 low4 o2 rdU e4 b4 ov4 ow4 r1c r1' b3c b0 b2
   generalize u9 {y with m:={y.m with kind:=2},vb:=ov,vf:=ow}=Y1 at *
   by_cases c:0<U.length<;>simp (disch:=omega)only[go_sem,vh,AP.f301,CR,CS,g4,e5,lu]
 · have:=e4.ge j q
   refine⟨by omega,fun q2=> ?_⟩
   have:=(o2.lt q2).2
   omega
 · obtain⟨j,a1,a2,a3,a4,a5⟩:=(b4 z hz).ex
   refine⟨(b4 z hz).l4,j,a1, ?_,by omega,a4,fun q2=> ?_,by omega⟩
   · rw[eh4,vp (by omega)];exact a2
   · have:=(o2.lt q2).2
     omega
def xD (L:List vQ) (bs:List Ha):List ByteArray:=(bs.filter fun b=> !zg L b).map (·.1)
theorem KG (L:List vQ) (b:Ha) (bs:List Ha):xD L (b::bs)=if zg L b then xD L bs else b.1::xD L bs:=by
 unfold xD
 rw[List.filter_cons]
 cases zg L b<;>rfl
theorem Jw (a b:List ByteArray):xX (a++b)=xX a++xX b:=by simp [xX]
theorem CP {B G : H} {S M O : Nat} {v w : AV} {l : List vF} {x y : wc} (k3 : HR B G S M O v w l x) (fl6 : x.fs.length ≤ 6) (fv : ∀ b ∈ x.m.vt, xo b.2 = true) : ∀ (q p : List xO), x.fs = p ++ q → ∀ (h : H) (ov : AV) (acc : List ByteArray), (∀ i c, i ≠ O → G.get i = some c → h.get i = some c) → G.next ≤ h.next → h.floor = G.floor → h.get O = some (u9 { y with vn := ov }) →
 vM 1 h ov acc.length (xX acc)→(∀j,ov.id?=some j→G.next≤j)→acc.length≤p.length→
 ∃ e' h' ov', Lp AP.A [0, 1, 2, 15, 16] AP.f302L0 [(0, .aC S 0), (1, .aC M 0), (2, .aC O 0), (15, .int .i64 x.fs.length), (16, .int .i64 p.length)] h = some (.exit 0, e', h') ∧ look e' 2 = .aC O 0 ∧
   (∀i c,i≠O→G.get i=some c→h'.get i=some c)∧G.next≤h'.next∧h'.floor=G.floor∧h'.get O=some (u9 {y with vn:=ov'})∧vM 1 h' ov' (acc++xD (l.map (·.1)) (q.map (·.1))).length (xX (acc++xD (l.map (·.1)) (q.map (·.1))))∧∀j,ov'.id?=some j→G.next≤j
 | [], p, hp, h, ov, acc, low, hn, hf, hg, o, ho, ha => by
   rw[UX]at hp;subst hp
   refine⟨[(0,.aC S 0),(1,.aC M 0),(2,.aC O 0),(15,.int .i64 x.fs.length),(16,.int .i64 x.fs.length),(17,.bool false)],h,ov,sY ?_,rfl,low,hn,hf,hg,by simpa [xD]using o,ho⟩
   clear low o
   simp (disch:=omega)only[go_sem,vh,AP.f302L0]
 | b :: q, p, hp, h, ov, acc, low, hn, hf, hg, o, ho, ha => by
   have hlen:x.fs.length=p.length+(q.length+1):=by rw[hp];simp
   have hb:x.fs[p.length]?=some b:=by rw[hp];simp
   have hm:=uJ hb
   have xB:=k3.ext low
   obtain⟨gS,gM⟩:=k3.S_ low
   have fG:=k3.fG
   have fO:=k3.fO
   have ON:=k3.ON
   obtain⟨ad,a1,a2,a4,a3⟩:=k3.ox.rf.rd.at_
   have hI:(0:Int)≤(p.length:Int)∧(p.length:Int)<x.fs.length:=⟨by omega,by omega⟩
   have b1:=a1 _ hI
   have q0:=a2 p.length 0 0 hI
   have q1:=a2 p.length 0 1 hI
   simp only[uK]at q0 q1
   have l0:∀g,Ext h g→bS false 1 (ad p.length 0) g=some (.str b.1.1):=fun g hg'=>(a3 g fun i c q=>hg' _ _ (xB i c q)).1 p.length 0 _ hI (by
    rw[xc,show wv x.fs=x.fs.flatMap JQ from rfl,zu zI hb (by omega)];rfl)
   have l1:∀g,Ext h g→bS false 1 (ad p.length 1) g=some b.2:=fun g hg'=>(a3 g fun i c q=>hg' _ _ (xB i c q)).1 p.length 1 _ hI (by
    rw[xc,show wv x.fs=x.fs.flatMap JQ from rfl,zu zI hb (by omega)];rfl)
   obtain⟨h1,k1,x1,f1,n1⟩:=Kg h (by omega) S v w l (k3.sd.mono xB) gS (ad p.length 0) b.1 b.2 (fun g=>a4 p.length 0 g hI) _ _ q0 q1 l0 l1 ((k3.ox.rf.vec b hm).1.mono fun i c q=>xB i c q) (fv b.1 (by rw[←k3.ox.hf];exact U8.2 ⟨b,hm,rfl⟩))
   have e6:(u9 x)[6]?=some x.vf:=rfl
   have w1:(((p++[b]).length:Nat):Int)=(p.length:Int)+1:=by simp
   have o1:vM 1 h1 ov acc.length (xX acc):=by
    obtain⟨a,⟨b1,b2⟩|⟨j,b1,b2,b3,b4⟩⟩:=o
    · exact⟨a,.inl ⟨b1,b2⟩⟩
    · exact⟨a,.inr ⟨j,b1,x1 _ _ b2,by omega,b4⟩⟩
   have hg1:=x1 _ _ hg
   have low1:∀i c,i≠O→G.get i=some c→h1.get i=some c:=fun i c c2 q=>x1 _ _ (low i c c2 q)
   rw[U5,KG]
   cases hk:zg (l.map (·.1)) b.1 with
   | true =>
     rw[hk]at k1
     rw[if_pos rfl]
     obtain⟨e',h',ov',r1,r2,r3,r4,r5,r6,r7,r8⟩:=CP k3 fl6 fv q (p++[b]) (by rw[hp];simp) h1 ov acc low1 (by omega) (by omega) hg1 o1 ho (by simp;omega)
     rw[w1]at r1
     refine⟨e',h',ov',sZ ?_ r1,r2,r3,r4,r5,r6,r7,r8⟩
     clear r1 r3 r7 r8 low low1 o o1 a1 a2 a3 a4 l0 l1 hp xB x1
     generalize u9 x=X at *
     simp (disch:=omega)only[go_sem,vh,AP.f302L0,gM,e6,b1,k1]
   | false =>
     rw[hk]at k1
     rw[if_neg (by decide)]
     obtain⟨v',h2,p1,p2,p3,p4,p5,p6⟩:=o1.push (by omega) (z:=16) (m:=1) (by omega) (by omega) [.str b.1.1] rfl rfl (by simp [roomy];omega)
     have ea:xX acc++[.str b.1.1]=xX (acc++[b.1.1]):=by rw[Jw];rfl
     have el:acc.length+1=(acc++[b.1.1]).length:=by simp
     rw[ea,el]at p2
     have sv:=p2.sc
     have cv:=wZ sv
     have hO:=h1.lt _ _ hg1
     have oO:ov.id?≠some O:=fun q2=>by have:=ho O q2;omega
     have g2:h2.get O=some (u9 {y with vn:=ov}):=by rw[p5 O oO hO];exact hg1
     obtain⟨h3,eh3⟩:∃g,g=h2.set O (u9 {y with vn:=v'}):=⟨_,rfl⟩
     have st:tO h2 O 7 1 [v'] (some (u9 {y with vn:=ov}))=some h3:=by rw[uh (by omega) (by show 7<9;omega) sv,eh3];rfl
     have g3:h3.get O=some (u9 {y with vn:=v'}):=by rw[eh3,vA rfl,g2];rfl
     have vj:∀j,v'.id?=some j→j=h1.next+1:=fun j q2=>by rw[p6]at q2;exact(uv q2).symm
     obtain⟨e',h',ov',r1,r2,r3,r4,r5,r6,r7,r8⟩:=CP k3 fl6 fv q (p++[b]) (by rw[hp];simp) h3 v' (acc++[b.1.1])
      (fun i c c2 q3=>by have:=G.lt _ _ q3;rw[eh3,vp c2,p5 i (fun q2=>by have:=ho i q2;omega) (by omega)];exact low1 i c c2 q3) (by rw[eh3];simp;omega) (by rw[eh3];simp;omega) g3
      (p2.mono (by rw[eh3];simp) fun i q2=>by have:=vj i q2;rw[eh3,vp (by omega)]) (fun j q2=>by have:=vj j q2;omega) (by simp;omega)
     rw[w1]at r1
     rw[List.append_assoc,List.singleton_append]at r7
     refine⟨e',h',ov',sZ ?_ r1,r2,r3,r4,r5,r6,r7,r8⟩
     have e7:(u9 {y with vn:=ov})[7]?=some ov:=rfl
     have gM1:=x1 _ _ gM
     have m0:=l0 h1 x1
     clear r1 r3 r7 r8 low low1 o o1 a1 a2 a3 a4 l0 l1 hp xB x1 p2 p5
     generalize u9 x=X at *
     generalize u9 {y with vn:=ov}=Y1 at *
     generalize u9 {y with vn:=v'}=Y2 at *
     simp (disch:=omega)only[go_sem,vh,AP.f302L0,gM,e6,b1,k1,hg1,e7,gM1,q0,m0,p1,g2,cv,st]
theorem P4 {B G:H} {S M O:Nat} {v w:AV} {l:List vF} {x y:wc} (k3:HR B G S M O v w l x) (fl6:x.fs.length≤6) (fv:∀b∈x.m.vt,xo b.2=true) (gO:G.get O=some (u9 y)) (y0:y.vn=.aO):
 ∃ h' ov, aQ AP.A 302 [.aC S 0, .aC M 0, .aC O 0] G = some (.bool (decide (0 < (xD (l.map (·.1)) x.m.vt).length)), h') ∧ (∀ i c, i ≠ O → G.get i = some c → h'.get i = some c) ∧ G.next ≤ h'.next ∧ h'.floor = G.floor ∧
   h'.get O=some (u9 {y with m:={y.m with kind:=3},vn:=ov})∧vM 1 h' ov (xD (l.map (·.1)) x.m.vt).length (xX (xD (l.map (·.1)) x.m.vt))∧∀j,ov.id?=some j→G.next≤j:=by
 have fO:=k3.fO
 obtain⟨h1,eh1⟩:∃g,g=G.set O (u9 {y with m:={y.m with kind:=3}}):=⟨_,rfl⟩
 have CL:tO G O 0 1 [.int .i64 3] (some (u9 y))=some h1:=by rw[uh (by omega) (by show 0<9;omega) rfl,eh1];rfl
 have g1:h1.get O=some (u9 {y with m:={y.m with kind:=3}}):=by rw[eh1,vA rfl,gO];rfl
 have low1:∀i c,i≠O→G.get i=some c→h1.get i=some c:=fun i c c2 q=>by rw[eh1,vp c2];exact q
 obtain⟨_,gM1⟩:=k3.S_ low1
 obtain⟨e',h',ov,r1,r2,r3,r4,r5,r6,r7,r8⟩:=CP (y:={y with m:={y.m with kind:=3}}) k3 fl6 fv x.fs [] rfl h1 .aO [] low1 (by rw[eh1];simp) (by rw[eh1];simp) (by rw[g1,←y0]) vM.nil (fun j q=>by cases q) (uF _)
 have r1':Lp AP.A [0,1,2,15,16] AP.f302L0 [(0,.aC S 0),(1,.aC M 0),(2,.aC O 0),(15,.int .i64 x.fs.length),(16,.int .i64 0)] h1=some (.exit 0,e',h'):=r1
 rw[List.nil_append,k3.ox.hf]at r7
 refine⟨h',ov,tr (fn:=AP.f302) (h2:=h') (e:=[(6,.bool (decide (0<(xD (l.map (·.1)) x.m.vt).length)))]) (vs:=[.bool (decide (0<(xD (l.map (·.1)) x.m.vt).length))]) rfl rfl rfl ?_ rfl,r3,r4,r5,r6,r7,r8⟩
 have lf:=k3.ox.rf.rd.len
 have lw:=r7.rd.len
 have e6:(u9 x)[6]?=some x.vf:=rfl
 have e7:(u9 {y with m:={y.m with kind:=3},vn:=ov})[7]?=some ov:=rfl
 have r6':h'.get O=some (u9 {y with m:={y.m with kind:=3},vn:=ov}):=r6
 clear r1 r3 r7 r8 low1 eh1 r6
 generalize (xD (l.map (·.1)) x.m.vt).length=N at *
 generalize u9 x=X at *
 generalize u9 y=Y at *
 generalize u9 {y with m:={y.m with kind:=3},vn:=ov}=Y2 at *
 by_cases c:0<N<;>simp (disch:=omega)only[go_sem,vh,AP.f302,gO,CL,gM1,e6,lf,rR,r1',r2,r6',e7,lw]
def zw (L:List vQ) (ns:List ByteArray):List vQ:=ns.filterMap fun s=>if(vO s L).2 then L[(vO s L).1]? else none
theorem PS (L:List vQ) (s:ByteArray) (ns:List ByteArray):zw L (s::ns)=(match (if(vO s L).2 then L[(vO s L).1]? else none)with|some e=>[e]|none=>[])++zw L ns:=by
 unfold zw
 rw[List.filterMap_cons]
 split<;>rename_i h<;>rw[h]<;>rfl
theorem CG {B G : H} {S M O : Nat} {v w : AV} {l : List vF} {x y : wc} (k3 : HR B G S M O v w l x) (nl6 : x.m.names.length ≤ 6) : ∀ (q p : List ByteArray), x.m.names = p ++ q → ∀ (h : H) (ov : AV) (acc : List vF), (∀ i c, i ≠ O → G.get i = some c → h.get i = some c) → G.next ≤ h.next → h.floor = G.floor → h.get O = some (u9 { y with ve := ov }) →
 WE G.next h ov acc→acc.length≤p.length→
 ∃ e' h' ov' acc', Lp AP.A [0, 2, 17, 18, 19] AP.f303L0 [(0, .aC S 0), (2, .aC O 0), (17, x.vn), (18, .int .i64 x.m.names.length), (19, .int .i64 p.length)] h = some (.exit 0, e', h') ∧ look e' 2 = .aC O 0 ∧
   (∀i c,i≠O→G.get i=some c→h'.get i=some c)∧G.next≤h'.next∧h'.floor=G.floor∧h'.get O=some (u9 {y with ve:=ov'})∧WE G.next h' ov' acc'∧acc'.map (·.1)=acc.map (·.1)++zw (l.map (·.1)) q∧acc'.length≤x.m.names.length
 | [], p, hp, h, ov, acc, low, hn, hf, hg, o, ha => by
   rw[UX]at hp
   have e:x.m.names.length=p.length:=by rw[hp]
   refine⟨[(0,.aC S 0),(2,.aC O 0),(17,x.vn),(18,.int .i64 x.m.names.length),(19,.int .i64 p.length),(20,.bool false)],h,ov,acc,sY ?_,rfl,low,hn,hf,hg,o,by simp [zw],by omega⟩
   rw[e]
   clear low o
   simp (disch:=omega)only[go_sem,vh,AP.f303L0]
 | s :: q, p, hp, h, ov, acc, low, hn, hf, hg, o, ha => by
   have hlen:x.m.names.length=p.length+(q.length+1):=by rw[hp];simp
   have xB:=k3.ext low
   obtain⟨gS,gM⟩:=k3.S_ low
   have fG:=k3.fG
   have fO:=k3.fO
   have ON:=k3.ON
   obtain⟨nd,a1,_,a3⟩:=k3.ox.rn.BK
   have b1:=a1 p.length ⟨by omega,by omega⟩
   have b2:=a3 h xB p.length s (by rw[hp];simp)
   have sd:=k3.sd.mono xB
   have k1:=KS h S 0 v gS rfl l sd.len sd.rd (fun x hx=>(sd.ok x hx).2) s (Je (wL sd.fo))
   have w1:(((p++[s]).length:Nat):Int)=(p.length:Int)+1:=by simp
   rw[PS]
   cases hp2:(vO s (l.map (·.1))).2 with
   | false =>
     rw[hp2]at k1
     rw[if_neg (by decide)]
     obtain⟨e',h',ov',acc',r1,r2,r3,r4,r5,r6,r7,r8,r9⟩:=CG k3 nl6 q (p++[s]) (by rw[hp];simp) h ov acc low hn hf hg o (by simp;omega)
     rw[w1]at r1
     refine⟨e',h',ov',acc',sZ ?_ r1,r2,r3,r4,r5,r6,r7,r8,r9⟩
     clear r1 r3 r7 r8 low o a1 a3 hp xB sd
     generalize (vO s (l.map (·.1))).1=K at *
     simp (disch:=omega)only[go_sem,vh,AP.f303L0,b1,b2,Vg,k1]
   | true =>
     rw[hp2]at k1
     rw[if_pos rfl]
     have lt:=CA _ _ hp2
     rw[UW]at lt
     obtain⟨z,hz⟩:∃z,l[(vO s (l.map (·.1))).1]?=some z:=⟨l[(vO s (l.map (·.1))).1],by simp⟩
     have hz':(l.map (·.1))[(vO s (l.map (·.1))).1]?=some z.1:=by rw[uO,hz];rfl
     rw[hz']
     have hm:=uJ hz
     obtain⟨ok,sc⟩:=sd.ok z hm
     have fz:=Ce sd.fo z.1 (U8.2 ⟨z,hm,rfl⟩)
     obtain⟨ad,c1,c2⟩:=sd.rd.FB
     obtain⟨pe,lz⟩:=c2 h (Ext.refl h) _ z hz
     have d1:=c1 (vO s (l.map (·.1))).1 ⟨by omega,by omega⟩
     obtain⟨h1,j,k2,gj,hj,x1,f1,n1⟩:=JY h (by omega) z.1 z.2 sc ok fz.2.1
     have jn:=h1.lt _ _ gj
     obtain⟨E,hE⟩:∃E,E=vq z.1 (.aD j 0 4 1):=⟨_,rfl⟩
     have lE:E.length=9:=by rw[hE];rfl
     have cE:AV.aB E=true:=by rw[hE];exact yf rfl
     have fE:setFrom [.str ⟨#[]⟩,.bool false,.aO,.int .i64 0,.int .i64 0,.int .i64 0,.str ⟨#[]⟩,.int .i64 0,.int .i64 0] 0 E=E:=by rw[hE];rfl
     have o1:WE G.next h1 ov acc:=o.mono (by omega) fun i c1 c2 c3=>by
      rcases c3 with c3|⟨y2,hy2,c3⟩
      · obtain⟨_,⟨b1,_⟩|⟨j2,b1,b2,_⟩⟩:=o.own
        · rw[b1]at c3;cases c3
        · rw[b1]at c3;obtain rfl:=uv c3;rw[b2];exact x1 _ _ b2
      · obtain⟨_,_,j2,b1,b2,_⟩:=o.el y2 hy2
        rw[b1]at c3;obtain rfl:=uv c3;rw[b2];exact x1 _ _ b2
     have hg1:=x1 _ _ hg
     obtain⟨v',h2,p1,p2,p3,p4,p5,p6⟩:=o1.own.push (by omega) (z:=104) (m:=1) (by omega) (by omega) E (by rw[lE]) cE (by simp [roomy];omega)
     have ea:vD acc++E=vD (acc++[((z.1,.aD j 0 4 1):vF)]):=by rw[FM,hE]
     have el:acc.length+1=(acc++[((z.1,.aD j 0 4 1):vF)]).length:=by simp
     rw[ea,el]at p2
     have sv:=p2.sc
     have cv:=wZ sv
     have hO:=h1.lt _ _ hg1
     have oO:ov.id?≠some O:=fun q2=>by have:=o.ge O q2;omega
     have g2:h2.get O=some (u9 {y with ve:=ov}):=by rw[p5 O oO hO];exact hg1
     obtain⟨h3,eh3⟩:∃g,g=h2.set O (u9 {y with ve:=v'}):=⟨_,rfl⟩
     have st:tO h2 O 8 1 [v'] (some (u9 {y with ve:=ov}))=some h3:=by rw[uh (by omega) (by show 8<9;omega) sv,eh3];rfl
     have g3:h3.get O=some (u9 {y with ve:=v'}):=by rw[eh3,vA rfl,g2];rfl
     have vj:∀i,v'.id?=some i→i=h1.next+1:=fun i q2=>by rw[p6]at q2;exact(uv q2).symm
     have ovl:∀i,ov.id?=some i→i<h.next:=fun i q2=>(o.own.lt q2).2
     have w3:WE G.next h3 v' (acc++[(z.1,.aD j 0 4 1)]):=by
      refine⟨p2.mono (by rw[eh3];simp) fun i q2=>by have:=vj i q2;rw[eh3,vp (by omega)],fun i q2=>by have:=vj i q2;omega,fun y2 hy2=> ?_⟩
      rcases List.mem_append.1 hy2 with hy2|hy2
      · obtain⟨m1,m2,j2,t1,t2,t3,t4,t5⟩:=o1.el y2 hy2
        have:=h1.lt _ _ t2
        refine⟨m1,m2,j2,t1, ?_,t3,fun q2=>by have:=vj j2 q2;omega,by rw[eh3];simp;omega⟩
        rw[eh3,vp (by omega),p5 j2 t4 this];exact t2
      · obtain rfl:=List.mem_singleton.1 hy2
        refine⟨fz.2.2,fz.2.1,j,rfl, ?_,by omega,fun q2=>by have:=vj j q2;omega,by rw[eh3];simp;omega⟩
        rw[eh3,vp (by omega),p5 j (fun q2=>by have:=ovl j q2;omega) jn];exact gj
     obtain⟨e',h',ov',acc',r1,r2,r3,r4,r5,r6,r7,r8,r9⟩:=CG k3 nl6 q (p++[s]) (by rw[hp];simp) h3 v' (acc++[(z.1,.aD j 0 4 1)])
      (fun i c c2 q3=>by have:=G.lt _ _ q3;rw[eh3,vp c2,p5 i (fun q2=>by have:=o.ge i q2;omega) (by omega)];exact x1 _ _ (low i c c2 q3)) (by rw[eh3];simp;omega) (by rw[eh3];simp;omega) g3 w3 (by simp;omega)
     rw[w1]at r1
     rw[Va,List.append_assoc]at r8
     refine⟨e',h',ov',acc',sZ ?_ r1,r2,r3,r4,r5,r6,r7,r8,r9⟩
     have e8:(u9 {y with ve:=ov})[8]?=some ov:=rfl
     rw[←hE]at k2
     have lz':bS true 9 (ad (vO s (l.map (·.1))).1 0) h=some (.agg (vq z.1 z.2)):=lz
     clear r1 r3 r7 r8 r9 low o o1 a1 a3 hp xB sd c1 c2 pe lz ok hz hz' hm w3 p2 p5 x1 ea hE k3
     generalize (vO s (l.map (·.1))).1=K at *
     generalize vq z.1 z.2=Z at *
     generalize u9 {y with ve:=ov}=Y1 at *
     generalize u9 {y with ve:=v'}=Y2 at *
     simp (disch:=omega)only[go_sem,vh,AP.f303L0,b1,b2,Vg,k1,hg,e8,gS,d1,lz',k2,lE,cE,fE,p1,g2,cv,st,hg1]
theorem P3 {B G:H} {S M O:Nat} {v w:AV} {l:List vF} {x y:wc} (k3:HR B G S M O v w l x) (nl6:x.m.names.length≤6) (gO:G.get O=some (u9 y)) (y0:y.ve=.aO):
 ∃ h' ov acc, aQ AP.A 303 [.aC S 0, .aC M 0, .aC O 0] G = some (.bool (decide (0 < (zw (l.map (·.1)) x.m.names).length)), h') ∧ (∀ i c, i ≠ O → G.get i = some c → h'.get i = some c) ∧ G.next ≤ h'.next ∧ h'.floor = G.floor ∧
   h'.get O=some (u9 {y with m:={y.m with kind:=4},ve:=ov})∧WE G.next h' ov acc∧acc.map (·.1)=zw (l.map (·.1)) x.m.names∧acc.length≤6:=by
 have fO:=k3.fO
 obtain⟨h1,eh1⟩:∃g,g=G.set O (u9 {y with m:={y.m with kind:=4}}):=⟨_,rfl⟩
 have CL:tO G O 0 1 [.int .i64 4] (some (u9 y))=some h1:=by rw[uh (by omega) (by show 0<9;omega) rfl,eh1];rfl
 have g1:h1.get O=some (u9 {y with m:={y.m with kind:=4}}):=by rw[eh1,vA rfl,gO];rfl
 have low1:∀i c,i≠O→G.get i=some c→h1.get i=some c:=fun i c c2 q=>by rw[eh1,vp c2];exact q
 obtain⟨_,gM1⟩:=k3.S_ low1
 obtain⟨e',h',ov,acc,r1,r2,r3,r4,r5,r6,r7,r8,r9⟩:=CG (y:={y with m:={y.m with kind:=4}}) k3 nl6 x.m.names [] rfl h1 .aO [] low1 (by rw[eh1];simp) (by rw[eh1];simp) (by rw[g1,←y0]) ⟨vM.nil,fun j q=>(by cases q),fun z hz=>(by cases hz)⟩ (uF _)
 have r1':Lp AP.A [0,2,17,18,19] AP.f303L0 [(0,.aC S 0),(2,.aC O 0),(17,x.vn),(18,.int .i64 x.m.names.length),(19,.int .i64 0)] h1=some (.exit 0,e',h'):=r1
 have r8':acc.map (·.1)=zw (l.map (·.1)) x.m.names:=r8
 have al:acc.length=(zw (l.map (·.1)) x.m.names).length:=by rw[←r8'];simp
 refine⟨h',ov,acc,tr (fn:=AP.f303) (h2:=h') (e:=[(6,.bool (decide (0<(zw (l.map (·.1)) x.m.names).length)))]) (vs:=[.bool (decide (0<(zw (l.map (·.1)) x.m.names).length))]) rfl rfl rfl ?_ rfl,r3,r4,r5,r6,r7,r8',by omega⟩
 have ln:=k3.ox.rn.Ef.len
 rw[w9]at ln
 have lw:=r7.own.rd.len
 rw[al]at lw
 have e7:(u9 x)[7]?=some x.vn:=rfl
 have e8:(u9 {y with m:={y.m with kind:=4},ve:=ov})[8]?=some ov:=rfl
 have r6':h'.get O=some (u9 {y with m:={y.m with kind:=4},ve:=ov}):=r6
 clear r1 r3 r7 r8 r8' low1 eh1 r6 al r9
 generalize (zw (l.map (·.1)) x.m.names).length=N at *
 generalize u9 x=X at *
 generalize u9 y=Y at *
 generalize u9 {y with m:={y.m with kind:=4},ve:=ov}=Y2 at *
 by_cases c:0<N<;>simp (disch:=omega)only[go_sem,vh,AP.f303,gO,CL,gM1,e7,ln,rR,r1',r2,r6',e8,lw]
theorem Hg (h:H) (k:Int):aQ AP.A 277 [.int .i64 k] h=some (if k=0 then .fn 300 [] []else if k=1 then .fn 301 [] []else if k=2 then .fn 302 [] []else if k=3 then .fn 303 [] []else .eT,h):=by
 by_cases h0:k=0
 · rw[if_pos h0]
   refine tM (fn:=AP.f277) (h2:=h.dX) (e:=[(2,.fn 300 [] [])]) rfl rfl rfl ?_ rfl rfl
   simp (disch:=omega)only[go_sem,vh,AP.f277]
 by_cases h1:k=1
 · rw[if_neg h0,if_pos h1]
   refine tM (fn:=AP.f277) (h2:=h.dX) (e:=[(2,.fn 301 [] [])]) rfl rfl rfl ?_ rfl rfl
   simp (disch:=omega)only[go_sem,vh,AP.f277]
 by_cases h2:k=2
 · rw[if_neg h0,if_neg h1,if_pos h2]
   refine tM (fn:=AP.f277) (h2:=h.dX) (e:=[(2,.fn 302 [] [])]) rfl rfl rfl ?_ rfl rfl
   simp (disch:=omega)only[go_sem,vh,AP.f277]
 by_cases h3:k=3
 · rw[if_neg h0,if_neg h1,if_neg h2,if_pos h3]
   refine tM (fn:=AP.f277) (h2:=h.dX) (e:=[(2,.fn 303 [] [])]) rfl rfl rfl ?_ rfl rfl
   simp (disch:=omega)only[go_sem,vh,AP.f277]
 · rw[if_neg h0,if_neg h1,if_neg h2,if_neg h3]
   refine tM (fn:=AP.f277) (h2:=h.dX) (e:=[(2,.eT)]) rfl rfl rfl ?_ rfl rfl
   simp (disch:=omega)only[go_sem,vh,AP.f277]
def yD (L:List vQ) (m:zj):Option zj:=
 if m.kind=0 then(if vX (vK L)=m.root then none else some ⟨1,m.dst,m.src,0,vK L,[],[],[],[]⟩)
 else if m.kind=1 then(if xL L m.wA=[]then none else some ⟨2,m.dst,m.src,0,[],xL L m.wA,vL L (xL L m.wA),[],[]⟩)
 else if m.kind=2 then(if xD L m.vt=[]then none else some ⟨3,m.dst,m.src,0,[],[],[],xD L m.vt,[]⟩)
 else if m.kind=3 then(if zw L m.names=[]then none else some ⟨4,m.dst,m.src,0,[],[],[],[],zw L m.names⟩)
 else none
def yd:zj:=⟨0,0,0,0,[],[],[],[],[]⟩
def wU (L:List vQ) (m:zj):zj×Bool×Int:=
 if vY L=true∧AB m=true then((yD L m).getD yd,(yD L m).isSome,0)else(yd,false,2200)
theorem Qc:vB.m=yd:=rfl
theorem Ep (h:H):zl h vB:=⟨⟨rfl,fun s q=>(by cases q)⟩,⟨rfl,fun s q=>(by cases q)⟩,⟨⟨rfl,rfl,fun s q=>(by cases q)⟩,fun y hy=>(by cases hy)⟩,rfl,⟨rfl,fun s q=>(by cases q)⟩,⟨rfl,rfl,fun s q=>(by cases q)⟩,rfl,fun y hy=>(by cases hy),fun y hy=>(by cases hy),⟨rfl,rfl,rfl,rfl,rfl⟩,by decide,by decide,by decide,by decide,by decide,⟨fun s hs=>(by cases hs),fun s hs=>(by cases hs)⟩⟩
theorem G0 (B:Nat) (h:H):WM B h vB:=.d (.inl rfl) rfl rfl rfl rfl
structure Tk (h h':H) (y:wc):Prop where
 ok:zl h' y
 wm:WM h.next h' y
 ext:Ext h h'
 fl:h'.floor=h.floor
 nx:h.next≤h'.next
theorem GD {h:H} {v:AV} {l:List Int} (o:vM 1 h v l.length (ints l)):Rd h v (ints l):=by
 have:=o.rd
 exact⟨by rw[pt];exact this.1,this.2.2⟩
theorem yh (h:H):Rd h .aO []:=⟨rfl,fun s q=>(by cases q)⟩
theorem AF (n:Nat) (h:H):wO n h .aO 0 []:=⟨rfl,by simp,fun s q=>(by cases q)⟩
theorem Eh (h:H):Hb h .aO []:=⟨AF 2 h,fun y hy=>(by cases hy)⟩
theorem Jd {L:List vQ} {ns:List ByteArray} {e:vQ} (h:e∈zw L ns):e∈L:=by
 unfold zw at h
 obtain⟨s,_,hs⟩:=List.mem_filterMap.1 h
 split at hs
 · exact uJ hs
 · cases hs
theorem Et:AP.f240.body=.seq (at_ 0 AP.f240.body) (.seq (at_ 1 AP.f240.body) (.seq (at_ 2 AP.f240.body) (.seq (at_ 3 AP.f240.body) (.seq (at_ 4 AP.f240.body) (F3 5 AP.f240.body))))):=rfl
theorem HZ {h6 h7:H} {v w:AV} {R O M P f:Nat} {b:Bool} {y:wc} {H5:H} (e6:H5.alloc [v,w]=h6) (sv:v.sc=true) (sw:w.sc=true) (gP:H5.get P=some [v]) (k:aQ AP.A f [.aC H5.next 0,.aC M 0,.aC O 0] h6=some (.bool b,h7)) (gO:h7.get O=some (u9 y)) (gR:h7.get R=some (u9 vB)) (fR:h7.floor≤R) (cy:AV.aB (u9 y)=true):
 ∃e,aK (aQ AP.A) bz (F3 5 AP.f240.body) [(2,.aC P 0),(3,.aC M 0),(4,.aC R 0),(7,w),(9,.aC O 0),(10,.fn f [] [])] H5=some (.ret,e,if b then h7.set R (u9 y)else h7.set R (u9 vB))∧look e 4=.aC R 0∧look e 5=.bool b∧look e 6=.int .i64 0:=by
 have cw:=wZ sw
 have tP:List.take 1 [v]=[v]:=rfl
 have Nt:fI 2 (.fn f [] []) .eT=some false:=rfl
 have z0:([.int .i64 0,.int .i64 0,.int .i64 0,.int .i64 0,.aO,.aO,.aO,.aO,.aO]:List AV)=u9 vB:=rfl
 have cz:AV.aB (u9 vB)=true:=rfl
 have CL:tO h7 R 0 9 (u9 vB) (some (u9 vB))=some (h7.set R (u9 vB)):=wE fR rfl rfl cz
 have st2:tO h7 R 0 9 (u9 y) (some (u9 vB))=some (h7.set R (u9 y)):=wE fR rfl rfl cy
 have ly:(u9 y).length=9:=rfl
 have ty:List.take 9 (u9 y)=u9 y:=rfl
 cases b with
 | false =>
   refine⟨[(4,.aC R 0),(5,.bool false),(6,.int .i64 0)], ?_,rfl,rfl,rfl⟩
   rw[if_neg (by decide)]
   generalize u9 vB=Z at *
   generalize u9 y=Y at *
   simp (disch:=omega)only[go_sem,vh,AP.f240,CR,CS,Nt,gP,wM,sv,sw,cw,e6,k,nv,z0,gR,CL]
 | true =>
   refine⟨[(4,.aC R 0),(5,.bool true),(6,.int .i64 0)], ?_,rfl,rfl,rfl⟩
   rw[if_pos rfl]
   generalize u9 vB=Z at *
   generalize u9 y=Y at *
   simp (disch:=omega)only[go_sem,vh,AP.f240,CR,CS,Nt,gP,wM,sv,sw,cw,e6,k,nv,gO,GC,wH,ly,ty,U1,gR,st2]
set_option maxHeartbeats 8000000 in
theorem KJ (h : H) (hf : h.floor ≤ h.next) (v : AV) (l : List vF) (sv : v.sc = true) (hn : l.length < 1125899906842624) (rd : wO 9 h v l.length (vD l)) (hv : ∀ x ∈ l, wS h x ∧ x.2.sc = true) (x : wc) (ox : zl h x) :
 ∃y h',aQ AP.A 240 [.agg [v],.agg (u9 x)] h=some (.bO [.agg (u9 y),.bool (wU (l.map (·.1)) x.m).2.1,.int .i64 (wU (l.map (·.1)) x.m).2.2],h')∧y.m=(wU (l.map (·.1)) x.m).1∧Tk h h' y:=by
 obtain⟨h1,eh1⟩:∃g,g=h.alloc [v]:=⟨_,rfl⟩
 obtain⟨h2,eh2⟩:∃g,g=h1.alloc (u9 x):=⟨_,rfl⟩
 obtain⟨h3,eh3⟩:∃g,g=h2.alloc (u9 vB):=⟨_,rfl⟩
 have n1:h1.next=h.next+1:=by rw[eh1];simp
 have n2:h2.next=h.next+2:=by rw[eh2];simp [n1]
 have n3:h3.next=h.next+3:=by rw[eh3];simp [n2]
 have f3:h3.floor=h.floor:=by rw[eh3,eh2,eh1];simp
 have x3:Ext h h3:=by rw[eh3,eh2,eh1];exact(((Ext.refl h).alloc _).alloc _).alloc _
 have gP:h3.get h.next=some [v]:=by rw[eh3,vN (by omega),eh2,vN (by omega),eh1,vk rfl]
 have gM:h3.get (h.next+1)=some (u9 x):=by rw[eh3,vN (by omega),eh2,vk (by omega)]
 have gR:h3.get (h.next+2)=some (u9 vB):=by rw[eh3,vk (by omega)]
 have cx:=yo ox
 have lx:(u9 x).length=9:=rfl
 have b0:aK (aQ AP.A) bz (at_ 0 AP.f240.body) (params 0 [.agg [v],.agg (u9 x)]) h=some (.normal,[(2,.aC h.next 0),(3,.aC (h.next+1) 0),(4,.aC (h.next+2) 0)],h3):=by
  have z:h2.alloc [.int .i64 0,.int .i64 0,.int .i64 0,.int .i64 0,.aO,.aO,.aO,.aO,.aO]=h3:=eh3.symm
  clear ox rd hv x3
  generalize u9 x=X at *
  simp (disch:=omega)only[go_sem,vh,AP.f240,wx,sv,←eh1,lx,cx,n1,←eh2,n2,z]
 obtain⟨w,h4,k1,g4⟩:=FI h3 (by omega) v l sv hn (rd.mono fun i c q=>x3 i c q) (fun z hz=>⟨(hv z hz).1.mono x3,(hv z hz).2⟩)
 have x4:=g4.ext
 have n4:=g4.nx
 have f4:=g4.fl
 have sw:=g4.own.sc
 have gP4:=x4 _ _ gP
 have gM4:=x4 _ _ gM
 have gR4:=x4 _ _ gR
 have xh4:Ext h h4:=fun i c q=>x4 _ _ (x3 _ _ q)
 have b1:aK (aQ AP.A) bz (at_ 1 AP.f240.body) [(2,.aC h.next 0),(3,.aC (h.next+1) 0),(4,.aC (h.next+2) 0)] h3=some (.normal,[(2,.aC h.next 0),(3,.aC (h.next+1) 0),(4,.aC (h.next+2) 0),(7,w),(8,.int .i64 (if vY (l.map (·.1))then 0 else 1600))],h4):=by
  clear ox rd hv x3 x4 g4 xh4
  generalize (if vY (l.map (·.1))=true then(0:Int)else 1600)=E at *
  simp (disch:=omega)only[go_sem,vh,AP.f240,wC,wx,gP,wM,k1]
 have ox4:=ox.mono xh4
 have km:=PJ h4 x ox4
 have tX:List.take 9 (u9 x)=u9 x:=rfl
 by_cases ok:vY (l.map (·.1))=true∧AB x.m=true
 case neg=>
  have eR:wU (l.map (·.1)) x.m=(yd,false,2200):=by unfold wU;rw[if_neg ok]
  rw[eR]
  obtain⟨h5,eh5⟩:∃g,g=h4.set (h.next+2) (u9 vB):=⟨_,rfl⟩
  have e5:h5=h4:=by rw[eh5];exact H.jC gR4
  have st:tO h4 (h.next+2) 0 9 (u9 vB) (some (u9 vB))=some h4:=by rw[wE (n:=9) (by omega) rfl rfl rfl,←eh5,e5]
  refine⟨vB,h4,tr (fn:=AP.f240) (h2:=h4) (e:=[(4,.aC (h.next+2) 0),(5,.bool false),(6,.int .i64 2200)]) (vs:=[.agg (u9 vB),.bool false,.int .i64 2200]) rfl rfl rfl ?_ (by simp only[AP.f240,cL,mQ,mE,kU,ne_eq,Nat.reduceEqDiff,not_false_eq_true,qz,gR4,sS];rfl),rfl,Ep h4,G0 _ _,xh4,by omega,by omega⟩
  rw[Et,rF,b0,su,rF,b1,su]
  have z0:([.int .i64 0,.int .i64 0,.int .i64 0,.int .i64 0,.aO,.aO,.aO,.aO,.aO]:List AV)=u9 vB:=rfl
  have cz:AV.aB (u9 vB)=true:=rfl
  by_cases c1:vY (l.map (·.1))=true
  · have c2:AB x.m=false:=by
     cases q:AB x.m with
     |false=>rfl
     |true=>exact absurd ⟨c1,q⟩ ok
    rw[c2]at km
    rw[if_pos c1]
    clear ox rd hv x3 x4 g4 xh4 ox4 b0 b1
    generalize u9 x=X at *
    generalize u9 vB=Z at *
    simp (disch:=omega)only[go_sem,vh,AP.f240,wC,wx,gM4,GC,wH,lx,tX,U1,km,z0,gR4,st]
  · rw[if_neg c1]
    clear ox rd hv x3 x4 g4 xh4 ox4 b0 b1
    generalize u9 x=X at *
    generalize u9 vB=Z at *
    simp (disch:=omega)only[go_sem,vh,AP.f240,wC,wx,z0,gR4,st]
 case pos=>
  obtain⟨c1,c2⟩:=ok
  rw[if_pos c1]at b1
  rw[c2]at km
  simp only[c1,if_true]at g4
  rw[vI]at g4
  have eR:wU (l.map (·.1)) x.m=((yD (l.map (·.1)) x.m).getD yd,(yD (l.map (·.1)) x.m).isSome,0):=by unfold wU;rw[if_pos ⟨c1,c2⟩]
  rw[eR]
  have b2:aK (aQ AP.A) bz (at_ 2 AP.f240.body) [(2,.aC h.next 0),(3,.aC (h.next+1) 0),(4,.aC (h.next+2) 0),(7,w),(8,.int .i64 0)] h4=some (.normal,[(2,.aC h.next 0),(3,.aC (h.next+1) 0),(4,.aC (h.next+2) 0),(7,w)],h4):=by
   clear ox rd hv x3 x4 g4 xh4 ox4 b0 b1
   generalize u9 x=X at *
   simp (disch:=omega)only[go_sem,vh,AP.f240,wC,wx,gM4,GC,wH,lx,tX,U1,km]
  obtain⟨y0,hy0⟩:∃y:wc,y=⟨⟨0,x.m.dst,x.m.src,0,[],[],[],[],[]⟩,.aO,.aO,.aO,.aO,.aO,[],[]⟩:=⟨_,rfl⟩
  obtain⟨h5,eh5⟩:∃g,g=(h4.alloc (u9 vB)).set h4.next (u9 y0):=⟨_,rfl⟩
  have ga:(h4.alloc (u9 vB)).get h4.next=some (u9 vB):=vk rfl
  have n5:h5.next=h4.next+1:=by rw[eh5];simp
  have f5:h5.floor=h.floor:=by rw[eh5];simp;omega
  have x5:Ext h4 h5:=fun i c q=>by have:=h4.lt _ _ q;rw[eh5,vp (by omega),vN (by omega)];exact q
  have g5:h5.get h4.next=some (u9 y0):=by rw[eh5,vA rfl,ga];rfl
  have st5:tO (h4.alloc (u9 vB)) h4.next 0 9 (u9 y0) (some (u9 vB))=some h5:=by rw[eh5];exact wE (by simp;omega) rfl rfl (by rw[hy0];rfl)
  have b3:aK (aQ AP.A) bz (at_ 3 AP.f240.body) [(2,.aC h.next 0),(3,.aC (h.next+1) 0),(4,.aC (h.next+2) 0),(7,w)] h4=some (.normal,[(2,.aC h.next 0),(3,.aC (h.next+1) 0),(4,.aC (h.next+2) 0),(7,w),(9,.aC h4.next 0)],h5):=by
   have e1:(u9 x)[1]?=some (.int .i64 x.m.src):=rfl
   have e2:(u9 x)[2]?=some (.int .i64 x.m.dst):=rfl
   have z0:([.int .i64 0,.int .i64 0,.int .i64 0,.int .i64 0,.aO,.aO,.aO,.aO,.aO]:List AV)=u9 vB:=rfl
   have zy:dY (u9 vB) [(1,1,.int .i64 x.m.dst),(2,1,.int .i64 x.m.src)]=some (u9 y0):=by rw[hy0];rfl
   have cz:AV.aB (u9 vB)=true:=rfl
   clear ox rd hv x3 x4 g4 xh4 ox4 b0 b1 b2 x5 hy0 tX
   generalize u9 x=X at *
   generalize u9 vB=Z at *
   generalize u9 y0=Y at *
   simp (disch:=omega)only[go_sem,AP.f240,wC,wx,gM4,e1,e2,z0,zy,cz,yJ,wH,BQ,U5,Vf,ga,st5,uK,vA,vp,vk,vN]
  have ka:=Hg h5 x.m.kind
  have gM5:=x5 _ _ gM4
  have e0:(u9 x)[0]?=some (.int .i64 x.m.kind):=rfl
  have b4:∀fv,aQ AP.A 277 [.int .i64 x.m.kind] h5=some (fv,h5)→aK (aQ AP.A) bz (at_ 4 AP.f240.body) [(2,.aC h.next 0),(3,.aC (h.next+1) 0),(4,.aC (h.next+2) 0),(7,w),(9,.aC h4.next 0)] h5=some (.normal,[(2,.aC h.next 0),(3,.aC (h.next+1) 0),(4,.aC (h.next+2) 0),(7,w),(9,.aC h4.next 0),(10,fv)],h5):=fun fv q=>by
   clear ox rd hv x3 x4 g4 xh4 ox4 b0 b1 b2 b3 x5 hy0 tX ka
   generalize u9 x=X at *
   simp (disch:=omega)only[go_sem,vh,AP.f240,wC,wx,gM5,e0,q]
  have hb:∀fv,aQ AP.A 277 [.int .i64 x.m.kind] h5=some (fv,h5)→aK (aQ AP.A) bz AP.f240.body (params 0 [.agg [v],.agg (u9 x)]) h=aK (aQ AP.A) bz (F3 5 AP.f240.body) [(2,.aC h.next 0),(3,.aC (h.next+1) 0),(4,.aC (h.next+2) 0),(7,w),(9,.aC h4.next 0),(10,fv)] h5:=fun fv q=>by
   rw[Et,rF,b0,su,rF,b1,su,rF,b2,su,rF,b3,su,rF,b4 fv q,su]
   rfl
  obtain⟨h6,eh6⟩:∃g,g=h5.alloc [v,w]:=⟨_,rfl⟩
  have x6:Ext h5 h6:=by rw[eh6];exact(Ext.refl _).alloc _
  have n6:h6.next=h4.next+2:=by rw[eh6];simp [n5]
  have f6:h6.floor=h.floor:=by rw[eh6];simp [f5]
  have rdW:Rd h4 w (ints (vK (l.map (·.1)))):=GD (by rw[vI];exact g4.own)
  have sd:Sd h4 v w l:=⟨rd.mono fun i c q=>xh4 i c q,fun z hz=>⟨(hv z hz).1.mono xh4,(hv z hz).2⟩,c1,rdW⟩
  have k3:HR h4 h6 h5.next (h.next+1) h4.next v w l x:=⟨sd,ox4,by rw[eh6,vk rfl],x6 _ _ gM5,⟨by omega,by omega⟩,fun i c q=>x6 _ _ (x5 _ _ q),uF _,by omega,by omega,by omega⟩
  have gO6:=x6 _ _ g5
  have gR6:=x6 _ _ (x5 _ _ gR4)
  have gP5:=x5 _ _ gP4
  have fin:∀{b:Bool} {h7:H} {y:wc} {f:Nat},aQ AP.A 277 [.int .i64 x.m.kind] h5=some (.fn f [] [],h5)→aQ AP.A f [.aC h5.next 0,.aC (h.next+1) 0,.aC h4.next 0] h6=some (.bool b,h7)→h7.get h4.next=some (u9 y)→(∀i c,i≠h4.next→h6.get i=some c→h7.get i=some c)→h6.next≤h7.next→h7.floor=h6.floor→AV.aB (u9 y)=true→
   ∃h',aQ AP.A 240 [.agg [v],.agg (u9 x)] h=some (.bO [.agg (u9 (if b then y else vB)),.bool b,.int .i64 0],h')∧(∀i c,i≠h.next+2→h7.get i=some c→h'.get i=some c)∧h'.floor=h.floor∧h'.next=h7.next:=fun {b h7 y f} qa qf qO ql qn qfl qc=>by
   have gR7:=ql _ _ (by omega) gR6
   obtain⟨e,t1,t2,t3,t4⟩:=HZ (P:=h.next) (M:=h.next+1) (O:=h4.next) eh6.symm sv sw gP5 qf qO gR7 (by omega) qc
   refine⟨if b then h7.set (h.next+2) (u9 y)else h7.set (h.next+2) (u9 vB),tr (fn:=AP.f240) (h2:=if b then h7.set (h.next+2) (u9 y)else h7.set (h.next+2) (u9 vB)) (e:=e) (vs:=[.agg (u9 (if b then y else vB)),.bool b,.int .i64 0]) rfl rfl rfl (by rw[hb _ qa,t1]) ?_,fun i c q1 q2=> ?_, ?_, ?_⟩
   · cases b with
     | true =>
       have gg:(h7.set (h.next+2) (u9 y)).get (h.next+2)=some (u9 y):=by rw[vA rfl,gR7];rfl
       simp only[AP.f240,cL,mQ,t2,t3,t4,if_true,qz,gg,sS];rfl
     | false =>
       have gg:(h7.set (h.next+2) (u9 vB)).get (h.next+2)=some (u9 vB):=by rw[vA rfl,gR7];rfl
       simp only[AP.f240,cL,mQ,t2,t3,t4,uD,u0,qz,gg,sS];rfl
   · cases b<;>simp only[uD,if_true,u0]<;>rw[vp q1]<;>exact q2
   · cases b<;>simp [qfl,f6]
   · cases b<;>simp
  have none_fin:∀{h7:H} {h':H} (e:zj×Bool×Int),e=(yd,false,0)→aQ AP.A 240 [.agg [v],.agg (u9 x)] h=some (.bO [.agg (u9 vB),.bool false,.int .i64 0],h')→Ext h h'→h'.floor=h.floor→h.next≤h'.next→
   ∃y h',aQ AP.A 240 [.agg [v],.agg (u9 x)] h=some (.bO [.agg (u9 y),.bool e.2.1,.int .i64 e.2.2],h')∧y.m=e.1∧Tk h h' y:=fun {h7 h'} e he q1 q2 q3 q4=>by
   subst he
   exact⟨vB,h',q1,rfl,Ep h',G0 _ _,q2,q3,q4⟩
  have xfin:∀{h7 h':H},(∀i c,i≠h4.next→h6.get i=some c→h7.get i=some c)→(∀i c,i≠h.next+2→h7.get i=some c→h'.get i=some c)→Ext h h':=fun a b i c q=>by
   have:=h.lt _ _ q
   exact b _ _ (by omega) (a _ _ (by omega) (x6 _ _ (x5 _ _ (xh4 _ _ q))))
  obtain⟨iw,ew,gw,fw,_⟩:∃i,w=.aD i 0 8 1∧h4.get i=some (ints (vK (l.map (·.1))))∧h4.floor≤i∧h3.next≤i:=by
   obtain⟨_,⟨_,q⟩|⟨i,q1,q2,q3,_⟩⟩:=g4.own
   · exact absurd q (by decide)
   · exact⟨i,q1,q2,q3,g4.ge i (by rw[q1];rfl)⟩
  have iwn:=h4.lt _ _ gw
  by_cases h0:x.m.kind=0
  · rw[if_pos h0]at ka
    have sd6:=sd.mono fun i c q=>x6 _ _ (x5 _ _ q)
    have ks:=Jn h6 h5.next (h.next+1) h4.next v w l sd6 (by rw[eh6,vk rfl]) x y0 k3.gM gO6 (by omega) k3.ne sw
    have low:∀i c,i≠h4.next→h6.get i=some c→(h6.set h4.next (u9 {y0 with m:={y0.m with kind:=1},vd:=w})).get i=some c:=fun i c c2 q=>by rw[vp c2];exact q
    obtain⟨h',t1,t2,t3,t4⟩:=fin (y:={y0 with m:={y0.m with kind:=1},vd:=w}) ka ks (by rw[vA rfl,gO6];rfl) low (by simp) (by simp) (by rw[hy0];simp [u9,sw])
    have X':=xfin low t2
    have N':h.next≤h'.next:=by rw[t4];simp;omega
    by_cases c:vX (vK (l.map (·.1)))=x.m.root
    · rw[dt c,Bool.not_true,if_neg (by decide)]at t1
      refine none_fin (h7:=h6) _ ?_ t1 X' t3 N'
      unfold yD;rw[if_pos h0,if_pos c];rfl
    · rw[df c,Bool.not_false,if_pos rfl]at t1
      have ea:yD (l.map (·.1)) x.m=some ⟨1,x.m.dst,x.m.src,0,vK (l.map (·.1)),[],[],[],[]⟩:=by unfold yD;rw[if_pos h0,if_neg c]
      rw[ea]
      have gw':h'.get iw=some (ints (vK (l.map (·.1)))):=t2 _ _ (by omega) (low _ _ (by omega) (x6 _ _ (x5 _ _ gw)))
      refine⟨⟨⟨1,x.m.dst,x.m.src,0,vK (l.map (·.1)),[],[],[],[]⟩,w,.aO,.aO,.aO,.aO,[],[]⟩,h', ?_,rfl,⟨⟨?_,yh _,Eh _,rfl,yh _,AF _ _,rfl,fun y hy=>(by cases hy),fun y hy=>(by cases hy),⟨sw,rfl,rfl,rfl,rfl⟩, ?_,by show(0:Nat)<_;omega,by show(0:Nat)<_;omega,by show(0:Nat)<_;omega,by show(0:Nat)<_;omega,⟨fun s hs=>(by cases hs),fun s hs=>(by cases hs)⟩⟩,.d (.inr ⟨iw, ?_,gw',by omega,by omega, ?_⟩) rfl rfl rfl rfl,X',t3,N'⟩⟩
      · rw[t1,hy0];rfl
      · rw[ew];exact Rd.obj gw' (vI _)
      · show(vK (l.map (·.1))).length<_;rw[vI];omega
      · show w=_;rw[ew,vI]
      · show(vK (l.map (·.1))).length<_;rw[vI];omega
  rw[if_neg h0]at ka
  by_cases h1:x.m.kind=1
  · rw [if_pos h1] at ka
    have l8:x.m.wA.length=8:=by
     have:=c2
     unfold AB xS at this
     rw[if_neg h0,if_pos h1]at this
     simp only[uG,UY]at this
     exact this.2.1.1
    obtain⟨h7,ov,ow,acc,ks,low,n7,f7,gO7,o1,o2,m2,g1,g2,g3⟩:=HJ (y:=y0) k3 sv l8 gO6 (by rw[hy0])
    have s1:=o1.sc
    have s2:=o2.sc
    obtain⟨h',t1,t2,t3,t4⟩:=fin (y:={y0 with m:={y0.m with kind:=2},vb:=ov,vf:=ow}) ka ks gO7 low n7 f7 (by rw[hy0];simp [u9,s1,s2])
    have X':=xfin low t2
    have N':h.next≤h'.next:=by rw[t4];omega
    obtain⟨U,hU⟩:∃U,U=xL (l.map (·.1)) x.m.wA:=⟨_,rfl⟩
    rw[←hU]at t1 o1 m2
    by_cases c:U=[]
    · rw[c]at t1
      refine none_fin (h7:=h6) _ ?_ t1 X' t3 N'
      unfold yD;rw[if_neg h0,if_pos h1,←hU,if_pos c];rfl
    · have U0:0<U.length:=List.length_pos_iff.2 c
      rw[dt U0,if_pos rfl]at t1
      have ea:yD (l.map (·.1)) x.m=some ⟨2,x.m.dst,x.m.src,0,[],U,vL (l.map (·.1)) U,[],[]⟩:=by unfold yD;rw[if_neg h0,if_pos h1,←hU,if_neg c]
      rw[ea]
      have Ul:U.length≤8:=by rw[hU];have:=zE (vK (l.map (·.1))) x.m.wA 0;rw[vI]at this;exact this
      have o1':vM 1 h' ov U.length (ints U):=by
       obtain⟨a,⟨b1,b2⟩|⟨j,b1,b2,b3,b4⟩⟩:=o1
       · exact⟨a,.inl ⟨b1,b2⟩⟩
       · have:=g1 j (by rw[b1];rfl)
         exact⟨a,.inr ⟨j,b1,t2 _ _ (by omega) b2,by omega,b4⟩⟩
      have o2':vM 2 h' ow acc.length (wv acc):=by
       obtain⟨a,⟨b1,b2⟩|⟨j,b1,b2,b3,b4⟩⟩:=o2
       · exact⟨a,.inl ⟨b1,b2⟩⟩
       · have:=(g2 j (by rw[b1];rfl)).1
         exact⟨a,.inr ⟨j,b1,t2 _ _ (by omega) b2,by omega,b4⟩⟩
      have al:acc.length≤6:=by
       have:=Vi List.length m2
       rw[UW]at this
       have a2:=yW (l.map (·.1)) U
       have a3:=(vV (wL c1)).1
       omega
      have bsz:∀z∈acc,z.1.1.size≤8:=fun z hz=>by
       have:z.1∈vL (l.map (·.1)) U:=by rw[←m2];exact U8.2 ⟨z,hz,rfl⟩
       unfold vL at this
       obtain⟨e,he,q⟩:=U8.1 this
       rw[←q]
       exact(Ce c1 e ((List.mem_filter.1 he).1)).2.2
      have vz:∀z∈acc,z.1.2.length=4∧∃j,z.2=.aD j 0 4 1∧h'.get j=some (ints z.1.2)∧h.next≤j∧ow.id?≠some j∧ov.id?≠some j∧h'.floor≤j:=fun z hz=>by
       obtain⟨a1,j,a2,a3,a4,a5,a6,a7⟩:=g3 z hz
       exact⟨a1,j,a2,t2 _ _ (by omega) a3,by omega,a5,a6,by omega⟩
      refine⟨⟨⟨2,x.m.dst,x.m.src,0,[],U,vL (l.map (·.1)) U,[],[]⟩,.aO,ov,ow,.aO,.aO,acc,[]⟩,h', ?_,rfl,⟨⟨yh _,GD o1',⟨o2'.rd,fun z hz=> ?_⟩,m2,yh _,AF _ _,rfl,fun y hy=>(by cases hy),fun z hz=> ?_,⟨rfl,s1,s2,rfl,rfl⟩,by show(0:Nat)<_;omega,by show U.length<_;omega, ?_,by show(0:Nat)<_;omega,by show(0:Nat)<_;omega,⟨fun s hs=>(by cases hs),fun b hb=> ?_⟩⟩,.b ?_ ⟨o2',fun i q=>by have:=(g2 i q).1;omega,fun z hz=> ?_⟩ (by show acc.length≤1000;omega) (fun i q=> ?_) rfl rfl rfl,X',t3,N'⟩⟩
      · rw[t1,hy0];rfl
      · obtain⟨a1,j,a2,a3,_⟩:=vz z hz
        rw[a2]
        exact⟨Rd.obj a3 a1,by omega⟩
      · obtain⟨a1,j,a2,_⟩:=vz z hz
        rw[a2];rfl
      · have a2:=yW (l.map (·.1)) U
        have a3:=(vV (wL c1)).1
        show(vL (l.map (·.1)) U).length<_
        omega
      · have hb':b∈vL (l.map (·.1)) U:=hb
        rw[←m2]at hb'
        obtain⟨z,hz,rfl⟩:=U8.1 hb'
        have:=bsz z hz
        omega
      · obtain⟨_,⟨b1,b2⟩|⟨j,b1,b2,b3,b4⟩⟩:=o1'
        · exact .inl b1
        · have:=g1 j (by rw[b1];rfl)
          exact .inr ⟨j,b1,b2,b3,by omega,by show U.length<_;omega⟩
      · obtain⟨a1,j,a2,a3,a4,a5,a6,a7⟩:=vz z hz
        exact⟨bsz z hz,a1,j,a2,a3,a4,a5,a7⟩
      · refine⟨fun q2=>(g2 i q2).2 q,fun z hz q2=> ?_⟩
        obtain⟨a1,j,a2,a3,a4,a5,a6,a7⟩:=vz z hz
        rw[a2]at q2
        obtain rfl:=uv q2
        exact a6 q
  rw[if_neg h1]at ka
  by_cases h2':x.m.kind=2
  · rw [if_pos h2'] at ka
    have fm:x.m.vt.length≤6∧(∀b∈x.m.vt,xo b.2=true)∧∀b∈x.m.vt,b.1.size≤8:=by
     have:=c2
     unfold AB xS at this
     rw[if_neg h0,if_neg h1,if_pos h2']at this
     simp only[uG,UY,Vd]at this
     exact⟨this.2.1.2.2.2.1,this.2.1.2.2.2.2,fun b hb=>DE this.2.1.2.2.1 b.1 (U8.2 ⟨b,hb,rfl⟩)⟩
    have fl6:x.fs.length≤6:=by
     have:x.fs.length=x.m.vt.length:=by rw[←ox.hf];simp
     omega
    obtain⟨h7,ov,ks,low,n7,f7,gO7,o1,g1⟩:=P4 (y:=y0) k3 fl6 fm.2.1 gO6 (by rw[hy0])
    have s1:=o1.sc
    obtain⟨h',t1,t2,t3,t4⟩:=fin (y:={y0 with m:={y0.m with kind:=3},vn:=ov}) ka ks gO7 low n7 f7 (by rw[hy0];simp [u9,s1])
    have X':=xfin low t2
    have N':h.next≤h'.next:=by rw[t4];omega
    obtain⟨U,hU⟩:∃U,U=xD (l.map (·.1)) x.m.vt:=⟨_,rfl⟩
    rw[←hU]at t1 o1
    by_cases c:U=[]
    · rw[c]at t1
      refine none_fin (h7:=h6) _ ?_ t1 X' t3 N'
      unfold yD;rw[if_neg h0,if_neg h1,if_pos h2',←hU,if_pos c];rfl
    · have U0:0<U.length:=List.length_pos_iff.2 c
      rw[dt U0,if_pos rfl]at t1
      have ea:yD (l.map (·.1)) x.m=some ⟨3,x.m.dst,x.m.src,0,[],[],[],U,[]⟩:=by unfold yD;rw[if_neg h0,if_neg h1,if_pos h2',←hU,if_neg c]
      rw[ea]
      have Ul:U.length≤6:=by rw[hU];unfold xD;rw[UW];exact uX (List.length_filter_le _ _) fm.1
      have Us:∀s∈U,s.size≤8:=fun s hs=>by
       rw[hU]at hs
       unfold xD at hs
       obtain⟨b,hb,rfl⟩:=U8.1 hs
       exact fm.2.2 b (List.mem_filter.1 hb).1
      have o1':vM 1 h' ov U.length (xX U):=by
       obtain⟨a,⟨b1,b2⟩|⟨j,b1,b2,b3,b4⟩⟩:=o1
       · exact⟨a,.inl ⟨b1,b2⟩⟩
       · have:=g1 j (by rw[b1];rfl)
         exact⟨a,.inr ⟨j,b1,t2 _ _ (by omega) b2,by omega,b4⟩⟩
      have rN:Rd h' ov (xX U):=by
       have:=o1'.rd
       exact⟨by rw[w9];exact this.1,this.2.2⟩
      refine⟨⟨⟨3,x.m.dst,x.m.src,0,[],[],[],U,[]⟩,.aO,.aO,.aO,ov,.aO,[],[]⟩,h', ?_,rfl,⟨⟨yh _,yh _,Eh _,rfl,rN,AF _ _,rfl,fun y hy=>(by cases hy),fun y hy=>(by cases hy),⟨rfl,rfl,rfl,s1,rfl⟩,by show(0:Nat)<_;omega,by show(0:Nat)<_;omega,by show(0:Nat)<_;omega,by show U.length<_;omega,by show(0:Nat)<_;omega,⟨fun s hs=>by have:=Us s hs;omega,fun s hs=>(by cases hs)⟩⟩,.n ?_ rfl rfl rfl rfl,X',t3,N'⟩⟩
      · rw[t1,hy0];rfl
      · obtain⟨_,⟨b1,b2⟩|⟨j,b1,b2,b3,b4⟩⟩:=o1'
        · exact .inl b1
        · have:=g1 j (by rw[b1];rfl)
          exact .inr ⟨j,b1,b2,b3,by omega,by show U.length<_;omega,fun s hs=>by have:=Us s hs;omega⟩
  rw[if_neg h2']at ka
  by_cases h3':x.m.kind=3
  · rw [if_pos h3'] at ka
    have nl6:x.m.names.length≤6:=by
     have:=c2
     unfold AB xS at this
     rw[if_neg h0,if_neg h1,if_neg h2',if_pos h3']at this
     simp only[uG,UY]at this
     exact this.2.1.2.2
    obtain⟨h7,ov,acc,ks,low,n7,f7,gO7,o1,m1,a6⟩:=P3 (y:=y0) k3 nl6 gO6 (by rw[hy0])
    have s1:=o1.own.sc
    obtain⟨h',t1,t2,t3,t4⟩:=fin (y:={y0 with m:={y0.m with kind:=4},ve:=ov}) ka ks gO7 low n7 f7 (by rw[hy0];simp [u9,s1])
    have X':=xfin low t2
    have N':h.next≤h'.next:=by rw[t4];omega
    obtain⟨U,hU⟩:∃U,U=zw (l.map (·.1)) x.m.names:=⟨_,rfl⟩
    rw[←hU]at t1 m1
    by_cases c:U=[]
    · rw[c]at t1
      refine none_fin (h7:=h6) _ ?_ t1 X' t3 N'
      unfold yD;rw[if_neg h0,if_neg h1,if_neg h2',if_pos h3',←hU,if_pos c];rfl
    · have U0:0<U.length:=List.length_pos_iff.2 c
      rw[dt U0,if_pos rfl]at t1
      have ea:yD (l.map (·.1)) x.m=some ⟨4,x.m.dst,x.m.src,0,[],[],[],[],U⟩:=by unfold yD;rw[if_neg h0,if_neg h1,if_neg h2',if_pos h3',←hU,if_neg c]
      rw[ea]
      have Ul:U.length≤6:=by have:=Vi List.length m1;rw[UW]at this;omega
      have o1':WE h.next h' ov acc:=by
       refine⟨?_,fun i q=>by have:=o1.ge i q;omega,fun z hz=> ?_⟩
       · obtain⟨a,⟨b1,b2⟩|⟨j,b1,b2,b3,b4⟩⟩:=o1.own
         · exact⟨a,.inl ⟨b1,b2⟩⟩
         · have:=o1.ge j (by rw[b1];rfl)
           exact⟨a,.inr ⟨j,b1,t2 _ _ (by omega) b2,by omega,b4⟩⟩
       · obtain⟨d1,d2,j,d3,d4,d5,d6,d7⟩:=o1.el z hz
         exact⟨d1,d2,j,d3,t2 _ _ (by omega) d4,by omega,d6,by omega⟩
      have sz:∀z∈acc,z.1.name.size≤8∧z.1.packed.size≤300:=fun z hz=>by
       have:z.1∈U:=by rw[←m1];exact U8.2 ⟨z,hz,rfl⟩
       rw[hU]at this
       have mf:=(vV (wL c1)).2.1 z.1 (Jd this)
       exact⟨(wY mf.1).2,yZ mf.2.2⟩
      refine⟨⟨⟨4,x.m.dst,x.m.src,0,[],[],[],[],U⟩,.aO,.aO,.aO,.aO,ov,[],acc⟩,h', ?_,rfl,⟨⟨yh _,yh _,Eh _,rfl,yh _,o1'.own.rd,m1,fun z hz=> ?_,fun y hy=>(by cases hy),⟨rfl,rfl,rfl,rfl,s1⟩,by show(0:Nat)<_;omega,by show(0:Nat)<_;omega,by show(0:Nat)<_;omega,by show(0:Nat)<_;omega,by show U.length<_;omega,⟨fun s hs=>(by cases hs),fun s hs=>(by cases hs)⟩⟩,.e o1' (by show acc.length≤1000;omega) rfl rfl rfl rfl,X',t3,N'⟩⟩
      · rw[t1,hy0];rfl
      · obtain⟨d1,d2,j,d3,d4,d5,d6,d7⟩:=o1'.el z hz
        have:=sz z hz
        exact⟨⟨by rw[d3];exact Rd.obj d4 d2,by omega,by omega,by omega⟩,by rw[d3];rfl⟩
  rw[if_neg h3']at ka
  have gR5:=x5 _ _ gR4
  have st:tO h5 (h.next+2) 0 9 (u9 vB) (some (u9 vB))=some h5:=by rw[wE (n:=9) (by omega) rfl rfl rfl,H.jC gR5]
  refine none_fin (h7:=h6) (h':=h5) _ ?_ ?_ (fun i c q=>x5 _ _ (xh4 _ _ q)) f5 (by omega)
  · unfold yD;rw[if_neg h0,if_neg h1,if_neg h2',if_neg h3'];rfl
  · refine tr (fn:=AP.f240) (h2:=h5) (e:=[(4,.aC (h.next+2) 0),(5,.bool false),(6,.int .i64 0)]) (vs:=[.agg (u9 vB),.bool false,.int .i64 0]) rfl rfl rfl ?_ (by simp only[AP.f240,cL,mQ,mE,kU,ne_eq,Nat.reduceEqDiff,not_false_eq_true,qz,gR5,sS];rfl)
    rw[hb _ ka]
    have z0:([.int .i64 0,.int .i64 0,.int .i64 0,.int .i64 0,.aO,.aO,.aO,.aO,.aO]:List AV)=u9 vB:=rfl
    have kM:fI 2 .eT .eT=some true:=rfl
    clear ox rd hv x3 x4 g4 xh4 ox4 b0 b1 b2 b3 x5 hy0 tX ka sd k3 fin xfin none_fin hb
    generalize u9 vB=Z at *
    simp (disch:=omega)only[go_sem,vh,AP.f240,CR,CS,kM,z0,gR5,st]
def SF (l:List Int):AV:=DI 1 l.length (ints l)
def Uo (l:List ByteArray):AV:=DI 1 l.length (xX l)
def wW (m:zj):wc:=⟨m,SF m.wA,SF m.wF,Ah m.vt,Uo m.names,J4 m.wj,m.vt.map Hx,m.wj.map Qf⟩
theorem CJ (n k:Nat) (cs:List AV):(DI n k cs).sc=true:=by unfold DI;split<;>rfl
structure Lo (m:zj):Prop where
 d:m.wA.length<1000
 b:m.wF.length<1000
 f:m.vt.length<1000
 n:m.names.length<1000
 e:m.wj.length<1000
 nz:∀s∈m.names,s.size<1000
 fz:∀b∈m.vt,b.1.size<1000∧b.2.length<1000
 ez:∀e∈m.wj,e.name.size<1000∧e.packed.size<1000∧e.vec.length<1000
theorem x8 (h:H) {m:zj} (s:Lo m):zl h (wW m):=by
 have rdi:∀l:List Int,Rd h (SF l) (ints l):=fun l=>by
  have:=Eg (n:=1) (k:=l.length) (h:=h) (cs:=ints l) (by rw[pt];omega)
  exact⟨by rw[pt];exact this.1,this.2.2⟩
 have d:=s.d
 have b:=s.b
 have f:=s.f
 have n:=s.n
 have e:=s.e
 refine⟨rdi _,rdi _,Ic h fun b hb=>by have:=(s.fz b hb).2;omega,(by show(m.vt.map Hx).map (·.1)=_;rw[List.map_map];exact List.map_id _), ?_,J5 h _,(by show(m.wj.map Qf).map (·.1)=_;rw[List.map_map];exact List.map_id _),fun y hy=> ?_,fun y hy=> ?_,⟨CJ _ _ _,CJ _ _ _,CJ _ _ _,CJ _ _ _,J6 _⟩,by show m.wA.length<_;omega,by show m.wF.length<_;omega,by show m.vt.length<_;omega,by show m.names.length<_;omega,by show m.wj.length<_;omega,⟨fun t ht=>by have:=s.nz t ht;omega,fun t ht=>by have:=(s.fz t ht).1;omega⟩⟩
 · have:=Eg (n:=1) (k:=m.names.length) (h:=h) (cs:=xX m.names) (by rw[w9];omega)
   exact⟨by rw[w9];exact this.1,this.2.2⟩
 · obtain⟨x,hx,rfl⟩:=U8.1 hy
   have:=s.ez x hx
   exact⟨⟨yg h x.vec,by show x.vec.length<_;omega,by show x.name.size<_;omega,by show x.packed.size<_;omega⟩,rfl⟩
 · obtain⟨x,hx,rfl⟩:=U8.1 hy
   rfl
theorem PZ:Lo yd:=⟨by decide,by decide,by decide,by decide,by decide,fun s h=>(by cases h),fun s h=>(by cases h),fun s h=>(by cases h)⟩
def xV (L:List vQ) (f t:Int):zj×Int:=if vY L=true∧(vW f=true∧vW t=true∧f≠t)then(⟨0,f,t,vX (vK L),[],[],[],[],[]⟩,0)else(yd,2200)
theorem Ea (L:List vQ) (f t:Int):Lo (xV L f t).1:=by
 unfold xV
 split
 · exact⟨by show(0:Nat)<_;omega,by show(0:Nat)<_;omega,by show(0:Nat)<_;omega,by show(0:Nat)<_;omega,by show(0:Nat)<_;omega,fun s h=>(by cases h),fun s h=>(by cases h),fun s h=>(by cases h)⟩
 · exact PZ
theorem PM (L:List vQ) (f t:Int):u9 (wW (xV L f t).1)=[.int .i64 (xV L f t).1.kind,.int .i64 (xV L f t).1.src,.int .i64 (xV L f t).1.dst,.int .i64 (xV L f t).1.root,.aO,.aO,.aO,.aO,.aO]:=by
 unfold xV
 split<;>rfl
theorem Eb (h : H) (v : AV) (l : List vF) (sv : v.sc = true) (hn : l.length < 1125899906842624) (rd : wO 9 h v l.length (vD l)) (hv : ∀ x ∈ l, wS h x ∧ x.2.sc = true) (f t : Int) :
 aQ AP.A 238 [.agg [v],.int .i64 f,.int .i64 t] h=some (.bO [.agg (u9 (wW (xV (l.map (·.1)) f t).1)),.int .i64 (xV (l.map (·.1)) f t).2],h):=by
 obtain⟨h1,eh1⟩:∃g,g=h.dX.alloc [v]:=⟨_,rfl⟩
 obtain⟨h2,eh2⟩:∃g,g=h1.alloc (u9 vB):=⟨_,rfl⟩
 have n0:h.dX.next=h.next:=rfl
 have n1:h1.next=h.next+1:=by rw[eh1];simp
 have n2:h2.next=h.next+2:=by rw[eh2];simp [n1]
 have f2:h2.floor=h.next:=by rw[eh2,eh1];simp
 have x2:Ext h h2:=fun i c q=>by rw[eh2,eh1];exact(((Ext.refl h.dX).alloc _).alloc _) i c q
 have g1:h2.get h.next=some [v]:=by rw[eh2,vN (by omega),eh1];exact vk rfl
 have gR:h2.get (h.next+1)=some (u9 vB):=by rw[eh2,vk (by omega)]
 have z2:h1.alloc (u9 vB)=h2:=eh2.symm
 have cz:AV.aB (u9 vB)=true:=rfl
 have rd2:=rd.mono fun i c q=>x2 i c q
 have hv2:∀x∈l,wS h2 x∧x.2.sc=true:=fun x hx=>⟨(hv x hx).1.mono x2,(hv x hx).2⟩
 have fin:∀(h3:H) (m:zj) (e:Int),(∀g:Nat→Option (List AV),(fJ (snap g h.next 14 true) (u9 (wW m)))=some (u9 (wW m)))→h3.get (h.next+1)=some (u9 (wW m))→aK (aQ AP.A) bz AP.f238.body (params 0 [.agg [v],.int .i64 f,.int .i64 t]) h.dX=some (.ret,[(6,.aC (h.next+1) 0),(7,.int .i64 e)],h3)→
  aQ AP.A 238 [.agg [v],.int .i64 f,.int .i64 t] h=some (.bO [.agg (u9 (wW m)),.int .i64 e],h):=fun h3 m e hs hg hb=>by
  refine tM (fn:=AP.f238) (h2:=h3) (e:=[(6,.aC (h.next+1) 0),(7,.int .i64 e)]) (vs:=[.agg (u9 (wW m)),.int .i64 e]) rfl rfl rfl hb (by simp only[AP.f238,cL,mQ,mE,kU,ne_eq,Nat.reduceEqDiff,not_false_eq_true,qz,hg,sS];rfl) ?_
  show(fJ (snap h3.get h.next 15 true) [.agg (u9 (wW m)),.int .i64 e]).bind _=_
  have s1:snap h3.get h.next 15 true (.agg (u9 (wW m)))=some (.agg (u9 (wW m))):=by
   show(fJ (snap h3.get h.next 14 true) (u9 (wW m))).bind _=_
   rw[hs];rfl
  simp only[fJ,s1];rfl
 have sn:∀(a b c d:Int) (g:Nat→Option (List AV)),fJ (snap g h.next 14 true) [.int .i64 a,.int .i64 b,.int .i64 c,.int .i64 d,.aO,.aO,.aO,.aO,.aO]=some [.int .i64 a,.int .i64 b,.int .i64 c,.int .i64 d,.aO,.aO,.aO,.aO,.aO]:=fun a b c d g=>rfl
 have eC:=PM (l.map (·.1)) f t
 refine(fun q:∃h3,h3.get (h.next+1)=some (u9 (wW (xV (l.map (·.1)) f t).1))∧aK (aQ AP.A) bz AP.f238.body (params 0 [.agg [v],.int .i64 f,.int .i64 t]) h.dX=some (.ret,[(6,.aC (h.next+1) 0),(7,.int .i64 (xV (l.map (·.1)) f t).2)],h3)=>q.elim fun h3 q=>fin h3 _ _ (fun g=>by rw[eC];exact sn _ _ _ _ g) q.1 q.2) ?_
 clear fin sn
 have stz:∀{h3:H},h3.floor=h.next→h3.get (h.next+1)=some (u9 vB)→tO h3 (h.next+1) 0 9 (u9 vB) (some (u9 vB))=some h3:=fun hf hg=>by rw[wE (n:=9) (by omega) rfl rfl rfl,H.jC hg]
 have z0:([.int .i64 0,.int .i64 0,.int .i64 0,.int .i64 0,.aO,.aO,.aO,.aO,.aO]:List AV)=u9 vB:=rfl
 by_cases hm:vY (l.map (·.1))=true
 · obtain⟨i,h3,k1,gi,x3,f3,n3,_⟩:=Np h2 (by omega) v l sv hn rd2 hv2 hm
   have gR3:=x3 _ _ gR
   have q1:=Cv h3 f
   have q2:=Cv h3 t
   have st:=stz (h3:=h3) (by omega) gR3
   by_cases c:vW f=true∧vW t=true∧f≠t
   · have eo:xV (l.map (·.1)) f t=(⟨0,f,t,vX (vK (l.map (·.1))),[],[],[],[],[]⟩,0):=by unfold xV;rw[if_pos ⟨hm,c⟩]
     rw[eo]
     obtain⟨c1,c2,c3⟩:=c
     rw[c1]at q1
     rw[c2]at q2
     have k2:=Jf h3 (.aD i 0 8 1) (vK (l.map (·.1))) (Rd.obj gi (vI _)) (by rw[vI];omega)
     unfold GH at k2
     rw[Ca,vI,dt rfl,Ve,if_pos rfl]at k2
     obtain⟨Y,hY⟩:∃Y,Y=u9 (wW ⟨0,f,t,vX (vK (l.map (·.1))),[],[],[],[],[]⟩):=⟨_,rfl⟩
     rw[←hY]
     have fy:dY (u9 vB) [(0,1,.int .i64 0),(1,1,.int .i64 f),(2,1,.int .i64 t),(3,1,.int .i64 (vX (vK (l.map (·.1)))))]=some Y:=by rw[hY];rfl
     have st2:tO h3 (h.next+1) 0 9 Y (some (u9 vB))=some (h3.set (h.next+1) Y):=wE (by omega) (by rw[hY];rfl) rfl (by rw[hY];rfl)
     refine⟨h3.set (h.next+1) Y,by rw[vA rfl,gR3];rfl, ?_⟩
     clear rd rd2 hv hv2 x2 x3 hY eC eo
     generalize vX (vK (l.map (·.1)))=R at *
     generalize u9 vB=Z at *
     simp (disch:=omega)only[go_sem,yJ,DS,wH,BQ,pN,rk,Bool.and_true,U7,Ve,dt,df,KY,PK,Nt,UR,UT,uK,Vg,U5,Vf,AP.f238,sv,n0,←eh1,n1,cz,z2,g1,wM,k1,q1,q2,k2,fy,gR3,st2,z0]
   · have eo:xV (l.map (·.1)) f t=(yd,2200):=by unfold xV;rw[if_neg (fun q=>c q.2)]
     rw[eo]
     refine⟨h3,gR3, ?_⟩
     clear rd rd2 hv hv2 x2 x3 eC eo stz
     have cc:vW f=false∨vW f=true∧vW t=false∨vW f=true∧vW t=true∧f=t:=by
      cases a:vW f<;>cases b:vW t<;>simp_all
     generalize u9 vB=Z at *
     rcases cc with c1|⟨c1,c2⟩|⟨c1,c2,c3⟩
     · rw[c1]at q1
       simp (disch:=omega)only[go_sem,vh,AP.f238,sv,n0,←eh1,n1,cz,z2,g1,wM,k1,q1,q2,gR3,z0,st]
     · rw[c1]at q1
       rw[c2]at q2
       simp (disch:=omega)only[go_sem,vh,AP.f238,sv,n0,←eh1,n1,cz,z2,g1,wM,k1,q1,q2,gR3,z0,st]
     · rw[c1]at q1
       rw[c2]at q2
       simp (disch:=omega)only[go_sem,vh,AP.f238,sv,n0,←eh1,n1,cz,z2,g1,wM,k1,q1,q2,gR3,z0,st]
 · have hm':vY (l.map (·.1))=false:=by simpa using hm
   obtain⟨h3,k1,x3,f3,n3⟩:=Nn h2 (by omega) v l sv hn rd2 hv2 hm'
   have gR3:=x3 _ _ gR
   have st:=stz (h3:=h3) (by omega) gR3
   have eo:xV (l.map (·.1)) f t=(yd,2200):=by unfold xV;rw[if_neg (fun q=>hm q.1)]
   rw[eo]
   refine⟨h3,gR3, ?_⟩
   clear rd rd2 hv hv2 x2 x3 eC eo stz
   generalize u9 vB=Z at *
   simp (disch:=omega)only[go_sem,vh,AP.f238,sv,n0,←eh1,n1,cz,z2,g1,wM,k1,gR3,z0,st]
structure Dk (B G:H) (P M O:Nat) (v:AV) (l:List vF) (x:wc):Prop where
 rd:wO 9 B v l.length (vD l)
 ok:∀z∈l,wS B z∧z.2.sc=true
 fo:vY (l.map (·.1))=true
 ox:zl B x
 gP:G.get P=some [v]
 gM:G.get M=some (u9 x)
 ne:P≠O∧M≠O
 Tj:Ext B G
 BO:B.next≤O
 ON:O<G.next
 fO:G.floor≤O
 fG:G.floor≤G.next
theorem Dk.ext {B G h:H} {P M O:Nat} {v:AV} {l:List vF} {x:wc} (k:Dk B G P M O v l x) (low:∀i c,i≠O→G.get i=some c→h.get i=some c):Ext B h:=fun i c q=>by
 have:=B.lt _ _ q
 have:=k.BO
 exact low i c (by omega) (k.Tj i c q)
theorem Jl (L:List vQ):SF (vK L)=wk (vK L):=by unfold SF DI wk;rw[vI];rfl
theorem F1 (h:H) (name text:ByteArray) (node:Nat) (vG:Int) (hn:node<4) (ht:text.size<1125899906842624):
 aQ AP.A 246 [.str name,.int .i64 node,.int .i64 vG,.str text] h=some (.agg (vq (Ac name node vG text) (Bi ([0,0,0,0].set node vG))),h):=by
 obtain⟨h1,eh1⟩:∃g,g=h.dX.alloc (vq EO .aO):=⟨_,rfl⟩
 obtain⟨h2,eh2⟩:∃g,g=h1.alloc (ints [0,0,0,0]):=⟨_,rfl⟩
 obtain⟨h3,eh3⟩:∃g,g=h2.set (h.next+1) (ints ([0,0,0,0].set node vG)):=⟨_,rfl⟩
 obtain⟨h4,eh4⟩:∃g,g=h3.set h.next (vq (Ac name node vG text) (.aD (h.next+1) 0 4 1)):=⟨_,rfl⟩
 have n0:h.dX.next=h.next:=rfl
 have n1:h1.next=h.next+1:=by rw[eh1];simp
 have f2:h2.floor=h.next:=by rw[eh2,eh1];simp
 have f3:h3.floor=h.next:=by rw[eh3];simp [f2]
 have g2:h2.get (h.next+1)=some (ints [0,0,0,0]):=by rw[eh2,vk (by omega)]
 have gz3:h3.get h.next=some (vq EO .aO):=by rw[eh3,vp (by omega),eh2,vN (by omega),eh1,vk (by simp)]
 have g3:h3.get (h.next+1)=some (ints ([0,0,0,0].set node vG)):=by rw[eh3,vA rfl,g2];rfl
 have g4:h4.get h.next=some (vq (Ac name node vG text) (.aD (h.next+1) 0 4 1)):=by rw[eh4,vA rfl,gz3];rfl
 have g4':h4.get (h.next+1)=some (ints ([0,0,0,0].set node vG)):=by rw[eh4,vp (by omega),g3]
 have st3:tO h2 (h.next+1) node 1 [.int .i64 vG] (some (ints [0,0,0,0]))=some h3:=by
  rw[uh (by omega) (by simp;omega) rfl,eh3]
  congr 2
  match node,hn with
  |0,_=>rfl
  |1,_=>rfl
  |2,_=>rfl
  |3,_=>rfl
 have st4:tO h3 h.next 0 9 [.str name,.bool false,.aD (h.next+1) 0 4 1,.int .i64 vG,.int .i64 node,.int .i64 0,.str text,.int .i64 text.size,.int .i64 (xE text:Nat)] (some (vq EO .aO))=some h4:=by
  rw[eh4];exact wE (by omega) rfl rfl rfl
 have e1:h.dX.alloc [.str ⟨#[]⟩,.bool false,.aO,.int .i64 0,.int .i64 0,.int .i64 0,.str ⟨#[]⟩,.int .i64 0,.int .i64 0]=h1:=eh1.symm
 have e2:h1.alloc (AG 4 [.int .i64 0])=h2:=eh2.symm
 have kc:=B6 h3 text ht
 have hlen:([0,0,0,0].set node vG:List Int).length=4:=by simp
 have o:vM 1 h4 (.aD (h.next+1) 0 4 1) 4 (ints ([0,0,0,0].set node vG)):=⟨by simp,.inr ⟨_,rfl,g4',by rw[eh4];simp;omega,by omega⟩⟩
 have s1:snap h4.get h.next 15 true (.aD (h.next+1) 0 4 1)=some (Bi ([0,0,0,0].set node vG)):=by
  have:=o.yw (fl:=h.next) (m:=13) (t:=true) (by rw[eh4];simp;omega)
  rw[this];unfold Bi;rw[hlen]
 have body:aK (aQ AP.A) bz AP.f246.body (params 0 [.str name,.int .i64 node,.int .i64 vG,.str text]) h.dX=some (.ret,[(8,.aC h.next 0)],h4):=by
  clear o s1 g4 g4' g3
  have it:((node:Nat):Int).toNat=node:=by omega
  simp (disch:=omega)only[go_sem,vh,AP.f246,n0,e1,n1,e2,it,g2,st3,kc,gz3,st4]
 refine tM (fn:=AP.f246) (h2:=h4) (e:=[(8,.aC h.next 0)]) (vs:=[.agg (vq (Ac name node vG text) (.aD (h.next+1) 0 4 1))]) rfl rfl rfl body ?_ ?_
 · simp only[AP.f246,cL,mQ,mE,qz,g4,sS];rfl
 · exact Jm s1
def D7:List vQ:=[eA]
def PL:zj:=(xV D7 0 1).1
def Sx:zj:=(wU [] PL).1
def Sz:zj:=(wU D7 Sx).1
def SO:zj:=(wU [] Sz).1
def Tf:zj:=(wU D7 SO).1
theorem K2:(xV D7 0 1).2=0∧(xV D7 1 1).2=2200:=by decide+kernel
theorem I1:(wU [] PL).2=(true,0)∧Sx.kind=1∧Sx.src=1:=by decide+kernel
theorem I5:(wU D7 Sx).2=(true,0)∧Sz.kind=2∧Sz.vt.length=1:=by decide+kernel
theorem K3:(wU [] Sz).2=(true,0)∧SO.names=[nA]:=by decide+kernel
theorem K4:(wU D7 SO).2=(true,0)∧Tf.wj=D7:=by decide+kernel
theorem Lm:(wU D7 Tf).2=(false,0)∧(wU D7 PL).2=(false,0):=by decide+kernel
theorem zH (G:H) (hf:G.floor≤G.next) (v:AV) (l:List vF) (sv:v.sc=true) (hn:l.length<1125899906842624) (rd:wO 9 G v l.length (vD l)) (hv:∀x∈l,wS G x∧x.2.sc=true) (x:wc) (ox:zl G x):
 ∃(y:wc) (h' A G':H) (O:Nat),aQ AP.A 240 [.agg [v],.agg (u9 x)] G=some (.bO [.agg (u9 y),.bool (wU (l.map (·.1)) x.m).2.1,.int .i64 (wU (l.map (·.1)) x.m).2.2],h')∧y.m=(wU (l.map (·.1)) x.m).1∧h'.alloc (u9 vB)=A∧h'.next=O∧A.get O=some (u9 vB)∧tO A O 0 9 (u9 y) (some (u9 vB))=some G'∧G'.get O=some (u9 y)∧Ext G G'∧zl G' y∧G'.floor=G.floor∧G.next≤O∧O<G'.next:=by
 obtain⟨y,h',k,em,a⟩:=KJ G hf v l sv hn rd hv x ox
 have lt:=a.nx
 have ga:(h'.alloc (u9 vB)).get h'.next=some (u9 vB):=vk rfl
 have e1:Ext h' ((h'.alloc (u9 vB)).set h'.next (u9 y)):=fun i c q=>by have:=h'.lt _ _ q;rw[vp (by omega),vN (by omega)];exact q
 refine⟨y,h',_,(h'.alloc (u9 vB)).set h'.next (u9 y),h'.next,k,em,rfl,rfl,ga,wE (by simp;have:=a.fl;omega) rfl rfl (yo a.ok),by rw[vA rfl,ga];rfl,fun i c q=>e1 _ _ (a.ext _ _ q),a.ok.mono e1,by simp [a.fl],lt,by simp⟩
theorem E9 (G:H) (hf:G.floor≤G.next) (m:zj) (s:Lo m):∃(A G':H) (O:Nat),G.alloc (u9 vB)=A∧G.next=O∧A.get O=some (u9 vB)∧tO A O 0 9 (u9 (wW m)) (some (u9 vB))=some G'∧G'.get O=some (u9 (wW m))∧Ext G G'∧G'.floor=G.floor∧O<G'.next:=by
 have ga:(G.alloc (u9 vB)).get G.next=some (u9 vB):=vk rfl
 have e1:Ext G ((G.alloc (u9 vB)).set G.next (u9 (wW m))):=fun i c q=>by have:=G.lt _ _ q;rw[vp (by omega),vN (by omega)];exact q
 exact⟨_,(G.alloc (u9 vB)).set G.next (u9 (wW m)),G.next,rfl,rfl,ga,wE (by simp;omega) rfl rfl (yo (x8 G s)),by rw[vA rfl,ga];rfl,e1,by simp,by simp⟩
theorem Jv (a b:ByteArray):bp .neq (.str a) (.str b)=some (.bool (!decide (a=b))):=by
 rw[AK]
 by_cases c:a=b
 · subst c;simp
 · rw[Em c,df c]
theorem GP {v w : AV} {a b : List ByteArray} (hab : a.length = b.length) (hl : a.length < 1125899906842624) (h : H) (ra : Rd h v (xX a)) (rb : Rd h w (xX b)) : ∀ (q r p p' : List ByteArray), a = p ++ q → b = p' ++ r → p.length = p'.length →
 (∃e',Lp AP.A [0,1,5] AP.f247L0 [(0,v),(1,w),(5,.int .i64 p.length)] h=some (.exit 0,e',h)∧q=r)∨
 (∃e',Lp AP.A [0,1,5] AP.f247L0 [(0,v),(1,w),(5,.int .i64 p.length)] h=some (.ret,e',h)∧look e' 4=.bool false∧q≠r)
 | [], r, p, p', hp, hp', hpp => by
   rw[UX]at hp;subst hp
   have hr:r=[]:=U2 (by rw[hp',uZ]at hab;omega)
   have ln:=ra.Ef.len
   rw[w9]at ln
   refine .inl ⟨[(0,v),(1,w),(5,.int .i64 a.length),(14,.bool false)],sY ?_,hr.symm⟩
   simp (disch:=omega)only[go_sem,vh,AP.f247L0,ln]
 | x :: q, [], p, p', hp, hp', hpp => by
   rw[hp,hp']at hab;simp at hab;omega
 | x :: q, y :: r, p, p', hp, hp', hpp => by
   have hlen:a.length=p.length+(q.length+1):=by rw[hp];simp
   have ln:=ra.Ef.len
   rw[w9]at ln
   obtain⟨ad,a1,_,a3⟩:=ra.BK
   obtain⟨bd,b1,_,b3⟩:=rb.BK
   have i1:=a1 p.length ⟨by omega,by omega⟩
   have i2:=a3 h (Ext.refl h) p.length x (by rw[hp];simp)
   have j1:=b1 p.length ⟨by omega,by omega⟩
   have j2:=b3 h (Ext.refl h) p.length y (by rw[hp',hpp];simp)
   have cmp:=Jv x y
   have ih:=GP hab hl h ra rb q r (p++[x]) (p'++[y]) (by rw[hp];simp) (by rw[hp'];simp) (by simp [hpp])
   have w1:(((p++[x]).length:Nat):Int)=(p.length:Int)+1:=by simp
   rw[w1]at ih
   by_cases c:x=y
   · rw[dt c]at cmp
     have step:aK (aQ AP.A) bz AP.f247L0 (ax [(0,v),(1,w),(5,.int .i64 p.length)] [0,1,5]) h=some (.normal,[(0,v),(1,w),(5,.int .i64 ((p.length:Int)+1))],h):=by
      clear ih ra rb a1 a3 b1 b3 hp hp'
      simp (disch:=omega)only[go_sem,vh,AP.f247L0,ln,i1,i2,j1,j2,cmp,Bool.not_true]
     rcases ih with ⟨e',r1,r2⟩|⟨e',r1,r2,r3⟩
     · exact .inl ⟨e',sZ step r1,by rw[c,r2]⟩
     · exact .inr ⟨e',sZ step r1,r2,fun q=>r3 (List.cons.inj q).2⟩
   · rw[df c]at cmp
     refine .inr ⟨[(4,.bool false)],tC ?_,rfl,fun q=>c (List.cons.inj q).1⟩
     clear ih ra rb a1 a3 b1 b3 hp hp'
     simp (disch:=omega)only[go_sem,vh,AP.f247L0,ln,i1,i2,j1,j2,cmp,Bool.not_false]
theorem GI (h:H) (v w:AV) (a b:List ByteArray) (ra:Rd h v (xX a)) (rb:Rd h w (xX b)) (hl:a.length<1125899906842624) (hb:b.length<1125899906842624):aQ AP.A 247 [v,w] h=some (.bool (decide (a=b)),h):=by
 have la:=ra.Ef.len
 rw[w9]at la
 have lb:=rb.Ef.len
 rw[w9]at lb
 have ra':Rd h.dX v (xX a):=ra.mono fun i c q=>q
 have rb':Rd h.dX w (xX b):=rb.mono fun i c q=>q
 by_cases c:a.length=b.length
 · rcases GP c hl h.dX ra' rb' a b [] [] rfl rfl rfl with ⟨e',r1,r2⟩|⟨e',r1,r2,r3⟩
   · have r1':Lp AP.A [0,1,5] AP.f247L0 [(0,v),(1,w),(5,.int .i64 0)] h.dX=some (.exit 0,e',h.dX):=r1
     rw[dt r2]
     refine tM (fn:=AP.f247) (h2:=h.dX) (e:=[(4,.bool true)]) rfl rfl rfl ?_ rfl rfl
     clear ra rb ra' rb' r1 r2
     simp (disch:=omega)only[go_sem,vh,AP.f247,la,lb,c,rR,r1']
   · have r1':Lp AP.A [0,1,5] AP.f247L0 [(0,v),(1,w),(5,.int .i64 0)] h.dX=some (.ret,e',h.dX):=r1
     rw[df r3]
     refine tM (fn:=AP.f247) (h2:=h.dX) (e:=e') (vs:=[.bool false]) rfl rfl rfl ?_ (by simp only[AP.f247,cL,mQ,r2];rfl) rfl
     clear ra rb ra' rb' r1 r3
     simp (disch:=omega)only[go_sem,vh,AP.f247,la,lb,c,rR,r1']
 · rw[df (fun q=>c (by rw[q]))]
   refine tM (fn:=AP.f247) (h2:=h.dX) (e:=[(4,.bool false)]) rfl rfl rfl ?_ rfl rfl
   clear ra rb ra' rb'
   simp (disch:=omega)only[go_sem,vh,AP.f247,la,lb]
def DG (a b:zj):Bool:=decide (a.kind=b.kind)&&(decide (a.src=b.src)&&(decide (a.dst=b.dst)&&(decide (a.root=b.root)&&(decide (a.wA=b.wA)&&(decide (a.wF=b.wF)&&(decide (a.vt=b.vt)&&(decide (a.names=b.names)&&decide (a.wj=b.wj))))))))
theorem HI {a b:zj}:DG a b=true↔a=b:=by
 cases a;cases b
 simp only[DG,uG,UY,zj.mk.injEq]
theorem F0 (a:zj):DG a a=true:=HI.2 rfl
theorem P1 (h : H) (x y : wc) (ox : zl h x) (oy : zl h y) : aQ AP.A 232 [.agg (u9 x), .agg (u9 y)] h = some (.bool (DG x.m y.m), h) := by
 obtain⟨h1,eh1⟩:∃g,g=h.dX.alloc (u9 x):=⟨_,rfl⟩
 obtain⟨h2,eh2⟩:∃g,g=h1.alloc (u9 y):=⟨_,rfl⟩
 have x2:Ext h h2:=fun i c q=>by rw[eh2,eh1];exact(((Ext.refl h.dX).alloc _).alloc _) i c q
 have n0:h.dX.next=h.next:=rfl
 have n1:h1.next=h.next+1:=by rw[eh1];simp
 have g1:h2.get h.next=some (u9 x):=by rw[eh2,vN (by omega),eh1];exact vk rfl
 have g2:h2.get (h.next+1)=some (u9 y):=by rw[eh2,vk (by omega)]
 have o1:=ox.mono x2
 have o2:=oy.mono x2
 have lx:(u9 x).length=9:=rfl
 have ly:(u9 y).length=9:=rfl
 have cx:=yo ox
 have cy:=yo oy
 have ex:x.fs.length=x.m.vt.length:=by rw[←ox.hf];simp
 have ee:x.es.length=x.m.wj.length:=by rw[←ox.he];simp
 have k1:=BH h2 _ _ _ _ o1.rd o2.rd (by have:=ox.zd;omega)
 have k2:=BH h2 _ _ _ _ o1.rb o2.rb (by have:=ox.zb;omega)
 have k3:=Kx h2 _ _ _ _ o1.rf o2.rf (by have:=ox.zf;omega)
 rw[ox.hf,oy.hf]at k3
 have k4:=GI h2 _ _ _ _ o1.rn o2.rn (by have:=ox.zn;omega) (by have:=oy.zn;omega)
 have k5:=Fk h2 _ _ _ _ (by have:=ox.ze;omega) o1.re o2.re o1.ve o2.ve
 rw[ox.he,oy.he]at k5
 refine tM (fn:=AP.f232) (h2:=h2) (e:=[(4,.bool (DG x.m y.m))]) rfl rfl rfl ?_ rfl rfl
 unfold DG
 have a0:(u9 x)[0]?=some (.int .i64 x.m.kind):=rfl
 have a1:(u9 x)[1]?=some (.int .i64 x.m.src):=rfl
 have a2:(u9 x)[2]?=some (.int .i64 x.m.dst):=rfl
 have a3:(u9 x)[3]?=some (.int .i64 x.m.root):=rfl
 have a4:(u9 x)[4]?=some x.vd:=rfl
 have a5:(u9 x)[5]?=some x.vb:=rfl
 have a6:(u9 x)[6]?=some x.vf:=rfl
 have a7:(u9 x)[7]?=some x.vn:=rfl
 have a8:(u9 x)[8]?=some x.ve:=rfl
 have b0:(u9 y)[0]?=some (.int .i64 y.m.kind):=rfl
 have b1:(u9 y)[1]?=some (.int .i64 y.m.src):=rfl
 have b2:(u9 y)[2]?=some (.int .i64 y.m.dst):=rfl
 have b3:(u9 y)[3]?=some (.int .i64 y.m.root):=rfl
 have b4:(u9 y)[4]?=some y.vd:=rfl
 have b5:(u9 y)[5]?=some y.vb:=rfl
 have b6:(u9 y)[6]?=some y.vf:=rfl
 have b7:(u9 y)[7]?=some y.vn:=rfl
 have b8:(u9 y)[8]?=some y.ve:=rfl
 clear ox oy o1 o2 x2 ex ee
 generalize decide (x.m.wA=y.m.wA)=B1 at *
 generalize decide (x.m.wF=y.m.wF)=B2 at *
 generalize decide (x.m.vt=y.m.vt)=B3 at *
 generalize decide (x.m.names=y.m.names)=B4 at *
 generalize decide (x.m.wj=y.m.wj)=B5 at *
 generalize u9 x=A at *
 generalize u9 y=B at *
 by_cases c0:x.m.kind=y.m.kind
 · by_cases c1 : x.m.src = y.m.src
   · by_cases c2:x.m.dst=y.m.dst
     · by_cases c3:x.m.root=y.m.root
       · cases B1 with
         |false=>simp (disch:=omega)only[go_sem,vh,AP.f232,lx,ly,cx,cy,n0,←eh1,n1,←eh2,g1,g2,a0,a1,a2,a3,a4,b0,b1,b2,b3,b4,k1]
         | true =>
           cases B2 with
           |false=>simp (disch:=omega)only[go_sem,vh,AP.f232,lx,ly,cx,cy,n0,←eh1,n1,←eh2,g1,g2,a0,a1,a2,a3,a4,a5,b0,b1,b2,b3,b4,b5,k1,k2]
           | true =>
             cases B3 with
             |false=>simp (disch:=omega)only[go_sem,vh,AP.f232,lx,ly,cx,cy,n0,←eh1,n1,←eh2,g1,g2,a0,a1,a2,a3,a4,a5,a6,b0,b1,b2,b3,b4,b5,b6,k1,k2,k3]
             | true =>
               cases B4<;>cases B5<;>simp (disch:=omega)only[go_sem,vh,AP.f232,lx,ly,cx,cy,n0,←eh1,n1,←eh2,g1,g2,a0,a1,a2,a3,a4,a5,a6,a7,a8,b0,b1,b2,b3,b4,b5,b6,b7,b8,k1,k2,k3,k4,k5]
       · simp (disch:=omega)only[go_sem,vh,AP.f232,lx,ly,cx,cy,n0,←eh1,n1,←eh2,g1,g2,a0,a1,a2,a3,b0,b1,b2,b3]
     · simp (disch:=omega)only[go_sem,vh,AP.f232,lx,ly,cx,cy,n0,←eh1,n1,←eh2,g1,g2,a0,a1,a2,b0,b1,b2]
   · simp (disch:=omega)only[go_sem,vh,AP.f232,lx,ly,cx,cy,n0,←eh1,n1,←eh2,g1,g2,a0,a1,b0,b1]
 · simp (disch:=omega)only[go_sem,vh,AP.f232,lx,ly,cx,cy,n0,←eh1,n1,←eh2,g1,g2,a0,b0]
theorem Hh:AP.f242.body=.seq (at_ 0 AP.f242.body) (.seq (at_ 1 AP.f242.body) (.seq (at_ 2 AP.f242.body) (.seq (at_ 3 AP.f242.body) (.seq (at_ 4 AP.f242.body) (.seq (at_ 5 AP.f242.body) (.seq (at_ 6 AP.f242.body) (.seq (at_ 7 AP.f242.body) (.seq (at_ 8 AP.f242.body) (.seq (at_ 9 AP.f242.body) (F3 10 AP.f242.body)))))))))):=rfl
def pA:vF:=(eA,Bi [1,0,0,0])
theorem Cz (g:H):∀x∈[pA],wS g x∧x.2.sc=true:=fun x hx=>by obtain rfl:=List.mem_singleton.1 hx;exact⟨wS.ar (e:=eA) rfl (by decide) (by decide),GV [1,0,0,0]⟩
theorem Sy {g:H} {n:Nat} (hg:g.get n=some (vq eA (Bi [1,0,0,0]))):wO 9 g (.aD n 0 1 9) [pA].length (vD [pA]):=PN hg rfl
theorem HF:[pA].map (·.1)=D7:=rfl
set_option maxHeartbeats 8000000 in
theorem Hi (h : H) : aQ AP.A 242 [] h = some (.bool true, h) := by
 obtain⟨E,hE⟩:∃E,E=vq eA (Bi [1,0,0,0]):=⟨_,rfl⟩
 have lE:E.length=9:=by rw[hE];rfl
 have cE:AV.aB E=true:=by rw[hE];exact yf (GV _)
 have fE:setFrom Z9 0 E=E:=by rw[hE];rfl
 have k0:∀g,aQ AP.A 246 [.str ⟨#[97]⟩,.int .i64 0,.int .i64 1,.str ⟨#[104,105]⟩] g=some (.agg E,g):=fun g=>by rw[hE];exact F1 g nA To 0 1 (by omega) (by decide)
 obtain⟨G,hG⟩:∃G,G=((h.dX.alloc E).alloc [.aO]).set (h.next+1) [.aD h.next 0 1 9]:=⟨_,rfl⟩
 have g1:G.get h.next=some E:=by rw[hG];simp (disch:=first|omega|(simp only[wq,UR,UT,uK,Nat.reduceAdd];first|done|omega|fail)|fail)only[wq,zO,UU,UR,UT,uK,Nat.reduceAdd]
 have g2:G.get (h.next+1)=some [.aD h.next 0 1 9]:=by rw[hG];simp (disch:=first|omega|(simp only[wq,UR,UT,uK,Nat.reduceAdd];first|done|omega|fail)|fail)only[wq,zO,UU,UR,UT,uK,Nat.reduceAdd]
 have gf:G.floor=h.next:=by rw[hG];simp
 have gn:G.next=h.next+1+1:=by rw[hG];simp
 have b0:aK (aQ AP.A) bz (.seq (at_ 0 AP.f242.body) (at_ 1 AP.f242.body)) (params 0 []) h.dX=some (.normal,[(1,.aC (h.next+1) 0)],G):=by
  have gg:=hG.symm
  clear hE
  simp (disch:=first|omega|(simp only[wq,UR,UT,uK,Nat.reduceAdd];first|done|omega|fail)|(simp (disch:=first|omega|(simp only[wq,UR,UT,uK,Nat.reduceAdd];first|done|omega|fail)|fail)only[wq,zO,UU,UR,UT,uK,Nat.reduceAdd];done)|fail)only[go_sem,vh,zT,AP.f242,wC,wx,k0,lE,cE,fE,gg]
 have sv:(AV.aD h.next 0 1 9).sc=true:=rfl
 have lz:([pA].length:Nat)<1125899906842624:=by show 1<_;omega
 have lz0:(([]:List vF).length:Nat)<1125899906842624:=by show 0<_;omega
 have rdA:∀{g:H},g.get h.next=some E→wO 9 g (.aD h.next 0 1 9) [pA].length (vD [pA]):=fun hg=>Sy (by rw[←hE];exact hg)
 have rd0:∀g:H,wO 9 g .aO ([]:List vF).length (vD []):=fun g=>⟨rfl,rfl,fun s q=>by cases q⟩
 have hv0:∀g:H,∀x∈([]:List vF),wS g x∧x.2.sc=true:=fun g x hx=>by cases hx
 have sO:=Ea D7 0 1
 have sO1:=Ea D7 1 1
 have z0:([.int .i64 0,.int .i64 0,.int .i64 0,.int .i64 0,.aO,.aO,.aO,.aO,.aO]:List AV)=u9 vB:=rfl
 have cz:AV.aB (u9 vB)=true:=rfl
 have lx:∀x,(u9 x).length=9:=fun x=>rfl
 have tX:∀x,List.take 9 (u9 x)=u9 x:=fun x=>rfl
 have k2:=Eb G _ [pA] sv lz (rdA g1) (Cz G) 0 1
 rw[HF,K2.1]at k2
 obtain⟨A2,G2,O2,a2,n2,ga2,st2,go2,e2,f2,lt2⟩:=E9 G (by omega) _ sO
 obtain⟨Y2,hY2⟩:∃Y,Y=u9 (wW (xV D7 0 1).1):=⟨_,rfl⟩
 rw[←hY2]at k2 st2 go2
 have cY2:AV.aB Y2=true:=by rw[hY2];exact yo (x8 G sO)
 have b2:aK (aQ AP.A) bz (at_ 2 AP.f242.body) [(1,.aC (h.next+1) 0)] G=some (.normal,[(1,.aC (h.next+1) 0),(2,.aC O2 0),(3,.int .i64 0)],G2):=by
  clear sO sO1 hE k0 rdA rd0 hv0 e2
  generalize u9 vB=Z at *
  simp (disch:=omega)only[go_sem,vh,AP.f242,wC,wx,g2,wM,k2,z0,cz,a2,n2,ga2,st2]
 have p1:=e2 _ _ g1
 have p2:=e2 _ _ g2
 obtain⟨y4,w4,A4,G4,O4,k4,m4,a4,n4,ga4,st4,go4,e4,ok4,f4,l4,l4'⟩:=zH G2 (by omega) .aO [] rfl lz0 (rd0 _) (hv0 _) (wW (xV D7 0 1).1) (x8 G2 sO)
 have m4':y4.m=Sx:=m4
 have k4':aQ AP.A 240 [.agg [.aO],.agg Y2] G2=some (.bO [.agg (u9 y4),.bool (wU [] PL).2.1,.int .i64 (wU [] PL).2.2],w4):=by rw[hY2];exact k4
 rw[I1.1]at k4'
 have q2:=e4 _ _ go2
 have q1:=e4 _ _ p1
 have q1':=e4 _ _ p2
 have lY2:Y2.length=9:=by rw[hY2];rfl
 have tY2:List.take 9 Y2=Y2:=by rw[hY2];rfl
 have b3:aK (aQ AP.A) bz (at_ 3 AP.f242.body) [(1,.aC (h.next+1) 0),(2,.aC O2 0),(3,.int .i64 0)] G2=some (.normal,[(1,.aC (h.next+1) 0),(2,.aC O2 0),(3,.int .i64 0),(4,.aC O4 0),(5,.bool true),(6,.int .i64 0)],G4):=by
  clear sO sO1 hE k0 rdA rd0 hv0 e2 e4 k4 ok4 m4 m4' lx tX hY2
  generalize u9 vB=Z at *
  generalize u9 y4=Y4 at *
  simp (disch:=omega)only[go_sem,vh,AP.f242,wC,wx,go2,GC,wH,lY2,tY2,U1,k4',z0,cz,a4,n4,ga4,st4]
 obtain⟨y7,w7,A7,G7,O7,k7,m7,a7,n7,ga7,st7,go7,e7,ok7,f7,l7,l7'⟩:=zH G4 (by omega) _ [pA] sv lz (rdA q1) (Cz _) y4 ok4
 rw[HF,m4',I5.1]at k7
 have m7':y7.m=Sz:=by rw[m7,m4'];rfl
 have r1:=e7 _ _ q1
 have r1':=e7 _ _ q1'
 have r2:=e7 _ _ q2
 have r4:=e7 _ _ go4
 have lY4:=lx y4
 have tY4:=tX y4
 have b4:aK (aQ AP.A) bz (at_ 4 AP.f242.body) [(1,.aC (h.next+1) 0),(2,.aC O2 0),(3,.int .i64 0),(4,.aC O4 0),(5,.bool true),(6,.int .i64 0)] G4=some (.normal,[(1,.aC (h.next+1) 0),(2,.aC O2 0),(3,.int .i64 0),(4,.aC O4 0),(5,.bool true),(6,.int .i64 0),(7,.aC O7 0),(8,.bool true),(9,.int .i64 0)],G7):=by
  clear sO sO1 hE k0 rdA rd0 hv0 e2 e4 e7 k4 ok4 ok7 m4 m4' m7 m7' lx tX hY2
  generalize u9 vB=Z at *
  generalize u9 y4=Y4 at *
  generalize u9 y7=Y7 at *
  simp (disch:=omega)only[go_sem,vh,AP.f242,wC,wx,q1',wM,go4,GC,wH,lY4,tY4,U1,k7,z0,cz,a7,n7,ga7,st7]
 obtain⟨y10,w10,A10,G10,O10,k10,m10,a10,n10,ga10,st10,go10,e10,ok10,f10,l10,l10'⟩:=zH G7 (by omega) .aO [] rfl lz0 (rd0 _) (hv0 _) y7 ok7
 have m10':y10.m=SO:=by rw[m10,m7'];rfl
 rw[m7',Vf,K3.1]at k10
 have s1:=e10 _ _ r1
 have s1':=e10 _ _ r1'
 have s2:=e10 _ _ r2
 have s4:=e10 _ _ r4
 have s7:=e10 _ _ go7
 have lY7:=lx y7
 have tY7:=tX y7
 have b5:aK (aQ AP.A) bz (at_ 5 AP.f242.body) [(1,.aC (h.next+1) 0),(2,.aC O2 0),(3,.int .i64 0),(4,.aC O4 0),(5,.bool true),(6,.int .i64 0),(7,.aC O7 0),(8,.bool true),(9,.int .i64 0)] G7=some (.normal,[(1,.aC (h.next+1) 0),(2,.aC O2 0),(3,.int .i64 0),(4,.aC O4 0),(5,.bool true),(6,.int .i64 0),(7,.aC O7 0),(8,.bool true),(9,.int .i64 0),(10,.aC O10 0),(11,.bool true),(12,.int .i64 0)],G10):=by
  clear sO sO1 hE k0 rdA rd0 hv0 e2 e4 e7 e10 k4 ok4 ok7 ok10 m4 m4' m7 m7' m10 m10' lx tX hY2
  generalize u9 vB=Z at *
  generalize u9 y7=Y7 at *
  generalize u9 y10=Y10 at *
  simp (disch:=omega)only[go_sem,vh,AP.f242,wC,wx,go7,GC,wH,lY7,tY7,U1,k10,z0,cz,a10,n10,ga10,st10]
 obtain⟨y13,w13,A13,G13,O13,k13,m13,a13,n13,ga13,st13,go13,e13,ok13,f13,l13,l13'⟩:=zH G10 (by omega) _ [pA] sv lz (rdA s1) (Cz _) y10 ok10
 rw[HF,m10',K4.1]at k13
 have m13':y13.m=Tf:=by rw[m13,m10'];rfl
 have t1:=e13 _ _ s1
 have t1':=e13 _ _ s1'
 have t2:=e13 _ _ s2
 have t4:=e13 _ _ s4
 have t7:=e13 _ _ s7
 have t10:=e13 _ _ go10
 have lY10:=lx y10
 have tY10:=tX y10
 have b6:aK (aQ AP.A) bz (at_ 6 AP.f242.body) [(1,.aC (h.next+1) 0),(2,.aC O2 0),(3,.int .i64 0),(4,.aC O4 0),(5,.bool true),(6,.int .i64 0),(7,.aC O7 0),(8,.bool true),(9,.int .i64 0),(10,.aC O10 0),(11,.bool true),(12,.int .i64 0)] G10=some (.normal,[(1,.aC (h.next+1) 0),(2,.aC O2 0),(3,.int .i64 0),(4,.aC O4 0),(5,.bool true),(6,.int .i64 0),(7,.aC O7 0),(8,.bool true),(9,.int .i64 0),(10,.aC O10 0),(11,.bool true),(12,.int .i64 0),(13,.aC O13 0),(14,.bool true),(15,.int .i64 0)],G13):=by
  clear sO sO1 hE k0 rdA rd0 hv0 e2 e4 e7 e10 e13 k4 ok4 ok7 ok10 ok13 m4 m4' m7 m7' m10 m10' m13 m13' lx tX hY2
  generalize u9 vB=Z at *
  generalize u9 y10=Y10 at *
  generalize u9 y13=Y13 at *
  simp (disch:=omega)only[go_sem,vh,AP.f242,wC,wx,s1',wM,go10,GC,wH,lY10,tY10,U1,k13,z0,cz,a13,n13,ga13,st13]
 obtain⟨y16,w16,A16,G16,O16,k16,m16,a16,n16,ga16,st16,go16,e16,ok16,f16,l16,l16'⟩:=zH G13 (by omega) _ [pA] sv lz (rdA t1) (Cz _) y13 ok13
 rw[HF,m13',Lm.1]at k16
 have u1:=e16 _ _ t1
 have u1':=e16 _ _ t1'
 have u2:=e16 _ _ t2
 have u4:=e16 _ _ t4
 have u7:=e16 _ _ t7
 have u10:=e16 _ _ t10
 have u13:=e16 _ _ go13
 have lY13:=lx y13
 have tY13:=tX y13
 have b7:aK (aQ AP.A) bz (at_ 7 AP.f242.body) [(1,.aC (h.next+1) 0),(2,.aC O2 0),(3,.int .i64 0),(4,.aC O4 0),(5,.bool true),(6,.int .i64 0),(7,.aC O7 0),(8,.bool true),(9,.int .i64 0),(10,.aC O10 0),(11,.bool true),(12,.int .i64 0),(13,.aC O13 0),(14,.bool true),(15,.int .i64 0)] G13=some (.normal,[(1,.aC (h.next+1) 0),(2,.aC O2 0),(3,.int .i64 0),(4,.aC O4 0),(5,.bool true),(6,.int .i64 0),(7,.aC O7 0),(8,.bool true),(9,.int .i64 0),(10,.aC O10 0),(11,.bool true),(12,.int .i64 0),(13,.aC O13 0),(14,.bool true),(15,.int .i64 0),(17,.bool false),(18,.int .i64 0)],G16):=by
  clear sO sO1 hE k0 rdA rd0 hv0 e2 e4 e7 e10 e13 e16 k4 ok4 ok7 ok10 ok13 ok16 m4 m4' m7 m7' m10 m10' m13 m13' m16 lx tX hY2
  generalize u9 vB=Z at *
  generalize u9 y13=Y13 at *
  generalize u9 y16=Y16 at *
  simp (disch:=omega)only[go_sem,vh,AP.f242,wC,wx,t1',wM,go13,GC,wH,lY13,tY13,U1,k16,z0,cz,a16,n16,ga16,st16]
 obtain⟨y19,w19,A19,G19,O19,k19,m19,a19,n19,ga19,st19,go19,e19,ok19,f19,l19,l19'⟩:=zH G16 (by omega) _ [pA] sv lz (rdA u1) (Cz _) (wW (xV D7 0 1).1) (x8 G16 sO)
 have k19':aQ AP.A 240 [.agg [.aD h.next 0 1 9],.agg Y2] G16=some (.bO [.agg (u9 y19),.bool (wU D7 PL).2.1,.int .i64 (wU D7 PL).2.2],w19):=by rw[hY2];exact k19
 rw[Lm.2]at k19'
 have x1:=e19 _ _ u1
 have x1':=e19 _ _ u1'
 have x4:=e19 _ _ u4
 have x7:=e19 _ _ u7
 have x10:=e19 _ _ u10
 have x13:=e19 _ _ u13
 have b8:aK (aQ AP.A) bz (at_ 8 AP.f242.body) [(1,.aC (h.next+1) 0),(2,.aC O2 0),(3,.int .i64 0),(4,.aC O4 0),(5,.bool true),(6,.int .i64 0),(7,.aC O7 0),(8,.bool true),(9,.int .i64 0),(10,.aC O10 0),(11,.bool true),(12,.int .i64 0),(13,.aC O13 0),(14,.bool true),(15,.int .i64 0),(17,.bool false),(18,.int .i64 0)] G16=some (.normal,[(1,.aC (h.next+1) 0),(3,.int .i64 0),(4,.aC O4 0),(5,.bool true),(6,.int .i64 0),(7,.aC O7 0),(8,.bool true),(9,.int .i64 0),(10,.aC O10 0),(11,.bool true),(12,.int .i64 0),(13,.aC O13 0),(14,.bool true),(15,.int .i64 0),(17,.bool false),(18,.int .i64 0),(20,.bool false),(21,.int .i64 0)],G19):=by
  clear sO sO1 hE k0 rdA rd0 hv0 e2 e4 e7 e10 e13 e16 e19 k4 ok4 ok7 ok10 ok13 ok16 ok19 m4 m4' m7 m7' m10 m10' m13 m13' m16 m19 lx tX hY2 k19
  generalize u9 vB=Z at *
  generalize u9 y19=Y19 at *
  simp (disch:=omega)only[go_sem,vh,AP.f242,wC,wx,u1',wM,u2,GC,wH,lY2,tY2,U1,k19',z0,cz,a19,n19,ga19,st19]
 have k22:=Eb G19 _ [pA] sv lz (rdA x1) (Cz G19) 1 1
 rw[HF,K2.2]at k22
 obtain⟨A22,G22,O22,a22,n22,ga22,st22,go22,e22,f22,lt22⟩:=E9 G19 (by omega) _ sO1
 have v1:=e22 _ _ x1
 have v1':=e22 _ _ x1'
 have v4:=e22 _ _ x4
 have v7:=e22 _ _ x7
 have v10:=e22 _ _ x10
 have v13:=e22 _ _ x13
 have b9:aK (aQ AP.A) bz (at_ 9 AP.f242.body) [(1,.aC (h.next+1) 0),(3,.int .i64 0),(4,.aC O4 0),(5,.bool true),(6,.int .i64 0),(7,.aC O7 0),(8,.bool true),(9,.int .i64 0),(10,.aC O10 0),(11,.bool true),(12,.int .i64 0),(13,.aC O13 0),(14,.bool true),(15,.int .i64 0),(17,.bool false),(18,.int .i64 0),(20,.bool false),(21,.int .i64 0)] G19=some (.normal,[(1,.aC (h.next+1) 0),(3,.int .i64 0),(4,.aC O4 0),(5,.bool true),(6,.int .i64 0),(7,.aC O7 0),(8,.bool true),(9,.int .i64 0),(10,.aC O10 0),(11,.bool true),(12,.int .i64 0),(13,.aC O13 0),(14,.bool true),(15,.int .i64 0),(17,.bool false),(18,.int .i64 0),(20,.bool false),(21,.int .i64 0),(23,.int .i64 2200)],G22):=by
  clear sO sO1 hE k0 rdA rd0 hv0 e2 e4 e7 e10 e13 e16 e19 e22 k4 ok4 ok7 ok10 ok13 ok16 ok19 m4 m4' m7 m7' m10 m10' m13 m13' m16 m19 lx tX hY2 k19
  generalize u9 vB=Z at *
  generalize u9 (wW (xV D7 1 1).1)=Y22 at *
  simp (disch:=omega)only[go_sem,vh,AP.f242,wC,wx,x1',wM,k22,z0,cz,a22,n22,ga22,st22]
 have E7:Ext G7 G22:=fun i c q=>e22 _ _ (e19 _ _ (e16 _ _ (e13 _ _ (e10 _ _ q))))
 have E10:Ext G10 G22:=fun i c q=>e22 _ _ (e19 _ _ (e16 _ _ (e13 _ _ q)))
 have E13:Ext G13 G22:=fun i c q=>e22 _ _ (e19 _ _ (e16 _ _ q))
 have ok7':=ok7.mono E7
 have ok10':=ok10.mono E10
 have ok13':=ok13.mono E13
 obtain⟨W,hW⟩:∃g,g=G22.alloc [.str ⟨#[97]⟩]:=⟨_,rfl⟩
 have hw:=hW.symm
 have gW:W.get G22.next=some [.str ⟨#[97]⟩]:=by rw[hW];exact vk rfl
 have xW:Ext G22 W:=by rw[hW];exact(Ext.refl G22).alloc _
 have w1:=xW _ _ v1
 have w1':=xW _ _ v1'
 have w13:=xW _ _ v13
 have kn:aQ AP.A 247 [y10.vn,.aD G22.next 0 1 1] W=some (.bool true,W):=by
  have:=GI W y10.vn (.aD G22.next 0 1 1) y10.m.names [nA] (ok10'.rn.mono fun i c q=>xW i c q) ⟨by simp only[aR,if_true,gW];rfl,fun _=>by simp⟩ (by have:=ok10.zn;omega) (by show 1<_;omega)
  rw[m10',dt K3.2]at this;exact this
 have ke:aQ AP.A 207 [y13.ve,.aD h.next 0 1 9] W=some (.bool true,W):=by
  have:=Fk W y13.ve (.aD h.next 0 1 9) y13.es [pA] (by have:=ok13.ze;rw[←ok13.he,UW]at this;omega) (ok13'.re.mono fun i c q=>xW i c q) (rdA w1) (fun x hx=>(ok13'.mono xW).ve x hx) (Cz W)
  rw[ok13'.he,m13',HF,dt K4.2]at this;exact this
 have c40:(u9 y4)[0]?=some (.int .i64 1):=by show some (AV.int .i64 y4.m.kind)=_;rw[m4',I1.2.1]
 have c41:(u9 y4)[1]?=some (.int .i64 1):=by show some (AV.int .i64 y4.m.src)=_;rw[m4',I1.2.2]
 have c70:(u9 y7)[0]?=some (.int .i64 2):=by show some (AV.int .i64 y7.m.kind)=_;rw[m7',I5.2.1]
 have c76:(u9 y7)[6]?=some y7.vf:=rfl
 have l76:jc false y7.vf=some (.int .i64 1):=by
  have:=ok7.rf.rd.len
  rw[show y7.fs.length=1 by have:=Vi List.length ok7.hf;rw[UW,m7',I5.2.2]at this;exact this]at this
  exact this
 have c107:(u9 y10)[7]?=some y10.vn:=rfl
 have c138:(u9 y13)[8]?=some y13.ve:=rfl
 have kc:=fun (g:H) n=>IV g n
 simp only[I]at kc
 have bF:∃hF,aK (aQ AP.A) bz (F3 10 AP.f242.body) [(1,.aC (h.next+1) 0),(3,.int .i64 0),(4,.aC O4 0),(5,.bool true),(6,.int .i64 0),(7,.aC O7 0),(8,.bool true),(9,.int .i64 0),(10,.aC O10 0),(11,.bool true),(12,.int .i64 0),(13,.aC O13 0),(14,.bool true),(15,.int .i64 0),(17,.bool false),(18,.int .i64 0),(20,.bool false),(21,.int .i64 0),(23,.int .i64 2200)] G22=some (.ret,[(0,.bool true)],hF):=by
  clear sO sO1 hE k0 rdA rd0 hv0 e2 e4 e7 e10 e13 e16 e19 e22 k4 ok4 ok7 ok10 ok13 ok16 ok19 m4 m4' m7 m7' m10 m10' m13 m13' m16 m19 lx tX hY2 k19 E7 E10 E13 ok7' ok10' ok13' xW hW b0 b2 b3 b4 b5 b6 b7 b8 b9
  generalize u9 vB=Z at *
  generalize u9 y4=Y4 at *
  generalize u9 y7=Y7 at *
  generalize u9 y10=Y10 at *
  generalize u9 y13=Y13 at *
  refine⟨?_, ?_⟩
  rotate_left
  simp (disch:=omega)only[go_sem,vh,AP.f242,CR,CS,v1',v4,v7,v10,v13,c40,c41,c70,c76,l76,c107,c138,kc,hw,gW,kn,ke,w1',w13]
  rfl
 obtain⟨hF,bF⟩:=bF
 rw[rF]at b0
 have hh:aK (aQ AP.A) bz AP.f242.body (params 0 []) h.dX=some (.ret,[(0,.bool true)],hF):=by
  rw[Hh,rF]
  cases hq:aK (aQ AP.A) bz (at_ 0 AP.f242.body) (params 0 []) h.dX with
  |none=>rw[hq]at b0;cases b0
  | some r =>
    obtain⟨ex,ev,hr⟩:=r
    cases ex with
    | normal =>
      rw[hq,su]at b0
      rw[su,rF,b0,su,rF,b2,su,rF,b3,su,rF,b4,su,rF,b5,su,rF,b6,su,rF,b7,su,rF,b8,su,rF,b9,su]
      exact bF
    |exit i=>rw[hq]at b0;cases b0
    |ret=>rw[hq]at b0;cases b0
 exact tM (fn:=AP.f242) (h2:=hF) (e:=[(0,.bool true)]) rfl rfl rfl hh rfl rfl
structure UJ (m:zj):Prop where
 zd:m.wA.length<20000000000000
 zb:m.wF.length<20000000000000
 zn:m.names.length<9000000000000
 zf:m.vt.length<3600000000000
 ze:m.wj.length<1353300000000
 wf:∀b∈m.vt,b.2.length<20000000000000
 we:∀e∈m.wj,e.vec.length<20000000000000
structure SU (h:H) (ov:AV) (x:xO):Prop where
 vec:Rd h x.2 (ints x.1.2)
 sc:x.2.sc=true
 id:∀j,x.2.id?=some j→j<h.next∧ov.id?≠some j
theorem SU.mono {h g:H} {ov ov':AV} {x:xO} (b:SU h ov x) (hn:h.next≤g.next) (hg:∀j,x.2.id?=some j→j<h.next→ov.id?≠some j→g.get j=h.get j) (ho:∀j,j<h.next→ov.id?≠some j→ov'.id?≠some j):SU g ov' x:=
 ⟨b.vec.Ct fun i q=>hg i q (b.id i q).1 (b.id i q).2,b.sc,fun j q=>⟨by have:=(b.id j q).1;omega,ho j (b.id j q).1 (b.id j q).2⟩⟩
theorem wO.AA {n:Nat} {h g:H} {v:AV} {k:Nat} {cs:List AV} (r:wO n h v k cs) (hg:∀i c,v.id?=some i→h.get i=some c→g.get i=some c):wO n g v k cs:=by
 obtain⟨r,hl,hs⟩:=r
 refine⟨?_,hl,hs⟩
 unfold aR at r ⊢
 split at r
 · exact r
 · exact r
 · rename_i id off len s
   split at r
   · rename_i q
     cases hq:h.get id with
     |none=>rw[hq]at r;cases r
     |some c=>rw[if_pos q,hg id c rfl hq];rw[hq]at r;exact r
   · cases r
 · exact r
 · cases r
theorem Rd.AA {h g:H} {v:AV} {cs:List AV} (r:Rd h v cs) (hg:∀i c,v.id?=some i→h.get i=some c→g.get i=some c):Rd g v cs:=by
 have:=r.Ef.AA hg
 exact⟨this.1,this.2.2⟩
def SM (R:Nat) (g h:H):Prop:=∀i c,R<i→g.get i=some c→h.get i=some c
theorem SM.trans {R:Nat} {a b c:H} (x:SM R a b) (y:SM R b c):SM R a c:=fun i d h q=>y i d h (x i d h q)
theorem JK (G:H) (hf:G.floor≤G.next) (y:wc) (oy:zl G y):∃(A G':H) (O:Nat),G.alloc (u9 vB)=A∧G.next=O∧A.get O=some (u9 vB)∧tO A O 0 9 (u9 y) (some (u9 vB))=some G'∧G'.get O=some (u9 y)∧Ext G G'∧G'.floor=G.floor∧O<G'.next:=by
 have ga:(G.alloc (u9 vB)).get G.next=some (u9 vB):=vk rfl
 have e1:Ext G ((G.alloc (u9 vB)).set G.next (u9 y)):=fun i c q=>by have:=G.lt _ _ q;rw[vp (by omega),vN (by omega)];exact q
 exact⟨_,(G.alloc (u9 vB)).set G.next (u9 y),G.next,rfl,rfl,ga,wE (by simp;omega) rfl rfl (yo oy),by rw[vA rfl,ga];rfl,e1,by simp,by simp⟩
theorem IH (a:List UInt8):Op.bytesLess a a=false:=by
 have:=z4 a a
 rw[beq_self_eq_true a,Bool.or_true]at this;exact this
theorem Dy:∀{L:List vQ} {x:vQ},xi (some x) L=true→∀e∈L,Op.bytesLess x.name.toList e.name.toList=true
 |[],_,_,e,h=>by cases h
 | y :: r, x, h, e, he => by
   rw[xi,uG,DY]at h
   simp only[uG]at h
   rcases uW.1 he with rfl|he
   · exact h.1.2.1
   · exact Co h.1.2.1 (Dy h.2 e he)
theorem CB:∀{a b:List vQ} {e:vQ} {p:Option vQ},xi p (a++e::b)=true→vO e.name (a++e::b)=(a.length,true)
 | [], b, e, p, h => by
   show vO e.name (e::b)=_
   rw[vO,IH,if_neg (by decide),beq_self_eq_true];rfl
 | x :: a, b, e, p, h => by
   have h2:xi (some x) (a++e::b)=true:=by
    have:xi p (x::(a++e::b))=true:=h
    rw[xi,uG]at this;exact this.2
   have lt:=Dy h2 e (by simp)
   show vO e.name (x::(a++e::b))=_
   rw[vO,if_pos lt,CB h2];rfl
theorem Ck:∀a:List Int,zR a a=a
 |[]=>rfl
 | x :: a => by
   show wT x x::zR a a=_
   rw[Ck a];unfold wT;simp
theorem FX {L:List vQ} (h:vY L=true) {e:vQ} (he:e∈L):zg L (e.name,e.vec)=true:=by
 have hm:=wL h
 unfold wR at hm
 rw[uG]at hm
 obtain⟨a,b,rfl⟩:=List.append_of_mem he
 unfold zg
 rw[CB hm.1]
 simp [Ck]
theorem z6:∀{L:List vQ} {p:Option vQ},xi p L=true→wD (p.map (·.name)) (L.map (·.name))=true
 |[],none,_=>rfl
 |[],some _,_=>rfl
 | e :: r, none, h => by
   rw[xi,uG]at h
   have i:=z6 h.2
   have q:=h.1
   rw[Aq,uG]at q
   show((wo e.name&&true)&&wD (some e.name) (r.map (·.name)))=true
   have i':wD (some e.name) (r.map (·.name))=true:=i
   rw[i',q.1];rfl
 | e :: r, some x, h => by
   rw[xi,uG]at h
   have i:=z6 h.2
   have q:=h.1
   rw[DY,uG,uG]at q
   show((wo e.name&&Op.bytesLess x.name.toList e.name.toList)&&wD (some e.name) (r.map (·.name)))=true
   have i':wD (some e.name) (r.map (·.name))=true:=i
   rw[i',q.1,q.2.1];rfl
def x9:List Int:=[0,1,2,3,4,5,6,7]
theorem HX:∀n:Nat,n<8→x9.contains ((n:Nat):Int)=true:=by decide
theorem yK (L:List vQ):vL L x9=L.map fun e=>(e.name,e.vec):=by
 unfold vL
 rw[List.filter_eq_self.2]
 intro e _
 exact HX _ (by unfold Bl;omega)
theorem AM:∀(ds:List Int) (i:Nat),v9 i ds ds=[]
 |[],_=>rfl
 |d::ds,i=>by rw[v9,if_pos rfl];exact AM ds (i+1)
theorem HN {L:List vQ} (h:vY L=true):xD L (vL L x9)=[]:=by
 rw[yK]
 have:((L.map fun e=>(e.name,e.vec)).filter fun b=> !zg L b)=[]:=List.filter_eq_nil_iff.2 fun b hb=>by
  obtain⟨e,he,rfl⟩:=U8.1 hb
  rw[FX h he];decide
 unfold xD
 rw[this];rfl
def FZ (L:List vQ) (a b:Int):zj:=⟨0,a,b,vX (vK L),[],[],[],[],[]⟩
def Qg (L:List vQ) (a b:Int):zj:=⟨1,a,b,0,vK L,[],[],[],[]⟩
def Qh (L:List vQ) (a b:Int):zj:=⟨2,a,b,0,[],x9,vL L x9,[],[]⟩
def SN (L:List vQ) (a b:Int):zj:=⟨4,a,b,0,[],[],[],[],L⟩
theorem BG {m:zj} (ha:vW m.src=true) (hb:vW m.dst=true) (ne:m.src≠m.dst) (k:xS m=true) (l:yB m=true):AB m=true:=by
 unfold AB;rw[ha,hb,df ne,k,l];rfl
theorem AE {L:List vQ} {m:zj} (h:vY L=true) (k:AB m=true) (a:yD L m=none):wU L m=(yd,false,0):=by
 unfold wU;rw[if_pos ⟨h,k⟩,a];rfl
variable {L:List vQ} {a b:Int}
theorem I6 (h:vY L=true) (ha:vW a=true) (hb:vW b=true) (ne:a≠b):wU L (FZ L a b)=(yd,false,0):=
 AE h (BG ha hb ne (E6 _) rfl) (by unfold yD;rw[show(FZ L a b).kind=0 from rfl,if_pos rfl,if_pos];rfl)
theorem I7 (h:vY L=true) (ha:vW a=true) (hb:vW b=true) (ne:a≠b):wU L (Qg L a b)=(yd,false,0):=
 AE h (BG ha hb ne (by unfold xS;rw[show(Qg L a b).kind=1 from rfl,if_neg (by decide:¬(1:Int)=0),if_pos rfl];show(decide ((vK L).length=8)&&(vK L).all y9)=true;rw[dt (vI L),Ca];rfl) rfl)
  (by unfold yD;rw[show(Qg L a b).kind=1 from rfl,if_neg (by decide:¬(1:Int)=0),if_pos rfl,if_pos];exact AM _ 0)
theorem I8 (h:vY L=true) (ha:vW a=true) (hb:vW b=true) (ne:a≠b):wU L (Qh L a b)=(yd,false,0):=by
 have hm:=wL h
 unfold wR at hm
 rw[uG,UY]at hm
 refine AE h (BG ha hb ne ?_ rfl) ?_
 · unfold xS
   rw[show(Qh L a b).kind=2 from rfl,if_neg (by decide:¬(2:Int)=0),if_neg (by decide:¬(2:Int)=1),if_pos rfl]
   show(decide (1≤x9.length)&&(yz x9&&(wD none ((vL L x9).map (·.1))&&(decide ((vL L x9).length≤6)&&(vL L x9).all fun b=>xo b.2))))=true
   have e1:(vL L x9).map (·.1)=L.map (·.name):=by rw[yK,List.map_map];rfl
   have e2:(vL L x9).length≤6:=by rw[yK,UW];exact hm.2
   have e3:((vL L x9).all fun b=>xo b.2)=true:=by
    rw[yK,List.all_map,Vd]
    intro e he
    have:=(Az hm.1 e he).2.1
    unfold wg at this
    rw[uG]at this
    exact this.1
   have e4:wD none (L.map (·.name))=true:=z6 (p:=none) hm.1
   rw[e1,e4,dt e2,e3];decide
 · unfold yD
   rw[show(Qh L a b).kind=2 from rfl,if_neg (by decide:¬(2:Int)=0),if_neg (by decide:¬(2:Int)=1),if_pos rfl,if_pos]
   exact HN h
theorem PQ (h:vY L=true) (ha:vW a=true) (hb:vW b=true) (ne:a≠b) (h0:0<L.length):wU L (SN L a b)=(yd,false,0):=by
 refine AE h (BG ha hb ne ?_ rfl) ?_
 · unfold xS
   rw[show(SN L a b).kind=4 from rfl,if_neg (by decide:¬(4:Int)=0),if_neg (by decide:¬(4:Int)=1),if_neg (by decide:¬(4:Int)=2),if_neg (by decide:¬(4:Int)=3),if_pos rfl]
   show(decide (1≤L.length)&&vY L)=true
   rw[h,dt (by omega)];rfl
 · unfold yD
   rw[show(SN L a b).kind=4 from rfl,if_neg (by decide:¬(4:Int)=0),if_neg (by decide:¬(4:Int)=1),if_neg (by decide:¬(4:Int)=2),if_neg (by decide:¬(4:Int)=3)]
theorem wO.none {n:Nat} {h:H} {k:Nat} {cs:List AV} (r:wO n h .aO k cs):k=0:=by
 have:=r.1
 unfold aR at this
 simp at this
 omega
theorem zl.Su {B:Nat} {h g:H} {y:wc} (w:WM B h y) (o:zl h y) (e:∀i c,B≤i→h.get i=some c→g.get i=some c):zl g y:=by
 have nil:∀{v:AV},v=.aO→∀i,v.id?=some i→B≤i:=fun hv i q=>by rw[hv]at q;cases q
 have wi:∀{v l},WI B h v l→∀i,v.id?=some i→B≤i:=fun {v l} q i qi=>by
  rcases q with rfl|⟨j,rfl,_,_,q3,_⟩
  · cases qi
  · obtain rfl:=uv qi;exact q3
 have ws:∀{v l},WS B h v l→∀i,v.id?=some i→B≤i:=fun {v l} q i qi=>by
  rcases q with rfl|⟨j,rfl,_,_,q3,_⟩
  · cases qi
  · obtain rfl:=uv qi;exact q3
 have nf:y.vf=.aO→y.fs=[]:=fun q=>by
  have:=o.rf.rd;rw[q]at this
  exact U2 this.none
 have ne:y.ve=.aO→y.es=[]:=fun q=>by
  have:=o.re;rw[q]at this
  exact U2 this.none
 have fin:(∀i,y.vd.id?=some i→B≤i)→(∀i,y.vb.id?=some i→B≤i)→(∀i,y.vf.id?=some i→B≤i)→(∀i,y.vn.id?=some i→B≤i)→(∀i,y.ve.id?=some i→B≤i)→(∀x∈y.fs,∀i,x.2.id?=some i→B≤i)→(∀x∈y.es,∀i,x.2.id?=some i→B≤i)→zl g y:=fun a1 a2 a3 a4 a5 a6 a7=>
  ⟨o.rd.AA fun i c q=>e i c (a1 i q),o.rb.AA fun i c q=>e i c (a2 i q),⟨o.rf.rd.AA fun i c q=>e i c (a3 i q),fun x hx=>⟨(o.rf.vec x hx).1.AA fun i c q=>e i c (a6 x hx i q),(o.rf.vec x hx).2⟩⟩,o.hf,o.rn.AA fun i c q=>e i c (a4 i q),o.re.AA fun i c q=>e i c (a5 i q),o.he,
   fun x hx=>⟨⟨(o.ve x hx).1.vec.AA fun i c q=>e i c (a7 x hx i q),(o.ve x hx).1.vl,(o.ve x hx).1.nl,(o.ve x hx).1.pl⟩,(o.ve x hx).2⟩,o.vf,o.sc,o.zd,o.zb,o.zf,o.zn,o.ze,o.zs⟩
 rcases w with ⟨hd,e1,e2,e3,e4⟩|⟨hb,hF,hn,ap,e1,e3,e4⟩|⟨hn,e1,e2,e3,e4⟩|⟨he,hn,e1,e2,e3,e4⟩
 · exact fin (wi hd) (nil e1) (nil e2) (nil e3) (nil e4) (fun x hx=>by rw[nf e2]at hx;cases hx) (fun x hx=>by rw[ne e4]at hx;cases hx)
 · refine fin (nil e1) (wi hb) hF.ge (nil e3) (nil e4) (fun x hx i q=> ?_) (fun x hx=>by rw[ne e4]at hx;cases hx)
   obtain⟨_,_,j,a1,a2,a3,_⟩:=hF.el x hx
   rw[a1]at q
   obtain rfl:=uv q
   exact a3
 · exact fin (nil e1) (nil e2) (nil e3) (ws hn) (nil e4) (fun x hx=>by rw[nf e3]at hx;cases hx) (fun x hx=>by rw[ne e4]at hx;cases hx)
 · refine fin (nil e1) (nil e2) (nil e3) (nil e4) he.ge (fun x hx=>by rw[nf e3]at hx;cases hx) (fun x hx i q=> ?_)
   obtain⟨_,_,j,a1,a2,a3,_⟩:=he.el x hx
   rw[a1]at q
   obtain rfl:=uv q
   exact a3
theorem Hf (G:H) (hf:G.floor≤G.next) (v:AV) (l:List vF) (sv:v.sc=true) (hn:l.length<1125899906842624) (rd:wO 9 G v l.length (vD l)) (hv:∀x∈l,wS G x∧x.2.sc=true) (x:wc) (ox:zl G x):
 ∃(y:wc) (h' A G':H) (O:Nat),G.alloc (u9 vB)=A∧G.next=O∧aQ AP.A 240 [.agg [v],.agg (u9 x)] A=some (.bO [.agg (u9 y),.bool (wU (l.map (·.1)) x.m).2.1,.int .i64 (wU (l.map (·.1)) x.m).2.2],h')∧y.m=(wU (l.map (·.1)) x.m).1∧A.get O=some (u9 vB)∧h'.get O=some (u9 vB)∧tO h' O 0 9 (u9 y) (some (u9 vB))=some G'∧G'.get O=some (u9 y)∧Ext G A∧Ext G G'∧zl G' y∧G'.floor=G.floor∧O<G'.next:=by
 obtain⟨A,hA⟩:∃A,A=G.alloc (u9 vB):=⟨_,rfl⟩
 have xA:Ext G A:=by rw[hA];exact(Ext.refl G).alloc _
 have nA:A.next=G.next+1:=by rw[hA];simp
 have fA:A.floor=G.floor:=by rw[hA];simp
 have gA:A.get G.next=some (u9 vB):=by rw[hA];exact vk rfl
 obtain⟨y,h',k,em,a⟩:=KJ A (by omega) v l sv hn (rd.mono fun i c q=>xA i c q) (fun z hz=>⟨(hv z hz).1.mono xA,(hv z hz).2⟩) x (ox.mono xA)
 have gH:=a.ext _ _ gA
 have nx:=a.nx
 have e1:Ext G (h'.set G.next (u9 y)):=fun i c q=>by have:=G.lt _ _ q;rw[vp (by omega)];exact a.ext _ _ (xA _ _ q)
 refine⟨y,h',A,h'.set G.next (u9 y),G.next,hA.symm,rfl,k,em,gA,gH,wE (by have:=a.fl;omega) rfl rfl (yo a.ok),by rw[vA rfl,gH];rfl,xA,e1, ?_,by simp [a.fl,fA],by simp;omega⟩
 exact zl.Su a.wm a.ok fun i c hi q=>by rw[vp (by omega)];exact q
def yQ (l:List wc):List AV:=l.flatMap u9
theorem A6 (l:List wc):(yQ l).length=l.length* 9:=by
 induction l with
 |nil=>rfl
 |cons x l ih=>show(u9 x++yQ l).length=_;rw[uZ,ih,Cu,UR];omega
theorem IP (p q:List wc) (x:wc):((yQ (p++x::q)).drop (p.length* 9)).take 9=u9 x:=by
 have:yQ (p++x::q)=yQ p++(u9 x++yQ q):=by simp [yQ]
 rw[this,List.drop_append_of_le_length (by rw[A6];omega),List.drop_of_length_le (by rw[A6];omega),List.nil_append,List.take_append_of_le_length (by rw[Cu];omega),uU (by rw[Cu];omega)]
set_option maxHeartbeats 4000000 in
theorem GB {G:H} {b:Nat} {v w:AV} {l:List vF} {ms:List wc} {r7 r8 r9 r10:AV} (sv:v.sc=true) (hn:l.length<1125899906842624) (hm:ms.length<1000) (gP:G.get b=some [v]) (rd:wO 9 G v l.length (vD l)) (hv:∀x∈l,wS G x∧x.2.sc=true) (rw_:wO 9 G w ms.length (yQ ms)) (om:∀x∈ms,zl G x∧wU (l.map (·.1)) x.m=(yd,false,0)):
 ∀(q p:List wc),ms=p++q→∀g,Ext G g→g.floor=G.floor→G.floor≤G.next→g.floor≤g.next→
 ∃e' g',Lp AP.A [3,7,8,9,10,15,16] AP.f225L0 [(3,.aC b 0),(7,r7),(8,r8),(9,r9),(10,r10),(15,w),(16,.int .i64 p.length)] g=some (.exit 0,e',g')∧Ext G g'∧look e' 7=r7∧look e' 8=r8∧look e' 9=r9∧look e' 10=r10
 | [], p, hp, g, xg, fg, _, _ => by
   rw[UX]at hp;subst hp
   have ln:=rw_.len
   refine⟨[(3,.aC b 0),(7,r7),(8,r8),(9,r9),(10,r10),(15,w),(16,.int .i64 ms.length),(79,.bool false)],g,sY ?_,xg,rfl,rfl,rfl,rfl⟩
   simp (disch:=omega)only[go_sem,vh,AP.f225L0,ln]
 | x :: q, p, hp, g, xg, fg, fG, fn => by
   have hxm:x∈ms:=by rw[hp];simp
   have lt:p.length<ms.length:=by rw[hp];simp
   obtain⟨ox,ex⟩:=om x hxm
   obtain⟨y,h',A,G',O,a1,n1,k,em,gA,gH,st,gO,xA,xG,oy,f',lt'⟩:=Hf g fn v l sv hn (rd.mono fun i c q=>xg i c q) (fun z hz=>⟨(hv z hz).1.mono xg,(hv z hz).2⟩) x (ox.mono xg)
   rw[ex]at k em
   obtain⟨ad,d1,d2,d4,d3⟩:=rw_.at_
   have hi:(0:Int)≤(p.length:Int)∧(p.length:Int)<ms.length:=⟨by omega,by omega⟩
   have e1:=d1 p.length hi
   have e2:=(d3 A fun i c q=>xA _ _ (xg _ _ q)).2 p.length hi
   rw[xc]at e2
   have e3:List.take 9 (List.drop (p.length* 9) (yQ ms))=u9 x:=by rw[hp];exact IP p q x
   rw[e3]at e2
   have ks:=P1 G' y vB oy (Ep G')
   rw[em,Qc,F0]at ks
   have kn:=fun (g:H) n=>IV g n
   simp only[I]at kn
   have pA:=xA _ _ (xg _ _ gP)
   obtain⟨e',g',r1,r2,r3⟩:=GB (r7:=r7) (r8:=r8) (r9:=r9) (r10:=r10) sv hn hm gP rd hv rw_ om q (p++[x]) (by rw[hp];simp) G' (fun i c q=>xG _ _ (xg _ _ q)) (by omega) fG (by omega)
   have w1:((p++[x]).length:Int)=(p.length:Int)+1:=by simp
   rw[w1]at r1
   refine⟨e',g',sZ ?_ r1,r2,r3⟩
   have ln:=rw_.len
   have lti:(p.length:Int)<(ms.length:Int):=hi.2
   have wa:IntKind.wrap .i64 ((p.length:Int)+1)=(p.length:Int)+1:=wi (by omega)
   have z0:([.int .i64 0,.int .i64 0,.int .i64 0,.int .i64 0,.aO,.aO,.aO,.aO,.aO]:List AV)=u9 vB:=rfl
   have cz:AV.aB (u9 vB)=true:=rfl
   have fz:dY (u9 vB) []=some (u9 vB):=rfl
   have ly:(u9 y).length=9:=rfl
   have ty:List.take 9 (u9 y)=u9 y:=rfl
   clear r1 r2 r3 rd hv rw_ om oy xA xG d1 d2 d4 d3 e3 ex em ox hp hxm
   generalize u9 vB=Z at *
   generalize u9 y=Y at *
   generalize u9 x=X at *
   simp (disch:=omega)only[go_sem,vh,AP.f225L0,ln,dt lti,z0,cz,yJ,BQ,a1,n1,pA,wM,e1,e2,k,gA,gH,st,kn,gO,GC,wH,ly,ty,U1,fz,ks,wa]
theorem GA:AP.f225.body=.seq (at_ 0 AP.f225.body) (.seq (at_ 1 AP.f225.body) (.seq (at_ 2 AP.f225.body) (.seq (at_ 3 AP.f225.body) (.seq (at_ 4 AP.f225.body) (.seq (at_ 5 AP.f225.body) (.seq (at_ 6 AP.f225.body) (.seq (at_ 7 AP.f225.body) (.seq (at_ 8 AP.f225.body) (.seq (at_ 9 AP.f225.body) (.seq (at_ 10 AP.f225.body) (F3 11 AP.f225.body))))))))))):=rfl
set_option maxHeartbeats 8000000 in
theorem I3 (h : H) (v : AV) (l : List vF) (sv : v.sc = true) (hn : l.length < 1125899906842624) (rd : wO 9 h v l.length (vD l)) (hv : ∀ x ∈ l, wS h x ∧ x.2.sc = true) (xa xb : Int) :
 aQ AP.A 225 [.agg [v],.int .i64 xa,.int .i64 xb] h=some (.bool true,h):=by
 obtain⟨h1,eh1⟩:∃g,g=h.dX.alloc [v]:=⟨_,rfl⟩
 have n0:h.dX.next=h.next:=rfl
 have n1:h1.next=h.next+1:=by rw[eh1];simp
 have f1:h1.floor=h.next:=by rw[eh1];simp
 have x1:Ext h h1:=fun i c q=>by rw[eh1];exact((Ext.refl h.dX).alloc _) i c q
 have gP:h1.get h.next=some [v]:=by rw[eh1];exact vk rfl
 have k0:∀g,aQ AP.A 242 [] g=some (.bool true,g):=Hi
 have rd1:=rd.mono fun i c q=>x1 i c q
 have hv1:∀z∈l,wS h1 z∧z.2.sc=true:=fun z hz=>⟨(hv z hz).1.mono x1,(hv z hz).2⟩
 have km:=D3 h1 v l sv hn rd1 hv1
 have b0:aK (aQ AP.A) bz (at_ 0 AP.f225.body) (params 0 [.agg [v],.int .i64 xa,.int .i64 xb]) h.dX=some (.normal,[(1,.int .i64 xa),(2,.int .i64 xb),(3,.aC h.next 0)],h1):=by
  clear rd hv x1 rd1 hv1
  simp (disch:=omega)only[go_sem,vh,AP.f225,wx,sv,n0,←eh1]
 have b1:aK (aQ AP.A) bz (at_ 1 AP.f225.body) [(1,.int .i64 xa),(2,.int .i64 xb),(3,.aC h.next 0)] h1=some (.normal,[(1,.int .i64 xa),(2,.int .i64 xb),(3,.aC h.next 0)],h1):=by
  clear rd hv x1 rd1 hv1
  simp (disch:=omega)only[go_sem,vh,AP.f225,wC,wx,k0]
 by_cases hf:vY (l.map (·.1))=true
 case neg=>
  have hf':vY (l.map (·.1))=false:=by
   cases q:vY (l.map (·.1))with
   |false=>rfl
   |true=>exact absurd q hf
  rw[hf']at km
  refine tM (fn:=AP.f225) (h2:=h1) (e:=[(6,.bool true)]) rfl rfl rfl ?_ rfl rfl
  rw[GA,rF,b0,su,rF,b1,su]
  clear rd hv x1 rd1 hv1 b0 b1 hf hf'
  simp (disch:=omega)only[go_sem,vh,AP.f225,wC,wx,gP,wM,km]
 rw[hf]at km
 have l6:l.length≤6:=by
  have hm:=wL hf
  unfold wR at hm
  rw[uG,UY,UW]at hm
  exact hm.2
 obtain⟨L,hL⟩:∃L,L=l.map (·.1):=⟨_,rfl⟩
 obtain⟨a,ha⟩:∃a,a=xa%4:=⟨_,rfl⟩
 obtain⟨b,hb⟩:∃b,b=(if xa%4=xb%4 then(xb%4+1)%4 else xb%4):=⟨_,rfl⟩
 have ne:a≠b:=by rw[ha,hb];split<;>omega
 have na:vW a=true:=by unfold vW;rw[dt (by omega),dt (by omega)];rfl
 have nb:vW b=true:=by unfold vW;rw[hb];split<;>(rw[dt (by omega),dt (by omega)];rfl)
 have b24:aK (aQ AP.A) bz (.seq (at_ 2 AP.f225.body) (.seq (at_ 3 AP.f225.body) (at_ 4 AP.f225.body))) [(1,.int .i64 xa),(2,.int .i64 xb),(3,.aC h.next 0)] h1=some (.normal,[(3,.aC h.next 0),(7,.int .i64 a),(8,.int .i64 b)],h1):=by
  have q1:=Lq xa
  have q2:=Lq xb
  have q3:=Lq (xb%4+1)
  have w1:IntKind.wrap .i64 (xb%4+1)=xb%4+1:=wi (by omega)
  rw[←ha]at q1 hb
  clear rd hv x1 rd1 hv1 b0 b1 na nb ne
  by_cases c:a=xb%4
  · rw[if_pos c]at hb
    rw[hb]
    simp (disch:=omega)only[go_sem,vh,AP.f225,wC,wx,gP,wM,km,q1,q2,q3,dt c,w1]
  · rw[if_neg c]at hb
    rw[hb]
    simp (disch:=omega)only[go_sem,vh,AP.f225,wC,wx,gP,wM,km,q1,q2,q3,df c,w1]
 clear ha hb
 have z0:([.int .i64 0,.int .i64 0,.int .i64 0,.int .i64 0,.aO,.aO,.aO,.aO,.aO]:List AV)=u9 vB:=rfl
 have cz:AV.aB (u9 vB)=true:=rfl
 have k5:=Eb h1 v l sv hn rd1 hv1 a b
 rw[←hL]at k5
 have eo:xV L a b=(FZ L a b,0):=by unfold xV;rw[if_pos ⟨by rw[hL];exact hf,na,nb,ne⟩];rfl
 rw[eo]at k5
 have sO:Lo (FZ L a b):=by have:=Ea L a b;rw[eo]at this;exact this
 obtain⟨A5,G5,O5,a5,m5,ga5,st5,go5,e5,f5,lt5⟩:=JK h1 (by omega) _ (x8 h1 sO)
 have b5:aK (aQ AP.A) bz (at_ 5 AP.f225.body) [(3,.aC h.next 0),(7,.int .i64 a),(8,.int .i64 b)] h1=some (.normal,[(3,.aC h.next 0),(7,.int .i64 a),(8,.int .i64 b),(9,.aC O5 0),(10,.int .i64 0)],G5):=by
  clear rd hv x1 rd1 hv1 b0 b1 b24 e5 eo
  generalize u9 vB=Z at *
  generalize u9 (wW (FZ L a b))=Y at *
  simp (disch:=omega)only[go_sem,vh,AP.f225,wC,wx,gP,wM,k5,z0,cz,a5,m5,ga5,st5]
 have p5:=e5 _ _ gP
 have X5:Ext h G5:=fun i c q=>e5 _ _ (x1 _ _ q)
 have rd5:=rd.mono fun i c q=>X5 i c q
 have hv5:∀z∈l,wS G5 z∧z.2.sc=true:=fun z hz=>⟨(hv z hz).1.mono X5,(hv z hz).2⟩
 have k6:=JW G5 v l sv hn rd5 hv5
 unfold Ik at k6
 rw[if_pos hf,←hL]at k6
 have b6:aK (aQ AP.A) bz (at_ 6 AP.f225.body) [(3,.aC h.next 0),(7,.int .i64 a),(8,.int .i64 b),(9,.aC O5 0),(10,.int .i64 0)] G5=some (.normal,[(3,.aC h.next 0),(7,.int .i64 a),(8,.int .i64 b),(9,.aC O5 0),(10,.int .i64 0),(11,wk (vK L))],G5):=by
  clear rd hv x1 rd1 hv1 b0 b1 b24 e5 eo b5 rd5 hv5 X5
  generalize wk (vK L)=D at *
  simp (disch:=omega)only[go_sem,vh,AP.f225,wC,wx,p5,wM,k6]
 obtain⟨G7,hG7⟩:∃g,g=G5.alloc (ints x9):=⟨_,rfl⟩
 obtain⟨K,hK⟩:∃K,K=G5.next:=⟨_,rfl⟩
 have e7:Ext G5 G7:=by rw[hG7];exact(Ext.refl G5).alloc _
 have n7:G7.next=K+1:=by rw[hG7,hK];simp
 have f7:G7.floor=h.next:=by rw[hG7];simp;omega
 have gK:G7.get K=some (ints x9):=by rw[hG7];exact vk hK
 have X7:Ext h G7:=fun i c q=>e7 _ _ (X5 _ _ q)
 have p7:=e7 _ _ p5
 have k7:=Hk G7 v (.aD K 0 8 1) l x9 sv hn (rd.mono fun i c q=>X7 i c q) (fun z hz=>⟨(hv z hz).1.mono X7,(hv z hz).2⟩) (Rd.obj gK rfl) (by decide)
 unfold Lu at k7
 rw[if_pos (by rw[hf];decide),←hL]at k7
 have b7:aK (aQ AP.A) bz (at_ 7 AP.f225.body) [(3,.aC h.next 0),(7,.int .i64 a),(8,.int .i64 b),(9,.aC O5 0),(10,.int .i64 0),(11,wk (vK L))] G5=some (.normal,[(3,.aC h.next 0),(7,.int .i64 a),(8,.int .i64 b),(9,.aC O5 0),(10,.int .i64 0),(11,wk (vK L)),(13,Ah (vL L x9))],G7):=by
  have z:G5.alloc [.int .i64 0,.int .i64 1,.int .i64 2,.int .i64 3,.int .i64 4,.int .i64 5,.int .i64 6,.int .i64 7]=G7:=hG7.symm
  have hK':=hK.symm
  clear rd hv x1 rd1 hv1 b0 b1 b24 e5 eo b5 rd5 hv5 X5 b6 e7 X7 hG7 hK
  generalize wk (vK L)=D at *
  generalize Ah (vL L x9)=BV at *
  simp (disch:=omega)only[go_sem,vh,AP.f225,wC,wx,p5,p7,wM,AG,dP,z,hK',k7]
 obtain⟨D,hD⟩:∃D,D=wk (vK L):=⟨_,rfl⟩
 obtain⟨BV,hBV⟩:∃BV,BV=Ah (vL L x9):=⟨_,rfl⟩
 have sD:D.sc=true:=by rw[hD];rfl
 have sB:BV.sc=true:=by rw[hBV];exact CJ _ _ _
 have cD:=wZ sD
 have cB:=wZ sB
 obtain⟨G8,hG8⟩:∃g,g=G7.alloc (ints x9):=⟨_,rfl⟩
 have n8:G8.next=K+2:=by rw[hG8];simp [n7]
 have gK2:G8.get (K+1)=some (ints x9):=by rw[hG8];exact vk n7.symm
 obtain⟨Y1,hY1⟩:∃y:wc,y=wW (Qg L a b):=⟨_,rfl⟩
 obtain⟨Y2,hY2⟩:∃y:wc,y={wW (Qh L a b)with vb:=.aD (K+1) 0 8 1}:=⟨_,rfl⟩
 obtain⟨T,hT⟩:∃T,T=yQ [wW (FZ L a b),Y1,Y2]:=⟨_,rfl⟩
 obtain⟨G9,hG9⟩:∃g,g=G8.alloc T:=⟨_,rfl⟩
 have n9:G9.next=K+3:=by rw[hG9];simp [n8]
 have f9:G9.floor=h.next:=by rw[hG9,hG8];simp [f7]
 have e8:Ext G7 G8:=by rw[hG8];exact(Ext.refl G7).alloc _
 have e9:Ext G8 G9:=by rw[hG9];exact(Ext.refl G8).alloc _
 have gT:G9.get (K+2)=some T:=by rw[hG9];exact vk n8.symm
 have g95:G7.get O5=some (u9 (wW (FZ L a b))):=e7 _ _ go5
 have b8:aK (aQ AP.A) bz (at_ 8 AP.f225.body) [(3,.aC h.next 0),(7,.int .i64 a),(8,.int .i64 b),(9,.aC O5 0),(10,.int .i64 0),(11,D),(13,BV)] G7=some (.normal,[(3,.aC h.next 0),(7,.int .i64 a),(8,.int .i64 b),(9,.aC O5 0),(10,.int .i64 0),(15,.aD (K+2) 0 3 9)],G9):=by
  have z8:G7.alloc [.int .i64 0,.int .i64 1,.int .i64 2,.int .i64 3,.int .i64 4,.int .i64 5,.int .i64 6,.int .i64 7]=G8:=hG8.symm
  have eC:u9 (wW (FZ L a b))=[.int .i64 0,.int .i64 a,.int .i64 b,.int .i64 (vX (vK L)),.aO,.aO,.aO,.aO,.aO]:=rfl
  have z9:G8.alloc [.int .i64 0,.int .i64 a,.int .i64 b,.int .i64 (vX (vK L)),.aO,.aO,.aO,.aO,.aO,.int .i64 1,.int .i64 a,.int .i64 b,.int .i64 0,D,.aO,.aO,.aO,.aO,.int .i64 2,.int .i64 a,.int .i64 b,.int .i64 0,.aO,.aD (K+1) 0 8 1,BV,.aO,.aO]=G9:=by
   rw[hG9,hT,hY1,hY2,hD,hBV,←Jl];rfl
  rw[eC]at g95
  clear rd hv x1 rd1 hv1 b0 b1 b24 e5 eo b5 rd5 hv5 X5 b6 b7 e7 X7 hG7 hK k7 hG8 hG9 hT hY1 hY2 hD hBV e8 e9 z0 eC
  generalize vX (vK L)=R at *
  simp (disch:=omega)only[go_sem,vh,AP.f225,wC,wx,g95,AG,dP,z8,n7,z9,n8,GC,wH,UR,UT,List.take,List.drop,sD,sB,cD,cB]
 have e15:Ext G5 G9:=fun i c q=>e9 _ _ (e8 _ _ (e7 _ _ q))
 have X9:Ext h G9:=fun i c q=>e15 _ _ (X5 _ _ q)
 have p9:=e15 _ _ p5
 have go9:=e15 _ _ go5
 have gK9:=e9 _ _ gK2
 have hm:=wL hf
 unfold wR at hm
 rw[uG]at hm
 have fz:∀t∈vL L x9,t.1.size<1000∧t.2.length<1000:=fun t ht=>by
  rw[yK]at ht
  obtain⟨e,he,rfl⟩:=U8.1 ht
  rw[hL]at he
  obtain⟨q1,q2,_⟩:=Az hm.1 e he
  unfold wo at q1
  unfold wg xo at q2
  simp only[uG,UY]at q1 q2
  exact⟨by show e.name.size<_;omega,by show e.vec.length<_;omega⟩
 have Ll:L.length=l.length:=by rw[hL,UW]
 have s1:Lo (Qg L a b):=⟨by show(vK L).length<_;rw[vI];omega,by show(0:Nat)<_;omega,by show(0:Nat)<_;omega,by show(0:Nat)<_;omega,by show(0:Nat)<_;omega,fun s h=>(by cases h),fun s h=>(by cases h),fun s h=>(by cases h)⟩
 have s2:Lo (Qh L a b):=⟨by show(0:Nat)<_;omega,by show x9.length<_;decide,by show(vL L x9).length<_;rw[yK,UW];omega,by show(0:Nat)<_;omega,by show(0:Nat)<_;omega,fun s h=>(by cases h),fz,fun s h=>(by cases h)⟩
 have o2:∀g:H,g.get (K+1)=some (ints x9)→zl g Y2:=fun g hg=>by
  have o:=x8 g s2
  rw[hY2]
  exact⟨o.rd,Rd.obj (l:=x9) hg rfl,o.rf,o.hf,o.rn,o.re,o.he,o.ve,o.vf,⟨o.sc.1,rfl,o.sc.2.2⟩,o.zd,o.zb,o.zf,o.zn,o.ze,o.zs⟩
 have hfL:vY L=true:=by rw[hL];exact hf
 have m1:Y1.m=Qg L a b:=by rw[hY1];rfl
 have m2:Y2.m=Qh L a b:=by rw[hY2];rfl
 have T3:T.length=27:=by rw[hT];exact A6 _
 obtain⟨G10,w,ms,b9,eM,rw10,om,p10,go10,f10,fn10⟩:∃(G10:H) (w:AV) (ms:List wc),aK (aQ AP.A) bz (at_ 9 AP.f225.body) [(3,.aC h.next 0),(7,.int .i64 a),(8,.int .i64 b),(9,.aC O5 0),(10,.int .i64 0),(15,.aD (K+2) 0 3 9)] G9=some (.normal,[(3,.aC h.next 0),(7,.int .i64 a),(8,.int .i64 b),(9,.aC O5 0),(10,.int .i64 0),(15,w)],G10)∧Ext h G10∧wO 9 G10 w ms.length (yQ ms)∧(∀x∈ms,zl G10 x∧wU L x.m=(yd,false,0))∧G10.get h.next=some [v]∧G10.get O5=some (u9 (wW (FZ L a b)))∧G10.floor=h.next∧(ms.length<1000∧h.next≤G10.next):=by
  have o9:vM 9 G9 (.aD (K+2) 0 3 9) 3 T:=⟨T3,.inr ⟨K+2,rfl,gT,by omega,by omega⟩⟩
  have ln:=rd.len
  by_cases c:0<l.length
  · obtain⟨Y4,hY4⟩:∃y:wc,y=⟨SN L a b,.aO,.aO,.aO,.aO,v,[],l⟩:=⟨_,rfl⟩
    obtain⟨w,h',k,ow,fw,nw,lw,iw⟩:=o9.push (by omega) (z:=152) (m:=1) (by omega) (by omega) (u9 Y4) rfl (by rw[hY4];simp [u9,sv]) (by decide)
    have low:∀i c,i≠K+2→G9.get i=some c→h'.get i=some c:=fun i c q1 q2=>by rw[lw i (fun q=>q1 (uv q).symm) (G9.lt _ _ q2)];exact q2
    have X':Ext h h':=fun i c q=>low i c (by have:=h.lt _ _ q;have:=e5 _ _ (x1 _ _ q);have:=G5.lt _ _ this;omega) (X9 _ _ q)
    have o4:zl h' Y4:=by
     rw[hY4]
     exact⟨yh _,yh _,⟨AF _ _,fun x hx=>(by cases hx)⟩,rfl,yh _,rd.mono fun i c q=>X' i c q,hL.symm,fun y hy=>⟨(hv y hy).1.mono X',(hv y hy).2⟩,fun y hy=>(by cases hy),⟨rfl,rfl,rfl,rfl,sv⟩,by show(0:Nat)<_;omega,by show(0:Nat)<_;omega,by show(0:Nat)<_;omega,by show(0:Nat)<_;omega,by show L.length<_;omega,⟨fun s hs=>(by cases hs),fun s hs=>(by cases hs)⟩⟩
    have O5K:O5<K:=by have:=G5.lt _ _ go5;omega
    refine⟨h',w,[wW (FZ L a b),Y1,Y2,Y4], ?_,X', ?_, ?_,low _ _ (by have:=G5.lt _ _ p5;omega) p9,low _ _ (by omega) go9,by omega,by simp,by omega⟩
    · have eC:u9 Y4=[.int .i64 4,.int .i64 a,.int .i64 b,.int .i64 0,.aO,.aO,.aO,.aO,v]:=by rw[hY4];rfl
      rw[eC]at k
      have cv:=wZ sv
      have lt0:(0:Int)<(l.length:Int):=by omega
      clear rd hv x1 rd1 hv1 b0 b1 b24 e5 eo b5 rd5 hv5 X5 b6 b7 e7 X7 hG7 hK k7 hG8 hG9 hT hY1 hY2 hD hBV e8 e9 z0 eC o9 low X' o4 hm fz s1 s2 o2 b8 ow lw e15 X9
      simp (disch:=omega)only[go_sem,vh,AP.f225,wC,wx,p9,ln,dt lt0,cv,sv,AG,dP,k]
    · have q:=ow.rd
      have:T++u9 Y4=yQ [wW (FZ L a b),Y1,Y2,Y4]:=by rw[hT];simp [yQ]
      rw[this]at q;exact q
    · intro x hx
      simp only[uW,List.not_mem_nil,or_false]at hx
      rcases hx with rfl|rfl|rfl|rfl
      · exact⟨x8 _ sO,I6 hfL na nb ne⟩
      · exact⟨by rw[hY1];exact x8 _ s1,by rw[m1];exact I7 hfL na nb ne⟩
      · exact⟨o2 _ (low _ _ (by omega) gK9),by rw[m2];exact I8 hfL na nb ne⟩
      · exact⟨o4,by rw[hY4];exact PQ hfL na nb ne (by omega)⟩
  · refine⟨G9,.aD (K+2) 0 3 9,[wW (FZ L a b),Y1,Y2], ?_,X9, ?_, ?_,p9,go9,f9,by simp,by omega⟩
    · have lt0:¬(0:Int)<(l.length:Int):=by omega
      clear rd hv x1 rd1 hv1 b0 b1 b24 e5 eo b5 rd5 hv5 X5 b6 b7 e7 X7 hG7 hK k7 hG8 hG9 hT hY1 hY2 hD hBV e8 e9 z0 o9 hm fz s1 s2 o2 b8 e15 X9
      simp (disch:=omega)only[go_sem,vh,AP.f225,wC,wx,p9,ln,df lt0]
    · have q:=o9.rd
      rw[hT]at q;exact q
    · intro x hx
      simp only[uW,List.not_mem_nil,or_false]at hx
      rcases hx with rfl|rfl|rfl
      · exact⟨x8 _ sO,I6 hfL na nb ne⟩
      · exact⟨by rw[hY1];exact x8 _ s1,by rw[m1];exact I7 hfL na nb ne⟩
      · exact⟨o2 _ gK9,by rw[m2];exact I8 hfL na nb ne⟩
 rw[hL]at om
 obtain⟨e',g',r1,xg,r7,r8,r9,r10⟩:=GB (b:=h.next) (w:=w) (ms:=ms) (r7:=.int .i64 a) (r8:=.int .i64 b) (r9:=.aC O5 0) (r10:=.int .i64 0) sv hn fn10.1 p10 (rd.mono fun i c q=>eM i c q) (fun z hz=>⟨(hv z hz).1.mono eM,(hv z hz).2⟩) rw10 om ms [] rfl G10 (Ext.refl _) rfl (by omega) (by omega)
 have r1':Lp AP.A [3,7,8,9,10,15,16] AP.f225L0 [(3,.aC h.next 0),(7,.int .i64 a),(8,.int .i64 b),(9,.aC O5 0),(10,.int .i64 0),(15,w),(16,.int .i64 0)] G10=some (.exit 0,e',g'):=r1
 have b10:aK (aQ AP.A) bz (at_ 10 AP.f225.body) [(3,.aC h.next 0),(7,.int .i64 a),(8,.int .i64 b),(9,.aC O5 0),(10,.int .i64 0),(15,w)] G10=some (.normal,[(7,.int .i64 a),(8,.int .i64 b),(9,.aC O5 0),(10,.int .i64 0)],g'):=by
  clear rd hv x1 rd1 hv1 b0 b1 b24 e5 eo b5 rd5 hv5 X5 b6 b7 e7 X7 hG7 hK k7 hG8 hG9 hT hY1 hY2 hD hBV e8 e9 z0 hm fz s1 s2 o2 b8 e15 X9 b9 rw10 om eM xg r1
  simp (disch:=omega)only[go_sem,vh,AP.f225,wC,wx,rR,r1',r7,r8,r9,r10]
 have gF:=xg _ _ go10
 have kn:=fun (g:H) n=>IV g n
 simp only[I]at kn
 have b11:aK (aQ AP.A) bz (F3 11 AP.f225.body) [(7,.int .i64 a),(8,.int .i64 b),(9,.aC O5 0),(10,.int .i64 0)] g'=some (.ret,[(6,.bool true)],g'):=by
  have c1:(u9 (wW (FZ L a b)))[1]?=some (.int .i64 a):=rfl
  have c2:(u9 (wW (FZ L a b)))[2]?=some (.int .i64 b):=rfl
  clear rd hv x1 rd1 hv1 b0 b1 b24 e5 eo b5 rd5 hv5 X5 b6 b7 e7 X7 hG7 hK k7 hG8 hG9 hT hY1 hY2 hD hBV e8 e9 z0 hm fz s1 s2 o2 b8 e15 X9 b9 rw10 om eM xg r1 b10
  generalize u9 (wW (FZ L a b))=Y at *
  simp (disch:=omega)only[go_sem,vh,AP.f225,CR,CS,kn,gF,c1,c2,dt]
 refine tM (fn:=AP.f225) (h2:=g') (e:=[(6,.bool true)]) rfl rfl rfl ?_ rfl rfl
 rw[GA,rF,b0,su,rF,b1,su]
 refine SA b24 ?_
 rw[rF,b5,su,rF,b6,su,rF,b7,su,rF]
 rw[hD,hBV]at b8
 rw[b8,su,rF,b9,su,rF,b10,su]
 exact b11
theorem CW (r:List (Ty×List AV)) (h:r.map (·.1)=[J3,Aw,Aw]) (hp:∀x∈r,Sh reachBytes x.1 x.2):aQ AP.A 225 (r.map jP) H.empty=some (.bool true,H.empty):=by
 obtain⟨x,y,z,rfl,h1,h2,h3⟩:=Te h hp
 obtain⟨v,l,rfl,hv,rd,ok,hl⟩:=PY h1
 obtain⟨a,rfl,_⟩:=zA h2
 obtain⟨b,rfl,_⟩:=zA h3
 exact I3 H.empty v l hv (by omega) (rd _) (fun x hx=>⟨(ok x hx).2.1 _,(ok x hx).1⟩) a b
end Ab
