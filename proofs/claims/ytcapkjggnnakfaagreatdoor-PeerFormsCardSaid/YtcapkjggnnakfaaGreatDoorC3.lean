/- Part C3. -/
import Derived.Test.YtcapkjggnnakfaaGreatDoorC2
set_option linter.unusedSimpArgs false
set_option linter.unusedVariables false
set_option maxRecDepth 100000
namespace Ab
open Go
structure E4 (B G:H) (S M O:Nat) (v w:AV) (l:List vh) (x:vL):Prop where
 sd:Sd B v w l
 ox:zW B x
 gS:G.get S=some [v,w]
 gM:G.get M=some (uQ x)
 ne:S≠O∧M≠O
 OZ:Ext B G
 BO:B.next≤O
 ON:O<G.next
 fO:G.floor≤O
 fG:G.floor≤G.next
theorem E4.ext {B G h:H} {S M O:Nat} {v w:AV} {l:List vh} {x:vL} (k:E4 B G S M O v w l x) (low:∀i c,i≠O→G.get i=some c→h.get i=some c):Ext B h:=fun i c q=>by
 have:=B.lt _ _ q
 have:=k.BO
 exact low i c (by omega) (k.OZ i c q)
theorem E4.S_ {B G h:H} {S M O:Nat} {v w:AV} {l:List vh} {x:vL} (k:E4 B G S M O v w l x) (low:∀i c,i≠O→G.get i=some c→h.get i=some c):h.get S=some [v,w]∧h.get M=some (uQ x):=
 ⟨low S _ k.ne.1 k.gS,low M _ k.ne.2 k.gM⟩
def vx:Nat→List Int→List Int→List Int
 |i,d::ds,m::ms=>if m=d then vx (i+1) ds ms else(i:Int)::vx (i+1) ds ms
 |_,_,_=>[]
theorem yq:∀(ds ms:List Int) (i:Nat) (p:Option Int),i+ds.length≤8→(∀q,p=some q→q<i)→xF p (vx i ds ms)=true
 |[],_,_,_,_,_=>by simp [vx,xF]
 |_::_,[],_,_,_,_=>by simp [vx,xF]
 | d :: ds, m :: ms, i, p, hl, hp => by
   rw[Qm]at hl
   unfold vx
   split
   · exact yq ds ms (i+1) p (by omega) fun q hq=>by have:=hp q hq;omega
   · unfold xF
     simp only[uu,Qt]
     refine⟨⟨by omega,by omega, ?_⟩,yq ds ms (i+1) _ (by omega) fun q hq=>by have:=ue hq;omega⟩
     cases p with
     |none=>rfl
     |some q=>exact dt (hp q rfl)
theorem yo:∀(ds ms:List Int) (i:Nat),(vx i ds ms).length≤ds.length
 |[],_,_=>by simp [vx]
 |_::_,[],_=>by simp [vx]
 | d :: ds, m :: ms, i => by
   unfold vx
   have:=yo ds ms (i+1)
   split<;>simp only[Qm]<;>omega
theorem AU {B G : H} {S M O : Nat} {v w : AV} {l : List vh} {x y : vL} (k3 : E4 B G S M O v w l x) (l8 : x.m.vJ.length = 8) : ∀ (q p r p' : List Int), vw (l.map (·.1)) = p ++ q → x.m.vJ = p' ++ r → p.length = p'.length → ∀ (h : H) (ov : AV) (acc : List Int), (∀ i c, i ≠ O → G.get i = some c → h.get i = some c) → G.next ≤ h.next → h.floor = G.floor → h.get O = some (uQ { y with vb := ov }) →
 vr 1 h ov acc.length (ints acc)→(∀j,ov.id?=some j→G.next≤j)→acc.length≤p.length→
 ∃ e' h' ov', Lp AP.A [0, 1, 2, 12, 13, 14] AP.f301L0 [(0, .aC S 0), (1, .aC M 0), (2, .aC O 0), (12, w), (13, .int .i64 8), (14, .int .i64 p.length)] h = some (.exit 0, e', h') ∧ look e' 0 = .aC S 0 ∧ look e' 2 = .aC O 0 ∧
   (∀i c,i≠O→G.get i=some c→h'.get i=some c)∧G.next≤h'.next∧h'.floor=G.floor∧h'.get O=some (uQ {y with vb:=ov'})∧vr 1 h' ov' (acc++vx p.length q r).length (ints (acc++vx p.length q r))∧∀j,ov'.id?=some j→G.next≤j
 | [], p, r, p', hp, hp', hpp, h, ov, acc, low, hn, hf, hg, o, ho, ha => by
   rw[Qv]at hp
   have e8:p.length=8:=by rw[←hp,vm]
   refine⟨[(0,.aC S 0),(1,.aC M 0),(2,.aC O 0),(12,w),(13,.int .i64 8),(14,.int .i64 p.length),(15,.bool false)],h,ov,sN ?_,rfl,rfl,low,hn,hf,hg,by simpa [vx]using o,ho⟩
   rw[e8]
   clear low o hp hp'
   simp (disch:=omega)only[go_sem,uX,AP.f301L0]
 | d :: q, p, [], p', hp, hp', hpp, h, ov, acc, low, hn, hf, hg, o, ho, ha => by
   have:=QN List.length hp
   rw[vm]at this
   rw[hp']at l8
   simp at l8 this;omega
 | d :: q, p, m :: r, p', hp, hp', hpp, h, ov, acc, low, hn, hf, hg, o, ho, ha => by
   have e8:=QN List.length hp
   rw[vm]at e8
   simp only[uN,Qm]at e8
   have xB:=k3.ext low
   obtain⟨gS,gM⟩:=k3.S_ low
   have rw1:=k3.sd.dg
   obtain⟨ad,a1,a2⟩:=rw1.wJ
   have b1:=a1 p.length ⟨by omega,by rw[vm];omega⟩
   have b2:=a2 h xB p.length d (by rw[hp];simp)
   obtain⟨cd,c1,c2⟩:=k3.ox.rd.wJ
   have d1:=c1 p.length ⟨by omega,by rw[l8];omega⟩
   have d2:=c2 h xB p.length m (by rw[hp',hpp];simp)
   have e4:(uQ x)[4]?=some x.vd:=rfl
   have w1:(((p++[d]).length:Nat):Int)=(p.length:Int)+1:=by simp
   by_cases c:m=d
   · obtain⟨e',h',ov',r1,r2,r3,r4,r5,r6,r7,r8,r9⟩:=AU k3 l8 q (p++[d]) r (p'++[m]) (by rw[hp];simp) (by rw[hp'];simp) (by simp [hpp]) h ov acc low hn hf hg o ho (by simp;omega)
     rw[w1]at r1
     have eu:vx p.length (d::q) (m::r)=vx (p++[d]).length q r:=by rw[vx,if_pos c,uN];rfl
     rw[eu]
     refine⟨e',h',ov',sP ?_ r1,r2,r3,r4,r5,r6,r7,r8,r9⟩
     clear r1 r4 r8 r9 low o a1 a2 c1 c2 hp hp' xB
     generalize uQ x=X at *
     simp (disch:=omega)only[go_sem,uX,AP.f301L0,b1,b2,gM,e4,d1,d2,Im c]
   · obtain⟨v',h1,p1,p2,p3,p4,p5,p6⟩:=o.push (by have:=k3.fG;omega) (z:=8) (m:=1) (by omega) (by omega) [.int .i64 p.length] rfl rfl (by simp [roomy];omega)
     have ea:ints acc++[.int .i64 p.length]=ints (acc++[(p.length:Int)]):=by simp [ints,I]
     have el:acc.length+1=(acc++[(p.length:Int)]).length:=by simp
     rw[ea,el]at p2
     have sv:=p2.sc
     have cv:=wK sv
     have hO:=h.lt _ _ hg
     have oO:ov.id?≠some O:=fun q2=>by have:=ho O q2;have:=k3.ON;omega
     have g1:h1.get O=some (uQ {y with vb:=ov}):=by rw[p5 O oO hO];exact hg
     obtain⟨h2,eh2⟩:∃g,g=h1.set O (uQ {y with vb:=v'}):=⟨_,rfl⟩
     have st:tD h1 O 5 1 [v'] (some (uQ {y with vb:=ov}))=some h2:=by rw[tV (by have:=k3.fO;omega) (by show 5<9;omega) sv,eh2];rfl
     have g2:h2.get O=some (uQ {y with vb:=v'}):=by rw[eh2,uZ rfl,g1];rfl
     have vj:∀j,v'.id?=some j→j=h.next+1:=fun j q2=>by rw[p6]at q2;exact(ue q2).symm
     obtain⟨e',h',ov',r1,r2,r3,r4,r5,r6,r7,r8,r9⟩:=AU k3 l8 q (p++[d]) r (p'++[m]) (by rw[hp];simp) (by rw[hp'];simp) (by simp [hpp]) h2 v' (acc++[(p.length:Int)])
      (fun i c c2 q3=>by have:=G.lt _ _ q3;rw[eh2,uU c2,p5 i (fun q2=>by have:=ho i q2;omega) (by omega)];exact low i c c2 q3) (by rw[eh2];simp;omega) (by rw[eh2];simp [p3,hf]) g2
      (p2.mono (by rw[eh2];simp) fun i q2=>by have:=vj i q2;rw[eh2,uU (by omega)]) (fun j q2=>by have:=vj j q2;omega) (by simp;omega)
     rw[w1]at r1
     have eu:acc++vx p.length (d::q) (m::r)=(acc++[(p.length:Int)])++vx (p++[d]).length q r:=by rw[vx,if_neg c,uN];simp
     rw[eu]
     refine⟨e',h',ov',sP ?_ r1,r2,r3,r4,r5,r6,r7,r8,r9⟩
     have e5:(uQ {y with vb:=ov})[5]?=some ov:=rfl
     clear r1 r4 r8 r9 low o a1 a2 c1 c2 hp hp' xB p2 p5
     generalize uQ x=X at *
     generalize uQ {y with vb:=ov}=Y1 at *
     generalize uQ {y with vb:=v'}=Y2 at *
     simp (disch:=omega)only[go_sem,uX,AP.f301L0,b1,b2,gM,e4,d1,d2,Mk c,hg,e5,p1,g1,cv,st]
def wL (L:List vv) (ms:List Int):List Int:=vx 0 (vw L) ms
theorem Cd:AP.f301.body=.seq (at_ 0 AP.f301.body) (.seq (at_ 1 AP.f301.body) (.seq (at_ 2 AP.f301.body) (.seq (at_ 3 AP.f301.body) (DF 4 AP.f301.body)))):=rfl
theorem EV {B G:H} {S M O:Nat} {v w:AV} {l:List vh} {x y:vL} (k3:E4 B G S M O v w l x) (sv:v.sc=true) (l8:x.m.vJ.length=8) (gO:G.get O=some (uQ y)) (y0:y.vb=.aO):
 ∃ h' ov ow acc, aQ AP.A 301 [.aC S 0, .aC M 0, .aC O 0] G = some (.bool (decide (0 < (wL (l.map (·.1)) x.m.vJ).length)), h') ∧ (∀ i c, i ≠ O → G.get i = some c → h'.get i = some c) ∧ G.next ≤ h'.next ∧ h'.floor = G.floor ∧
   h'.get O=some (uQ {y with m:={y.m with kind:=2},vb:=ov,vf:=ow})∧vr 1 h' ov (wL (l.map (·.1)) x.m.vJ).length (ints (wL (l.map (·.1)) x.m.vJ))∧vr 2 h' ow acc.length (wg acc)∧acc.map (·.1)=vP (l.map (·.1)) (wL (l.map (·.1)) x.m.vJ)∧
   (∀j,ov.id?=some j→G.next≤j)∧(∀j,ow.id?=some j→G.next≤j∧ov.id?≠some j)∧∀z∈acc,z.1.2.length=4∧∃j,z.2=.aD j 0 4 1∧h'.get j=some (ints z.1.2)∧G.next≤j∧ow.id?≠some j∧ov.id?≠some j∧h'.floor≤j:=by
 obtain⟨e',h1,ov,r1,r2,r3,r4,r5,r6,r7,r8,r9⟩:=AU (y:=y) k3 l8 (vw (l.map (·.1))) [] x.m.vJ [] rfl rfl rfl G .aO [] (fun _ _ _ q=>q) (ur _) rfl (by rw[gO,←y0]) vr.nil (fun j q=>by cases q) (ur _)
 have r1':Lp AP.A [0,1,2,12,13,14] AP.f301L0 [(0,.aC S 0),(1,.aC M 0),(2,.aC O 0),(12,w),(13,.int .i64 8),(14,.int .i64 0)] G=some (.exit 0,e',h1):=r1
 have r8':vr 1 h1 ov (wL (l.map (·.1)) x.m.vJ).length (ints (wL (l.map (·.1)) x.m.vJ)):=r8
 obtain⟨U,hU⟩:∃U,U=wL (l.map (·.1)) x.m.vJ:=⟨_,rfl⟩
 have Ul:U.length≤8:=by rw[hU];have:=yo (vw (l.map (·.1))) x.m.vJ 0;rw[vm]at this;exact this
 have Um:yH U=true:=by rw[hU];exact yq _ _ 0 none (by rw[vm];omega) fun q hq=>by cases hq
 rw[←hU]at r8' ⊢
 have fG:=k3.fG
 have fO:=k3.fO
 have ON:=k3.ON
 have x1:=k3.ext r4
 obtain⟨gS1,_⟩:=k3.S_ r4
 have ld:iY false w=some (.int .i64 8):=by
  have:=k3.sd.dg.len
  rw[o9,vm]at this
  exact this
 obtain⟨h2,eh2⟩:∃g,g=h1.set O (uQ {y with m:={y.m with kind:=2},vb:=ov}):=⟨_,rfl⟩
 have st2:tD h1 O 0 1 [.int .i64 2] (some (uQ {y with vb:=ov}))=some h2:=by rw[tV (by omega) (by show 0<9;omega) rfl,eh2];rfl
 have g2:h2.get O=some (uQ {y with m:={y.m with kind:=2},vb:=ov}):=by rw[eh2,uZ rfl,r7];rfl
 have n2:h2.next=h1.next:=by rw[eh2];simp
 have f2:h2.floor=G.floor:=by rw[eh2];simp [r6]
 have low2:∀i c,i≠O→G.get i=some c→h2.get i=some c:=fun i c c2 q=>by rw[eh2,uU c2];exact r4 i c c2 q
 have x2:=k3.ext low2
 obtain⟨gS2,_⟩:=k3.S_ low2
 have o2:vr 1 h2 ov U.length (ints U):=r8'.mono (by rw[eh2];simp) fun i q=>by have:=r9 i q;rw[eh2,uU (by omega)]
 have rdU:Rd h2 ov (ints U):=by
  have:=o2.rd
  exact⟨by rw[o9];exact this.1,this.2.2⟩
 obtain⟨ow,h3,acc,k4,e4,q4,b4⟩:=Fp h2 (by omega) v ov l U sv (by have:=k3.sd.len;omega) (k3.sd.rd.mono fun i c q=>x2 i c q) (fun z hz=>⟨(k3.sd.ok z hz).1.mono x2,(k3.sd.ok z hz).2⟩) rdU (by omega) (by rw[k3.sd.fo,Um];rfl)
 have n3:=e4.nx
 have f3:=e4.fl
 have s4:=e4.own.sc
 have c4:=wK s4
 have g3:=e4.ext _ _ g2
 obtain⟨h4,eh4⟩:∃g,g=h3.set O (uQ {y with m:={y.m with kind:=2},vb:=ov,vf:=ow}):=⟨_,rfl⟩
 have st4:tD h3 O 6 1 [ow] (some (uQ {y with m:={y.m with kind:=2},vb:=ov}))=some h4:=by rw[tV (by omega) (by show 6<9;omega) s4,eh4];rfl
 have g4:h4.get O=some (uQ {y with m:={y.m with kind:=2},vb:=ov,vf:=ow}):=by rw[eh4,uZ rfl,g3];rfl
 have f4:h4.floor=G.floor:=by rw[eh4];simp;omega
 have n4:h4.next=h3.next:=by rw[eh4];simp
 have low4:∀i c,i≠O→G.get i=some c→h4.get i=some c:=fun i c c2 q=>by rw[eh4,uU c2];exact e4.ext _ _ (low2 i c c2 q)
 have ov4:vr 1 h4 ov U.length (ints U):=by
  obtain⟨a,⟨b1,b2⟩|⟨j,b1,b2,b3,b4'⟩⟩:=o2
  · exact⟨a,.inl ⟨b1,b2⟩⟩
  · have:=r9 j (by rw[b1];rfl)
    exact⟨a,.inr ⟨j,b1,by rw[eh4,uU (by omega)];exact e4.ext _ _ b2,by omega,b4'⟩⟩
 have ow4:vr 2 h4 ow acc.length (wg acc):=e4.own.mono (by rw[eh4];simp) fun i q=>by have:=e4.ge i q;rw[eh4,uU (by omega)]
 have r1c:aK (aQ AP.A) bA (at_ 1 AP.f301.body) [(0,.aC S 0),(1,.aC M 0),(2,.aC O 0)] G=some (.normal,[(0,.aC S 0),(2,.aC O 0)],h1):=by
  have gS:=k3.gS
  clear r1 r4 r8 r9 r8' x1 x2 low2 low4 o2 rdU e4 b4 ov4 ow4
  simp (disch:=omega)only[go_sem,uX,AP.f301,vG,vB,gS,ld,rH,r1',r2,r3]
 have b3c:aK (aQ AP.A) bA (at_ 3 AP.f301.body) [(0,.aC S 0),(2,.aC O 0)] h2=some (.normal,[(2,.aC O 0)],h4):=by
  have e5:(uQ {y with m:={y.m with kind:=2},vb:=ov})[5]?=some ov:=rfl
  have tv:List.take 1 [v,w]=[v]:=rfl
  clear r1 r4 r8 r9 r8' x1 x2 low2 low4 o2 rdU e4 b4 ov4 ow4 r1c r1'
  generalize uQ {y with m:={y.m with kind:=2},vb:=ov}=Y1 at *
  generalize uQ {y with m:={y.m with kind:=2},vb:=ov,vf:=ow}=Y2 at *
  simp (disch:=omega)only[go_sem,uX,AP.f301,vG,vB,gS2,D0,vM,tv,Qs,QH,g2,e5,k4,g3,c4,st4]
 refine⟨h4,ov,ow,acc,ta (fn:=AP.f301) (h2:=h4) (e:=[(6,.bool (decide (0<U.length)))]) (vs:=[.bool (decide (0<U.length))]) rfl rfl rfl ?_ rfl,low4,by omega,f4,g4,ov4,ow4,q4,r9,fun j q=> ?_,fun z hz=> ?_⟩
 · rw[Cd]
   have b0:aK (aQ AP.A) bA (at_ 0 AP.f301.body) (params 0 [.aC S 0,.aC M 0,.aC O 0]) G=some (.normal,[(0,.aC S 0),(1,.aC M 0),(2,.aC O 0)],G):=by
    simp (disch:=omega)only[go_sem,uX,AP.f301,vB]
   have b2:aK (aQ AP.A) bA (at_ 2 AP.f301.body) [(0,.aC S 0),(2,.aC O 0)] h1=some (.normal,[(0,.aC S 0),(2,.aC O 0)],h2):=by
    clear r1 r4 r8 r9 r8' x1 x2 low2 low4 o2 rdU e4 b4 ov4 ow4 r1c r1' b3c
    generalize uQ {y with vb:=ov}=Y1 at *
    simp (disch:=omega)only[go_sem,uX,AP.f301,vG,vB,r7,st2]
   rw[rk,b0,r0,rk,r1c,r0,rk,b2,r0,rk,b3c,r0]
   have lu:=ov4.rd.len
   have e5:(uQ {y with m:={y.m with kind:=2},vb:=ov,vf:=ow})[5]?=some ov:=rfl
   clear r1 r4 r8 r9 r8' x1 x2 low2 low4 o2 rdU e4 b4 ov4 ow4 r1c r1' b3c b0 b2
   generalize uQ {y with m:={y.m with kind:=2},vb:=ov,vf:=ow}=Y1 at *
   by_cases c:0<U.length<;>simp (disch:=omega)only[go_sem,uX,AP.f301,AO,AQ,g4,e5,lu]
 · have:=e4.ge j q
   refine⟨by omega,fun q2=> ?_⟩
   have:=(o2.lt q2).2
   omega
 · obtain⟨j,a1,a2,a3,a4,a5⟩:=(b4 z hz).ex
   refine⟨(b4 z hz).l4,j,a1, ?_,by omega,a4,fun q2=> ?_,by omega⟩
   · rw[eh4,uU (by omega)];exact a2
   · have:=(o2.lt q2).2
     omega
def wP (L:List vv) (bs:List E1):List ByteArray:=(bs.filter fun b=> !zD L b).map (·.1)
theorem HZ (L:List vv) (b:E1) (bs:List E1):wP L (b::bs)=if zD L b then wP L bs else b.1::wP L bs:=by
 unfold wP
 rw[List.filter_cons]
 cases zD L b<;>rfl
theorem GM (a b:List ByteArray):wT (a++b)=wT a++wT b:=by simp [wT]
theorem AM {B G : H} {S M O : Nat} {v w : AV} {l : List vh} {x y : vL} (k3 : E4 B G S M O v w l x) (fl6 : x.fs.length ≤ 6) (fv : ∀ b ∈ x.m.u3, w8 b.2 = true) : ∀ (q p : List xm), x.fs = p ++ q → ∀ (h : H) (ov : AV) (acc : List ByteArray), (∀ i c, i ≠ O → G.get i = some c → h.get i = some c) → G.next ≤ h.next → h.floor = G.floor → h.get O = some (uQ { y with vn := ov }) →
 vr 1 h ov acc.length (wT acc)→(∀j,ov.id?=some j→G.next≤j)→acc.length≤p.length→
 ∃ e' h' ov', Lp AP.A [0, 1, 2, 15, 16] AP.f302L0 [(0, .aC S 0), (1, .aC M 0), (2, .aC O 0), (15, .int .i64 x.fs.length), (16, .int .i64 p.length)] h = some (.exit 0, e', h') ∧ look e' 2 = .aC O 0 ∧
   (∀i c,i≠O→G.get i=some c→h'.get i=some c)∧G.next≤h'.next∧h'.floor=G.floor∧h'.get O=some (uQ {y with vn:=ov'})∧vr 1 h' ov' (acc++wP (l.map (·.1)) (q.map (·.1))).length (wT (acc++wP (l.map (·.1)) (q.map (·.1))))∧∀j,ov'.id?=some j→G.next≤j
 | [], p, hp, h, ov, acc, low, hn, hf, hg, o, ho, ha => by
   rw[Qv]at hp;subst hp
   refine⟨[(0,.aC S 0),(1,.aC M 0),(2,.aC O 0),(15,.int .i64 x.fs.length),(16,.int .i64 x.fs.length),(17,.bool false)],h,ov,sN ?_,rfl,low,hn,hf,hg,by simpa [wP]using o,ho⟩
   clear low o
   simp (disch:=omega)only[go_sem,uX,AP.f302L0]
 | b :: q, p, hp, h, ov, acc, low, hn, hf, hg, o, ho, ha => by
   have hlen:x.fs.length=p.length+(q.length+1):=by rw[hp];simp
   have hb:x.fs[p.length]?=some b:=by rw[hp];simp
   have hm:=ux hb
   have xB:=k3.ext low
   obtain⟨gS,gM⟩:=k3.S_ low
   have fG:=k3.fG
   have fO:=k3.fO
   have ON:=k3.ON
   obtain⟨ad,a1,a2,a4,a3⟩:=k3.ox.rf.rd.at_
   have hI:(0:Int)≤(p.length:Int)∧(p.length:Int)<x.fs.length:=⟨by omega,by omega⟩
   have b1:=a1 _ hI
   have q0:=a2 p.length 0 0 hI
   have q1:=a2 p.length 0 1 hI
   simp only[uy]at q0 q1
   have l0:∀g,Ext h g→bS false 1 (ad p.length 0) g=some (.str b.1.1):=fun g hg'=>(a3 g fun i c q=>hg' _ _ (xB i c q)).1 p.length 0 _ hI (by
    rw[wD,show wg x.fs=x.fs.flatMap Hg from rfl,yg yr hb (by omega)];rfl)
   have l1:∀g,Ext h g→bS false 1 (ad p.length 1) g=some b.2:=fun g hg'=>(a3 g fun i c q=>hg' _ _ (xB i c q)).1 p.length 1 _ hI (by
    rw[wD,show wg x.fs=x.fs.flatMap Hg from rfl,yg yr hb (by omega)];rfl)
   obtain⟨h1,k1,x1,f1,n1⟩:=HG h (by omega) S v w l (k3.sd.mono xB) gS (ad p.length 0) b.1 b.2 (fun g=>a4 p.length 0 g hI) _ _ q0 q1 l0 l1 ((k3.ox.rf.vec b hm).1.mono fun i c q=>xB i c q) (fv b.1 (by rw[←k3.ox.hf];exact Qy.2 ⟨b,hm,rfl⟩))
   have e6:(uQ x)[6]?=some x.vf:=rfl
   have w1:(((p++[b]).length:Nat):Int)=(p.length:Int)+1:=by simp
   have o1:vr 1 h1 ov acc.length (wT acc):=by
    obtain⟨a,⟨b1,b2⟩|⟨j,b1,b2,b3,b4⟩⟩:=o
    · exact⟨a,.inl ⟨b1,b2⟩⟩
    · exact⟨a,.inr ⟨j,b1,x1 _ _ b2,by omega,b4⟩⟩
   have hg1:=x1 _ _ hg
   have low1:∀i c,i≠O→G.get i=some c→h1.get i=some c:=fun i c c2 q=>x1 _ _ (low i c c2 q)
   rw[Qz,HZ]
   cases hk:zD (l.map (·.1)) b.1 with
   | true =>
     rw[hk]at k1
     rw[if_pos rfl]
     obtain⟨e',h',ov',r1,r2,r3,r4,r5,r6,r7,r8⟩:=AM k3 fl6 fv q (p++[b]) (by rw[hp];simp) h1 ov acc low1 (by omega) (by omega) hg1 o1 ho (by simp;omega)
     rw[w1]at r1
     refine⟨e',h',ov',sP ?_ r1,r2,r3,r4,r5,r6,r7,r8⟩
     clear r1 r3 r7 r8 low low1 o o1 a1 a2 a3 a4 l0 l1 hp xB x1
     generalize uQ x=X at *
     simp (disch:=omega)only[go_sem,uX,AP.f302L0,gM,e6,b1,k1]
   | false =>
     rw[hk]at k1
     rw[if_neg (by decide)]
     obtain⟨v',h2,p1,p2,p3,p4,p5,p6⟩:=o1.push (by omega) (z:=16) (m:=1) (by omega) (by omega) [.str b.1.1] rfl rfl (by simp [roomy];omega)
     have ea:wT acc++[.str b.1.1]=wT (acc++[b.1.1]):=by rw[GM];rfl
     have el:acc.length+1=(acc++[b.1.1]).length:=by simp
     rw[ea,el]at p2
     have sv:=p2.sc
     have cv:=wK sv
     have hO:=h1.lt _ _ hg1
     have oO:ov.id?≠some O:=fun q2=>by have:=ho O q2;omega
     have g2:h2.get O=some (uQ {y with vn:=ov}):=by rw[p5 O oO hO];exact hg1
     obtain⟨h3,eh3⟩:∃g,g=h2.set O (uQ {y with vn:=v'}):=⟨_,rfl⟩
     have st:tD h2 O 7 1 [v'] (some (uQ {y with vn:=ov}))=some h3:=by rw[tV (by omega) (by show 7<9;omega) sv,eh3];rfl
     have g3:h3.get O=some (uQ {y with vn:=v'}):=by rw[eh3,uZ rfl,g2];rfl
     have vj:∀j,v'.id?=some j→j=h1.next+1:=fun j q2=>by rw[p6]at q2;exact(ue q2).symm
     obtain⟨e',h',ov',r1,r2,r3,r4,r5,r6,r7,r8⟩:=AM k3 fl6 fv q (p++[b]) (by rw[hp];simp) h3 v' (acc++[b.1.1])
      (fun i c c2 q3=>by have:=G.lt _ _ q3;rw[eh3,uU c2,p5 i (fun q2=>by have:=ho i q2;omega) (by omega)];exact low1 i c c2 q3) (by rw[eh3];simp;omega) (by rw[eh3];simp;omega) g3
      (p2.mono (by rw[eh3];simp) fun i q2=>by have:=vj i q2;rw[eh3,uU (by omega)]) (fun j q2=>by have:=vj j q2;omega) (by simp;omega)
     rw[w1]at r1
     rw[List.append_assoc,List.singleton_append]at r7
     refine⟨e',h',ov',sP ?_ r1,r2,r3,r4,r5,r6,r7,r8⟩
     have e7:(uQ {y with vn:=ov})[7]?=some ov:=rfl
     have gM1:=x1 _ _ gM
     have m0:=l0 h1 x1
     clear r1 r3 r7 r8 low low1 o o1 a1 a2 a3 a4 l0 l1 hp xB x1 p2 p5
     generalize uQ x=X at *
     generalize uQ {y with vn:=ov}=Y1 at *
     generalize uQ {y with vn:=v'}=Y2 at *
     simp (disch:=omega)only[go_sem,uX,AP.f302L0,gM,e6,b1,k1,hg1,e7,gM1,q0,m0,p1,g2,cv,st]
theorem MA {B G:H} {S M O:Nat} {v w:AV} {l:List vh} {x y:vL} (k3:E4 B G S M O v w l x) (fl6:x.fs.length≤6) (fv:∀b∈x.m.u3,w8 b.2=true) (gO:G.get O=some (uQ y)) (y0:y.vn=.aO):
 ∃ h' ov, aQ AP.A 302 [.aC S 0, .aC M 0, .aC O 0] G = some (.bool (decide (0 < (wP (l.map (·.1)) x.m.u3).length)), h') ∧ (∀ i c, i ≠ O → G.get i = some c → h'.get i = some c) ∧ G.next ≤ h'.next ∧ h'.floor = G.floor ∧
   h'.get O=some (uQ {y with m:={y.m with kind:=3},vn:=ov})∧vr 1 h' ov (wP (l.map (·.1)) x.m.u3).length (wT (wP (l.map (·.1)) x.m.u3))∧∀j,ov.id?=some j→G.next≤j:=by
 have fO:=k3.fO
 obtain⟨h1,eh1⟩:∃g,g=G.set O (uQ {y with m:={y.m with kind:=3}}):=⟨_,rfl⟩
 have AZ:tD G O 0 1 [.int .i64 3] (some (uQ y))=some h1:=by rw[tV (by omega) (by show 0<9;omega) rfl,eh1];rfl
 have g1:h1.get O=some (uQ {y with m:={y.m with kind:=3}}):=by rw[eh1,uZ rfl,gO];rfl
 have low1:∀i c,i≠O→G.get i=some c→h1.get i=some c:=fun i c c2 q=>by rw[eh1,uU c2];exact q
 obtain⟨_,gM1⟩:=k3.S_ low1
 obtain⟨e',h',ov,r1,r2,r3,r4,r5,r6,r7,r8⟩:=AM (y:={y with m:={y.m with kind:=3}}) k3 fl6 fv x.fs [] rfl h1 .aO [] low1 (by rw[eh1];simp) (by rw[eh1];simp) (by rw[g1,←y0]) vr.nil (fun j q=>by cases q) (ur _)
 have r1':Lp AP.A [0,1,2,15,16] AP.f302L0 [(0,.aC S 0),(1,.aC M 0),(2,.aC O 0),(15,.int .i64 x.fs.length),(16,.int .i64 0)] h1=some (.exit 0,e',h'):=r1
 rw[List.nil_append,k3.ox.hf]at r7
 refine⟨h',ov,ta (fn:=AP.f302) (h2:=h') (e:=[(6,.bool (decide (0<(wP (l.map (·.1)) x.m.u3).length)))]) (vs:=[.bool (decide (0<(wP (l.map (·.1)) x.m.u3).length))]) rfl rfl rfl ?_ rfl,r3,r4,r5,r6,r7,r8⟩
 have lf:=k3.ox.rf.rd.len
 have lw:=r7.rd.len
 have e6:(uQ x)[6]?=some x.vf:=rfl
 have e7:(uQ {y with m:={y.m with kind:=3},vn:=ov})[7]?=some ov:=rfl
 have r6':h'.get O=some (uQ {y with m:={y.m with kind:=3},vn:=ov}):=r6
 clear r1 r3 r7 r8 low1 eh1 r6
 generalize (wP (l.map (·.1)) x.m.u3).length=N at *
 generalize uQ x=X at *
 generalize uQ y=Y at *
 generalize uQ {y with m:={y.m with kind:=3},vn:=ov}=Y2 at *
 by_cases c:0<N<;>simp (disch:=omega)only[go_sem,uX,AP.f302,gO,AZ,gM1,e6,lf,rH,r1',r2,r6',e7,lw]
def yl (L:List vv) (ns:List ByteArray):List vv:=ns.filterMap fun s=>if(vq s L).2 then L[(vq s L).1]? else none
theorem Mu (L:List vv) (s:ByteArray) (ns:List ByteArray):yl L (s::ns)=(match (if(vq s L).2 then L[(vq s L).1]? else none)with|some e=>[e]|none=>[])++yl L ns:=by
 unfold yl
 rw[List.filterMap_cons]
 split<;>rename_i h<;>rw[h]<;>rfl
theorem AD {B G : H} {S M O : Nat} {v w : AV} {l : List vh} {x y : vL} (k3 : E4 B G S M O v w l x) (nl6 : x.m.names.length ≤ 6) : ∀ (q p : List ByteArray), x.m.names = p ++ q → ∀ (h : H) (ov : AV) (acc : List vh), (∀ i c, i ≠ O → G.get i = some c → h.get i = some c) → G.next ≤ h.next → h.floor = G.floor → h.get O = some (uQ { y with ve := ov }) →
 WE G.next h ov acc→acc.length≤p.length→
 ∃ e' h' ov' acc', Lp AP.A [0, 2, 17, 18, 19] AP.f303L0 [(0, .aC S 0), (2, .aC O 0), (17, x.vn), (18, .int .i64 x.m.names.length), (19, .int .i64 p.length)] h = some (.exit 0, e', h') ∧ look e' 2 = .aC O 0 ∧
   (∀i c,i≠O→G.get i=some c→h'.get i=some c)∧G.next≤h'.next∧h'.floor=G.floor∧h'.get O=some (uQ {y with ve:=ov'})∧WE G.next h' ov' acc'∧acc'.map (·.1)=acc.map (·.1)++yl (l.map (·.1)) q∧acc'.length≤x.m.names.length
 | [], p, hp, h, ov, acc, low, hn, hf, hg, o, ha => by
   rw[Qv]at hp
   have e:x.m.names.length=p.length:=by rw[hp]
   refine⟨[(0,.aC S 0),(2,.aC O 0),(17,x.vn),(18,.int .i64 x.m.names.length),(19,.int .i64 p.length),(20,.bool false)],h,ov,acc,sN ?_,rfl,low,hn,hf,hg,o,by simp [yl],by omega⟩
   rw[e]
   clear low o
   simp (disch:=omega)only[go_sem,uX,AP.f303L0]
 | s :: q, p, hp, h, ov, acc, low, hn, hf, hg, o, ha => by
   have hlen:x.m.names.length=p.length+(q.length+1):=by rw[hp];simp
   have xB:=k3.ext low
   obtain⟨gS,gM⟩:=k3.S_ low
   have fG:=k3.fG
   have fO:=k3.fO
   have ON:=k3.ON
   obtain⟨nd,a1,_,a3⟩:=k3.ox.rn.z9
   have b1:=a1 p.length ⟨by omega,by omega⟩
   have b2:=a3 h xB p.length s (by rw[hp];simp)
   have sd:=k3.sd.mono xB
   have k1:=Ih h S 0 v gS rfl l sd.len sd.rd (fun x hx=>(sd.ok x hx).2) s (Gs (wR sd.fo))
   have w1:(((p++[s]).length:Nat):Int)=(p.length:Int)+1:=by simp
   rw[Mu]
   cases hp2:(vq s (l.map (·.1))).2 with
   | false =>
     rw[hp2]at k1
     rw[if_neg (by decide)]
     obtain⟨e',h',ov',acc',r1,r2,r3,r4,r5,r6,r7,r8,r9⟩:=AD k3 nl6 q (p++[s]) (by rw[hp];simp) h ov acc low hn hf hg o (by simp;omega)
     rw[w1]at r1
     refine⟨e',h',ov',acc',sP ?_ r1,r2,r3,r4,r5,r6,r7,r8,r9⟩
     clear r1 r3 r7 r8 low o a1 a3 hp xB sd
     generalize (vq s (l.map (·.1))).1=K at *
     simp (disch:=omega)only[go_sem,uX,AP.f303L0,b1,b2,QH,k1]
   | true =>
     rw[hp2]at k1
     rw[if_pos rfl]
     have lt:=Ay _ _ hp2
     rw[Qr]at lt
     obtain⟨z,hz⟩:∃z,l[(vq s (l.map (·.1))).1]?=some z:=⟨l[(vq s (l.map (·.1))).1],by simp⟩
     have hz':(l.map (·.1))[(vq s (l.map (·.1))).1]?=some z.1:=by rw[uC,hz];rfl
     rw[hz']
     have hm:=ux hz
     obtain⟨ok,sc⟩:=sd.ok z hm
     have fz:=Ao sd.fo z.1 (Qy.2 ⟨z,hm,rfl⟩)
     obtain⟨ad,c1,c2⟩:=sd.rd.EZ
     obtain⟨pe,lz⟩:=c2 h (Ext.refl h) _ z hz
     have d1:=c1 (vq s (l.map (·.1))).1 ⟨by omega,by omega⟩
     obtain⟨h1,j,k2,gj,hj,x1,f1,n1⟩:=Ht h (by omega) z.1 z.2 sc ok fz.2.1
     have jn:=h1.lt _ _ gj
     obtain⟨E,hE⟩:∃E,E=uY z.1 (.aD j 0 4 1):=⟨_,rfl⟩
     have lE:E.length=9:=by rw[hE];rfl
     have cE:AV.aB E=true:=by rw[hE];exact wY rfl
     have fE:setFrom [.str ⟨#[]⟩,.bool false,.aO,.int .i64 0,.int .i64 0,.int .i64 0,.str ⟨#[]⟩,.int .i64 0,.int .i64 0] 0 E=E:=by rw[hE];rfl
     have o1:WE G.next h1 ov acc:=o.mono (by omega) fun i c1 c2 c3=>by
      rcases c3 with c3|⟨y2,hy2,c3⟩
      · obtain⟨_,⟨b1,_⟩|⟨j2,b1,b2,_⟩⟩:=o.own
        · rw[b1]at c3;cases c3
        · rw[b1]at c3;obtain rfl:=ue c3;rw[b2];exact x1 _ _ b2
      · obtain⟨_,_,j2,b1,b2,_⟩:=o.el y2 hy2
        rw[b1]at c3;obtain rfl:=ue c3;rw[b2];exact x1 _ _ b2
     have hg1:=x1 _ _ hg
     obtain⟨v',h2,p1,p2,p3,p4,p5,p6⟩:=o1.own.push (by omega) (z:=104) (m:=1) (by omega) (by omega) E (by rw[lE]) cE (by simp [roomy];omega)
     have ea:u9 acc++E=u9 (acc++[((z.1,.aD j 0 4 1):vh)]):=by rw[Al,hE]
     have el:acc.length+1=(acc++[((z.1,.aD j 0 4 1):vh)]).length:=by simp
     rw[ea,el]at p2
     have sv:=p2.sc
     have cv:=wK sv
     have hO:=h1.lt _ _ hg1
     have oO:ov.id?≠some O:=fun q2=>by have:=o.ge O q2;omega
     have g2:h2.get O=some (uQ {y with ve:=ov}):=by rw[p5 O oO hO];exact hg1
     obtain⟨h3,eh3⟩:∃g,g=h2.set O (uQ {y with ve:=v'}):=⟨_,rfl⟩
     have st:tD h2 O 8 1 [v'] (some (uQ {y with ve:=ov}))=some h3:=by rw[tV (by omega) (by show 8<9;omega) sv,eh3];rfl
     have g3:h3.get O=some (uQ {y with ve:=v'}):=by rw[eh3,uZ rfl,g2];rfl
     have vj:∀i,v'.id?=some i→i=h1.next+1:=fun i q2=>by rw[p6]at q2;exact(ue q2).symm
     have ovl:∀i,ov.id?=some i→i<h.next:=fun i q2=>(o.own.lt q2).2
     have w3:WE G.next h3 v' (acc++[(z.1,.aD j 0 4 1)]):=by
      refine⟨p2.mono (by rw[eh3];simp) fun i q2=>by have:=vj i q2;rw[eh3,uU (by omega)],fun i q2=>by have:=vj i q2;omega,fun y2 hy2=> ?_⟩
      rcases List.mem_append.1 hy2 with hy2|hy2
      · obtain⟨m1,m2,j2,t1,t2,t3,t4,t5⟩:=o1.el y2 hy2
        have:=h1.lt _ _ t2
        refine⟨m1,m2,j2,t1, ?_,t3,fun q2=>by have:=vj j2 q2;omega,by rw[eh3];simp;omega⟩
        rw[eh3,uU (by omega),p5 j2 t4 this];exact t2
      · obtain rfl:=QL.1 hy2
        refine⟨fz.2.2,fz.2.1,j,rfl, ?_,by omega,fun q2=>by have:=vj j q2;omega,by rw[eh3];simp;omega⟩
        rw[eh3,uU (by omega),p5 j (fun q2=>by have:=ovl j q2;omega) jn];exact gj
     obtain⟨e',h',ov',acc',r1,r2,r3,r4,r5,r6,r7,r8,r9⟩:=AD k3 nl6 q (p++[s]) (by rw[hp];simp) h3 v' (acc++[(z.1,.aD j 0 4 1)])
      (fun i c c2 q3=>by have:=G.lt _ _ q3;rw[eh3,uU c2,p5 i (fun q2=>by have:=o.ge i q2;omega) (by omega)];exact x1 _ _ (low i c c2 q3)) (by rw[eh3];simp;omega) (by rw[eh3];simp;omega) g3 w3 (by simp;omega)
     rw[w1]at r1
     rw[QG,List.append_assoc]at r8
     refine⟨e',h',ov',acc',sP ?_ r1,r2,r3,r4,r5,r6,r7,r8,r9⟩
     have e8:(uQ {y with ve:=ov})[8]?=some ov:=rfl
     rw[←hE]at k2
     have lz':bS true 9 (ad (vq s (l.map (·.1))).1 0) h=some (.agg (uY z.1 z.2)):=lz
     clear r1 r3 r7 r8 r9 low o o1 a1 a3 hp xB sd c1 c2 pe lz ok hz hz' hm w3 p2 p5 x1 ea hE k3
     generalize (vq s (l.map (·.1))).1=K at *
     generalize uY z.1 z.2=Z at *
     generalize uQ {y with ve:=ov}=Y1 at *
     generalize uQ {y with ve:=v'}=Y2 at *
     simp (disch:=omega)only[go_sem,uX,AP.f303L0,b1,b2,QH,k1,hg,e8,gS,d1,lz',k2,lE,cE,fE,p1,g2,cv,st,hg1]
theorem Mz {B G:H} {S M O:Nat} {v w:AV} {l:List vh} {x y:vL} (k3:E4 B G S M O v w l x) (nl6:x.m.names.length≤6) (gO:G.get O=some (uQ y)) (y0:y.ve=.aO):
 ∃ h' ov acc, aQ AP.A 303 [.aC S 0, .aC M 0, .aC O 0] G = some (.bool (decide (0 < (yl (l.map (·.1)) x.m.names).length)), h') ∧ (∀ i c, i ≠ O → G.get i = some c → h'.get i = some c) ∧ G.next ≤ h'.next ∧ h'.floor = G.floor ∧
   h'.get O=some (uQ {y with m:={y.m with kind:=4},ve:=ov})∧WE G.next h' ov acc∧acc.map (·.1)=yl (l.map (·.1)) x.m.names∧acc.length≤6:=by
 have fO:=k3.fO
 obtain⟨h1,eh1⟩:∃g,g=G.set O (uQ {y with m:={y.m with kind:=4}}):=⟨_,rfl⟩
 have AZ:tD G O 0 1 [.int .i64 4] (some (uQ y))=some h1:=by rw[tV (by omega) (by show 0<9;omega) rfl,eh1];rfl
 have g1:h1.get O=some (uQ {y with m:={y.m with kind:=4}}):=by rw[eh1,uZ rfl,gO];rfl
 have low1:∀i c,i≠O→G.get i=some c→h1.get i=some c:=fun i c c2 q=>by rw[eh1,uU c2];exact q
 obtain⟨_,gM1⟩:=k3.S_ low1
 obtain⟨e',h',ov,acc,r1,r2,r3,r4,r5,r6,r7,r8,r9⟩:=AD (y:={y with m:={y.m with kind:=4}}) k3 nl6 x.m.names [] rfl h1 .aO [] low1 (by rw[eh1];simp) (by rw[eh1];simp) (by rw[g1,←y0]) ⟨vr.nil,fun j q=>(by cases q),fun z hz=>(by cases hz)⟩ (ur _)
 have r1':Lp AP.A [0,2,17,18,19] AP.f303L0 [(0,.aC S 0),(2,.aC O 0),(17,x.vn),(18,.int .i64 x.m.names.length),(19,.int .i64 0)] h1=some (.exit 0,e',h'):=r1
 have r8':acc.map (·.1)=yl (l.map (·.1)) x.m.names:=r8
 have al:acc.length=(yl (l.map (·.1)) x.m.names).length:=by rw[←r8'];simp
 refine⟨h',ov,acc,ta (fn:=AP.f303) (h2:=h') (e:=[(6,.bool (decide (0<(yl (l.map (·.1)) x.m.names).length)))]) (vs:=[.bool (decide (0<(yl (l.map (·.1)) x.m.names).length))]) rfl rfl rfl ?_ rfl,r3,r4,r5,r6,r7,r8',by omega⟩
 have ln:=k3.ox.rn.DZ.len
 rw[vW]at ln
 have lw:=r7.own.rd.len
 rw[al]at lw
 have e7:(uQ x)[7]?=some x.vn:=rfl
 have e8:(uQ {y with m:={y.m with kind:=4},ve:=ov})[8]?=some ov:=rfl
 have r6':h'.get O=some (uQ {y with m:={y.m with kind:=4},ve:=ov}):=r6
 clear r1 r3 r7 r8 r8' low1 eh1 r6 al r9
 generalize (yl (l.map (·.1)) x.m.names).length=N at *
 generalize uQ x=X at *
 generalize uQ y=Y at *
 generalize uQ {y with m:={y.m with kind:=4},ve:=ov}=Y2 at *
 by_cases c:0<N<;>simp (disch:=omega)only[go_sem,uX,AP.f303,gO,AZ,gM1,e7,ln,rH,r1',r2,r6',e8,lw]
theorem Er (h:H) (k:Int):aQ AP.A 277 [.int .i64 k] h=some (if k=0 then .fn 300 [] []else if k=1 then .fn 301 [] []else if k=2 then .fn 302 [] []else if k=3 then .fn 303 [] []else .eM,h):=by
 by_cases h0:k=0
 · rw[if_pos h0]
   refine tB (fn:=AP.f277) (h2:=h.dU) (e:=[(2,.fn 300 [] [])]) rfl rfl rfl ?_ rfl rfl
   simp (disch:=omega)only[go_sem,uX,AP.f277]
 by_cases h1:k=1
 · rw[if_neg h0,if_pos h1]
   refine tB (fn:=AP.f277) (h2:=h.dU) (e:=[(2,.fn 301 [] [])]) rfl rfl rfl ?_ rfl rfl
   simp (disch:=omega)only[go_sem,uX,AP.f277]
 by_cases h2:k=2
 · rw[if_neg h0,if_neg h1,if_pos h2]
   refine tB (fn:=AP.f277) (h2:=h.dU) (e:=[(2,.fn 302 [] [])]) rfl rfl rfl ?_ rfl rfl
   simp (disch:=omega)only[go_sem,uX,AP.f277]
 by_cases h3:k=3
 · rw[if_neg h0,if_neg h1,if_neg h2,if_pos h3]
   refine tB (fn:=AP.f277) (h2:=h.dU) (e:=[(2,.fn 303 [] [])]) rfl rfl rfl ?_ rfl rfl
   simp (disch:=omega)only[go_sem,uX,AP.f277]
 · rw[if_neg h0,if_neg h1,if_neg h2,if_neg h3]
   refine tB (fn:=AP.f277) (h2:=h.dU) (e:=[(2,.eM)]) rfl rfl rfl ?_ rfl rfl
   simp (disch:=omega)only[go_sem,uX,AP.f277]
def yc (L:List vv) (m:yJ):Option yJ:=
 if m.kind=0 then(if vK (vw L)=m.root then none else some ⟨1,m.dst,m.src,0,vw L,[],[],[],[]⟩)
 else if m.kind=1 then(if wL L m.vJ=[]then none else some ⟨2,m.dst,m.src,0,[],wL L m.vJ,vP L (wL L m.vJ),[],[]⟩)
 else if m.kind=2 then(if wP L m.u3=[]then none else some ⟨3,m.dst,m.src,0,[],[],[],wP L m.u3,[]⟩)
 else if m.kind=3 then(if yl L m.names=[]then none else some ⟨4,m.dst,m.src,0,[],[],[],[],yl L m.names⟩)
 else none
def w9:yJ:=⟨0,0,0,0,[],[],[],[],[]⟩
def wG (L:List vv) (m:yJ):yJ×Bool×Int:=
 if vQ L=true∧xU m=true then((yc L m).getD w9,(yc L m).isSome,0)else(w9,false,2200)
theorem Ej (h:H):zW h u5:=⟨⟨rfl,fun s q=>(by cases q)⟩,⟨rfl,fun s q=>(by cases q)⟩,⟨⟨rfl,rfl,fun s q=>(by cases q)⟩,fun y hy=>(by cases hy)⟩,rfl,⟨rfl,fun s q=>(by cases q)⟩,⟨rfl,rfl,fun s q=>(by cases q)⟩,rfl,fun y hy=>(by cases hy),fun y hy=>(by cases hy),⟨rfl,rfl,rfl,rfl,rfl⟩,by decide,by decide,by decide,by decide,by decide,⟨fun s hs=>(by cases hs),fun s hs=>(by cases hs)⟩⟩
theorem Ek (B:Nat) (h:H):WM B h u5:=.d (.inl rfl) rfl rfl rfl rfl
structure O0 (h h':H) (y:vL):Prop where
 ok:zW h' y
 wm:WM h.next h' y
 ext:Ext h h'
 fl:h'.floor=h.floor
 nx:h.next≤h'.next
theorem D3 {h:H} {v:AV} {l:List Int} (o:vr 1 h v l.length (ints l)):Rd h v (ints l):=by
 have:=o.rd
 exact⟨by rw[o9];exact this.1,this.2.2⟩
theorem xZ (h:H):Rd h .aO []:=⟨rfl,fun s q=>(by cases q)⟩
theorem z6 (n:Nat) (h:H):wv n h .aO 0 []:=⟨rfl,by simp,fun s q=>(by cases q)⟩
theorem B6 (h:H):GY h .aO []:=⟨z6 2 h,fun y hy=>(by cases hy)⟩
theorem Gq {L:List vv} {ns:List ByteArray} {e:vv} (h:e∈yl L ns):e∈L:=by
 unfold yl at h
 obtain⟨s,_,hs⟩:=List.mem_filterMap.1 h
 split at hs
 · exact ux hs
 · cases hs
theorem Cm:AP.f240.body=.seq (at_ 0 AP.f240.body) (.seq (at_ 1 AP.f240.body) (.seq (at_ 2 AP.f240.body) (.seq (at_ 3 AP.f240.body) (.seq (at_ 4 AP.f240.body) (DF 5 AP.f240.body))))):=rfl
theorem Fe {h6 h7:H} {v w:AV} {R O M P f:Nat} {b:Bool} {y:vL} {H5:H} (e6:H5.alloc [v,w]=h6) (sv:v.sc=true) (sw:w.sc=true) (gP:H5.get P=some [v]) (k:aQ AP.A f [.aC H5.next 0,.aC M 0,.aC O 0] h6=some (.bool b,h7)) (gO:h7.get O=some (uQ y)) (gR:h7.get R=some (uQ u5)) (fR:h7.floor≤R) (cy:AV.aB (uQ y)=true):
 ∃e,aK (aQ AP.A) bA (DF 5 AP.f240.body) [(2,.aC P 0),(3,.aC M 0),(4,.aC R 0),(7,w),(9,.aC O 0),(10,.fn f [] [])] H5=some (.ret,e,if b then h7.set R (uQ y)else h7.set R (uQ u5))∧look e 4=.aC R 0∧look e 5=.bool b∧look e 6=.int .i64 0:=by
 have cw:=wK sw
 have tP:List.take 1 [v]=[v]:=rfl
 have Kr:fu 2 (.fn f [] []) .eM=some false:=rfl
 have z0:([.int .i64 0,.int .i64 0,.int .i64 0,.int .i64 0,.aO,.aO,.aO,.aO,.aO]:List AV)=uQ u5:=rfl
 have cz:AV.aB (uQ u5)=true:=rfl
 have AZ:tD h7 R 0 9 (uQ u5) (some (uQ u5))=some (h7.set R (uQ u5)):=vE fR rfl rfl cz
 have st2:tD h7 R 0 9 (uQ y) (some (uQ u5))=some (h7.set R (uQ y)):=vE fR rfl rfl cy
 have ly:(uQ y).length=9:=rfl
 have ty:List.take 9 (uQ y)=uQ y:=rfl
 cases b with
 | false =>
   refine⟨[(4,.aC R 0),(5,.bool false),(6,.int .i64 0)], ?_,rfl,rfl,rfl⟩
   rw[if_neg (by decide)]
   generalize uQ u5=Z at *
   generalize uQ y=Y at *
   simp (disch:=omega)only[go_sem,uX,AP.f240,AO,AQ,Kr,gP,wo,sv,sw,cw,e6,k,nr,z0,gR,AZ]
 | true =>
   refine⟨[(4,.aC R 0),(5,.bool true),(6,.int .i64 0)], ?_,rfl,rfl,rfl⟩
   rw[if_pos rfl]
   generalize uQ u5=Z at *
   generalize uQ y=Y at *
   simp (disch:=omega)only[go_sem,uX,AP.f240,AO,AQ,Kr,gP,wo,sv,sw,cw,e6,k,nr,gO,D0,vM,ly,ty,Qs,gR,st2]
set_option maxHeartbeats 8000000 in
theorem H6 (h : H) (hf : h.floor ≤ h.next) (v : AV) (l : List vh) (sv : v.sc = true) (hn : l.length < 1125899906842624) (rd : wv 9 h v l.length (u9 l)) (hv : ∀ x ∈ l, wM h x ∧ x.2.sc = true) (x : vL) (ox : zW h x) :
 ∃y h',aQ AP.A 240 [.agg [v],.agg (uQ x)] h=some (.bO [.agg (uQ y),.bool (wG (l.map (·.1)) x.m).2.1,.int .i64 (wG (l.map (·.1)) x.m).2.2],h')∧y.m=(wG (l.map (·.1)) x.m).1∧O0 h h' y:=by
 obtain⟨h1,eh1⟩:∃g,g=h.alloc [v]:=⟨_,rfl⟩
 obtain⟨h2,eh2⟩:∃g,g=h1.alloc (uQ x):=⟨_,rfl⟩
 obtain⟨h3,eh3⟩:∃g,g=h2.alloc (uQ u5):=⟨_,rfl⟩
 have n1:h1.next=h.next+1:=by rw[eh1];simp
 have n2:h2.next=h.next+2:=by rw[eh2];simp [n1]
 have n3:h3.next=h.next+3:=by rw[eh3];simp [n2]
 have f3:h3.floor=h.floor:=by rw[eh3,eh2,eh1];simp
 have x3:Ext h h3:=by rw[eh3,eh2,eh1];exact(((Ext.refl h).alloc _).alloc _).alloc _
 have gP:h3.get h.next=some [v]:=by rw[eh3,u6 (by omega),eh2,u6 (by omega),eh1,uW rfl]
 have gM:h3.get (h.next+1)=some (uQ x):=by rw[eh3,u6 (by omega),eh2,uW (by omega)]
 have gR:h3.get (h.next+2)=some (uQ u5):=by rw[eh3,uW (by omega)]
 have cx:=xV ox
 have lx:(uQ x).length=9:=rfl
 have b0:aK (aQ AP.A) bA (at_ 0 AP.f240.body) (params 0 [.agg [v],.agg (uQ x)]) h=some (.normal,[(2,.aC h.next 0),(3,.aC (h.next+1) 0),(4,.aC (h.next+2) 0)],h3):=by
  have z:h2.alloc [.int .i64 0,.int .i64 0,.int .i64 0,.int .i64 0,.aO,.aO,.aO,.aO,.aO]=h3:=eh3.symm
  clear ox rd hv x3
  generalize uQ x=X at *
  simp (disch:=omega)only[go_sem,uX,AP.f240,vB,sv,←eh1,lx,cx,n1,←eh2,n2,z]
 obtain⟨w,h4,k1,g4⟩:=Dv h3 (by omega) v l sv hn (rd.mono fun i c q=>x3 i c q) (fun z hz=>⟨(hv z hz).1.mono x3,(hv z hz).2⟩)
 have x4:=g4.ext
 have n4:=g4.nx
 have f4:=g4.fl
 have sw:=g4.own.sc
 have gP4:=x4 _ _ gP
 have gM4:=x4 _ _ gM
 have gR4:=x4 _ _ gR
 have xh4:Ext h h4:=fun i c q=>x4 _ _ (x3 _ _ q)
 have b1:aK (aQ AP.A) bA (at_ 1 AP.f240.body) [(2,.aC h.next 0),(3,.aC (h.next+1) 0),(4,.aC (h.next+2) 0)] h3=some (.normal,[(2,.aC h.next 0),(3,.aC (h.next+1) 0),(4,.aC (h.next+2) 0),(7,w),(8,.int .i64 (if vQ (l.map (·.1))then 0 else 1600))],h4):=by
  clear ox rd hv x3 x4 g4 xh4
  generalize (if vQ (l.map (·.1))=true then(0:Int)else 1600)=E at *
  simp (disch:=omega)only[go_sem,uX,AP.f240,vG,vB,gP,wo,k1]
 have ox4:=ox.mono xh4
 have km:=Mj h4 x ox4
 have tX:List.take 9 (uQ x)=uQ x:=rfl
 by_cases ok:vQ (l.map (·.1))=true∧xU x.m=true
 case neg=>
  have eR:wG (l.map (·.1)) x.m=(w9,false,2200):=by unfold wG;rw[if_neg ok]
  rw[eR]
  obtain⟨h5,eh5⟩:∃g,g=h4.set (h.next+2) (uQ u5):=⟨_,rfl⟩
  have e5:h5=h4:=by rw[eh5];exact H.jz gR4
  have st:tD h4 (h.next+2) 0 9 (uQ u5) (some (uQ u5))=some h4:=by rw[vE (n:=9) (by omega) rfl rfl rfl,←eh5,e5]
  refine⟨u5,h4,ta (fn:=AP.f240) (h2:=h4) (e:=[(4,.aC (h.next+2) 0),(5,.bool false),(6,.int .i64 2200)]) (vs:=[.agg (uQ u5),.bool false,.int .i64 2200]) rfl rfl rfl ?_ (by simp only[AP.f240,cJ,mP,mD,kQ,ne_eq,Nat.reduceEqDiff,not_false_eq_true,qk,gR4,sI];rfl),rfl,Ej h4,Ek _ _,xh4,by omega,by omega⟩
  rw[Cm,rk,b0,r0,rk,b1,r0]
  have z0:([.int .i64 0,.int .i64 0,.int .i64 0,.int .i64 0,.aO,.aO,.aO,.aO,.aO]:List AV)=uQ u5:=rfl
  have cz:AV.aB (uQ u5)=true:=rfl
  by_cases c1:vQ (l.map (·.1))=true
  · have c2:xU x.m=false:=by
     cases q:xU x.m with
     |false=>rfl
     |true=>exact absurd ⟨c1,q⟩ ok
    rw[c2]at km
    rw[if_pos c1]
    clear ox rd hv x3 x4 g4 xh4 ox4 b0 b1
    generalize uQ x=X at *
    generalize uQ u5=Z at *
    simp (disch:=omega)only[go_sem,uX,AP.f240,vG,vB,gM4,D0,vM,lx,tX,Qs,km,z0,gR4,st]
  · rw[if_neg c1]
    clear ox rd hv x3 x4 g4 xh4 ox4 b0 b1
    generalize uQ x=X at *
    generalize uQ u5=Z at *
    simp (disch:=omega)only[go_sem,uX,AP.f240,vG,vB,z0,gR4,st]
 case pos=>
  obtain⟨c1,c2⟩:=ok
  rw[if_pos c1]at b1
  rw[c2]at km
  simp only[c1,if_true]at g4
  rw[vm]at g4
  have eR:wG (l.map (·.1)) x.m=((yc (l.map (·.1)) x.m).getD w9,(yc (l.map (·.1)) x.m).isSome,0):=by unfold wG;rw[if_pos ⟨c1,c2⟩]
  rw[eR]
  have b2:aK (aQ AP.A) bA (at_ 2 AP.f240.body) [(2,.aC h.next 0),(3,.aC (h.next+1) 0),(4,.aC (h.next+2) 0),(7,w),(8,.int .i64 0)] h4=some (.normal,[(2,.aC h.next 0),(3,.aC (h.next+1) 0),(4,.aC (h.next+2) 0),(7,w)],h4):=by
   clear ox rd hv x3 x4 g4 xh4 ox4 b0 b1
   generalize uQ x=X at *
   simp (disch:=omega)only[go_sem,uX,AP.f240,vG,vB,gM4,D0,vM,lx,tX,Qs,km]
  obtain⟨y0,hy0⟩:∃y:vL,y=⟨⟨0,x.m.dst,x.m.src,0,[],[],[],[],[]⟩,.aO,.aO,.aO,.aO,.aO,[],[]⟩:=⟨_,rfl⟩
  obtain⟨h5,eh5⟩:∃g,g=(h4.alloc (uQ u5)).set h4.next (uQ y0):=⟨_,rfl⟩
  have ga:(h4.alloc (uQ u5)).get h4.next=some (uQ u5):=uW rfl
  have n5:h5.next=h4.next+1:=by rw[eh5];simp
  have f5:h5.floor=h.floor:=by rw[eh5];simp;omega
  have x5:Ext h4 h5:=fun i c q=>by have:=h4.lt _ _ q;rw[eh5,uU (by omega),u6 (by omega)];exact q
  have g5:h5.get h4.next=some (uQ y0):=by rw[eh5,uZ rfl,ga];rfl
  have st5:tD (h4.alloc (uQ u5)) h4.next 0 9 (uQ y0) (some (uQ u5))=some h5:=by rw[eh5];exact vE (by simp;omega) rfl rfl (by rw[hy0];rfl)
  have b3:aK (aQ AP.A) bA (at_ 3 AP.f240.body) [(2,.aC h.next 0),(3,.aC (h.next+1) 0),(4,.aC (h.next+2) 0),(7,w)] h4=some (.normal,[(2,.aC h.next 0),(3,.aC (h.next+1) 0),(4,.aC (h.next+2) 0),(7,w),(9,.aC h4.next 0)],h5):=by
   have e1:(uQ x)[1]?=some (.int .i64 x.m.src):=rfl
   have e2:(uQ x)[2]?=some (.int .i64 x.m.dst):=rfl
   have z0:([.int .i64 0,.int .i64 0,.int .i64 0,.int .i64 0,.aO,.aO,.aO,.aO,.aO]:List AV)=uQ u5:=rfl
   have zy:dV (uQ u5) [(1,1,.int .i64 x.m.dst),(2,1,.int .i64 x.m.src)]=some (uQ y0):=by rw[hy0];rfl
   have cz:AV.aB (uQ u5)=true:=rfl
   clear ox rd hv x3 x4 g4 xh4 ox4 b0 b1 b2 x5 hy0 tX
   generalize uQ x=X at *
   generalize uQ u5=Z at *
   generalize uQ y0=Y at *
   simp (disch:=omega)only[go_sem,AP.f240,vG,vB,gM4,e1,e2,z0,zy,cz,xE,vM,Af,Qz,List.map_nil,ga,st5,uy,uZ,uU,uW,u6]
  have ka:=Er h5 x.m.kind
  have gM5:=x5 _ _ gM4
  have e0:(uQ x)[0]?=some (.int .i64 x.m.kind):=rfl
  have b4:∀fv,aQ AP.A 277 [.int .i64 x.m.kind] h5=some (fv,h5)→aK (aQ AP.A) bA (at_ 4 AP.f240.body) [(2,.aC h.next 0),(3,.aC (h.next+1) 0),(4,.aC (h.next+2) 0),(7,w),(9,.aC h4.next 0)] h5=some (.normal,[(2,.aC h.next 0),(3,.aC (h.next+1) 0),(4,.aC (h.next+2) 0),(7,w),(9,.aC h4.next 0),(10,fv)],h5):=fun fv q=>by
   clear ox rd hv x3 x4 g4 xh4 ox4 b0 b1 b2 b3 x5 hy0 tX ka
   generalize uQ x=X at *
   simp (disch:=omega)only[go_sem,uX,AP.f240,vG,vB,gM5,e0,q]
  have hb:∀fv,aQ AP.A 277 [.int .i64 x.m.kind] h5=some (fv,h5)→aK (aQ AP.A) bA AP.f240.body (params 0 [.agg [v],.agg (uQ x)]) h=aK (aQ AP.A) bA (DF 5 AP.f240.body) [(2,.aC h.next 0),(3,.aC (h.next+1) 0),(4,.aC (h.next+2) 0),(7,w),(9,.aC h4.next 0),(10,fv)] h5:=fun fv q=>by
   rw[Cm,rk,b0,r0,rk,b1,r0,rk,b2,r0,rk,b3,r0,rk,b4 fv q,r0]
   rfl
  obtain⟨h6,eh6⟩:∃g,g=h5.alloc [v,w]:=⟨_,rfl⟩
  have x6:Ext h5 h6:=by rw[eh6];exact(Ext.refl _).alloc _
  have n6:h6.next=h4.next+2:=by rw[eh6];simp [n5]
  have f6:h6.floor=h.floor:=by rw[eh6];simp [f5]
  have rdW:Rd h4 w (ints (vw (l.map (·.1)))):=D3 (by rw[vm];exact g4.own)
  have sd:Sd h4 v w l:=⟨rd.mono fun i c q=>xh4 i c q,fun z hz=>⟨(hv z hz).1.mono xh4,(hv z hz).2⟩,c1,rdW⟩
  have k3:E4 h4 h6 h5.next (h.next+1) h4.next v w l x:=⟨sd,ox4,by rw[eh6,uW rfl],x6 _ _ gM5,⟨by omega,by omega⟩,fun i c q=>x6 _ _ (x5 _ _ q),ur _,by omega,by omega,by omega⟩
  have gO6:=x6 _ _ g5
  have gR6:=x6 _ _ (x5 _ _ gR4)
  have gP5:=x5 _ _ gP4
  have fin:∀{b:Bool} {h7:H} {y:vL} {f:Nat},aQ AP.A 277 [.int .i64 x.m.kind] h5=some (.fn f [] [],h5)→aQ AP.A f [.aC h5.next 0,.aC (h.next+1) 0,.aC h4.next 0] h6=some (.bool b,h7)→h7.get h4.next=some (uQ y)→(∀i c,i≠h4.next→h6.get i=some c→h7.get i=some c)→h6.next≤h7.next→h7.floor=h6.floor→AV.aB (uQ y)=true→
   ∃h',aQ AP.A 240 [.agg [v],.agg (uQ x)] h=some (.bO [.agg (uQ (if b then y else u5)),.bool b,.int .i64 0],h')∧(∀i c,i≠h.next+2→h7.get i=some c→h'.get i=some c)∧h'.floor=h.floor∧h'.next=h7.next:=fun {b h7 y f} qa qf qO ql qn qfl qc=>by
   have gR7:=ql _ _ (by omega) gR6
   obtain⟨e,t1,t2,t3,t4⟩:=Fe (P:=h.next) (M:=h.next+1) (O:=h4.next) eh6.symm sv sw gP5 qf qO gR7 (by omega) qc
   refine⟨if b then h7.set (h.next+2) (uQ y)else h7.set (h.next+2) (uQ u5),ta (fn:=AP.f240) (h2:=if b then h7.set (h.next+2) (uQ y)else h7.set (h.next+2) (uQ u5)) (e:=e) (vs:=[.agg (uQ (if b then y else u5)),.bool b,.int .i64 0]) rfl rfl rfl (by rw[hb _ qa,t1]) ?_,fun i c q1 q2=> ?_, ?_, ?_⟩
   · cases b with
     | true =>
       have gg:(h7.set (h.next+2) (uQ y)).get (h.next+2)=some (uQ y):=by rw[uZ rfl,gR7];rfl
       simp only[AP.f240,cJ,mP,t2,t3,t4,if_true,qk,gg,sI];rfl
     | false =>
       have gg:(h7.set (h.next+2) (uQ u5)).get (h.next+2)=some (uQ u5):=by rw[uZ rfl,gR7];rfl
       simp only[AP.f240,cJ,mP,t2,t3,t4,uo,uO,qk,gg,sI];rfl
   · cases b<;>simp only[uo,if_true,uO]<;>rw[uU q1]<;>exact q2
   · cases b<;>simp [qfl,f6]
   · cases b<;>simp
  have none_fin:∀{h7:H} {h':H} (e:yJ×Bool×Int),e=(w9,false,0)→aQ AP.A 240 [.agg [v],.agg (uQ x)] h=some (.bO [.agg (uQ u5),.bool false,.int .i64 0],h')→Ext h h'→h'.floor=h.floor→h.next≤h'.next→
   ∃y h',aQ AP.A 240 [.agg [v],.agg (uQ x)] h=some (.bO [.agg (uQ y),.bool e.2.1,.int .i64 e.2.2],h')∧y.m=e.1∧O0 h h' y:=fun {h7 h'} e he q1 q2 q3 q4=>by
   subst he
   exact⟨u5,h',q1,rfl,Ej h',Ek _ _,q2,q3,q4⟩
  have xfin:∀{h7 h':H},(∀i c,i≠h4.next→h6.get i=some c→h7.get i=some c)→(∀i c,i≠h.next+2→h7.get i=some c→h'.get i=some c)→Ext h h':=fun a b i c q=>by
   have:=h.lt _ _ q
   exact b _ _ (by omega) (a _ _ (by omega) (x6 _ _ (x5 _ _ (xh4 _ _ q))))
  obtain⟨iw,ew,gw,fw,_⟩:∃i,w=.aD i 0 8 1∧h4.get i=some (ints (vw (l.map (·.1))))∧h4.floor≤i∧h3.next≤i:=by
   obtain⟨_,⟨_,q⟩|⟨i,q1,q2,q3,_⟩⟩:=g4.own
   · exact absurd q (by decide)
   · exact⟨i,q1,q2,q3,g4.ge i (by rw[q1];rfl)⟩
  have iwn:=h4.lt _ _ gw
  by_cases h0:x.m.kind=0
  · rw[if_pos h0]at ka
    have sd6:=sd.mono fun i c q=>x6 _ _ (x5 _ _ q)
    have ks:=GD h6 h5.next (h.next+1) h4.next v w l sd6 (by rw[eh6,uW rfl]) x y0 k3.gM gO6 (by omega) k3.ne sw
    have low:∀i c,i≠h4.next→h6.get i=some c→(h6.set h4.next (uQ {y0 with m:={y0.m with kind:=1},vd:=w})).get i=some c:=fun i c c2 q=>by rw[uU c2];exact q
    obtain⟨h',t1,t2,t3,t4⟩:=fin (y:={y0 with m:={y0.m with kind:=1},vd:=w}) ka ks (by rw[uZ rfl,gO6];rfl) low (by simp) (by simp) (by rw[hy0];simp [uQ,sw])
    have X':=xfin low t2
    have N':h.next≤h'.next:=by rw[t4];simp;omega
    by_cases c:vK (vw (l.map (·.1)))=x.m.root
    · rw[dt c,Bool.not_true,if_neg (by decide)]at t1
      refine none_fin (h7:=h6) _ ?_ t1 X' t3 N'
      unfold yc;rw[if_pos h0,if_pos c];rfl
    · rw[df c,Bool.not_false,if_pos rfl]at t1
      have ea:yc (l.map (·.1)) x.m=some ⟨1,x.m.dst,x.m.src,0,vw (l.map (·.1)),[],[],[],[]⟩:=by unfold yc;rw[if_pos h0,if_neg c]
      rw[ea]
      have gw':h'.get iw=some (ints (vw (l.map (·.1)))):=t2 _ _ (by omega) (low _ _ (by omega) (x6 _ _ (x5 _ _ gw)))
      refine⟨⟨⟨1,x.m.dst,x.m.src,0,vw (l.map (·.1)),[],[],[],[]⟩,w,.aO,.aO,.aO,.aO,[],[]⟩,h', ?_,rfl,⟨⟨?_,xZ _,B6 _,rfl,xZ _,z6 _ _,rfl,fun y hy=>(by cases hy),fun y hy=>(by cases hy),⟨sw,rfl,rfl,rfl,rfl⟩, ?_,by show(0:Nat)<_;omega,by show(0:Nat)<_;omega,by show(0:Nat)<_;omega,by show(0:Nat)<_;omega,⟨fun s hs=>(by cases hs),fun s hs=>(by cases hs)⟩⟩,.d (.inr ⟨iw, ?_,gw',by omega,by omega, ?_⟩) rfl rfl rfl rfl,X',t3,N'⟩⟩
      · rw[t1,hy0];rfl
      · rw[ew];exact Rd.obj gw' (vm _)
      · show(vw (l.map (·.1))).length<_;rw[vm];omega
      · show w=_;rw[ew,vm]
      · show(vw (l.map (·.1))).length<_;rw[vm];omega
  rw[if_neg h0]at ka
  by_cases h1:x.m.kind=1
  · rw [if_pos h1] at ka
    have l8:x.m.vJ.length=8:=by
     have:=c2
     unfold xU wO at this
     rw[if_neg h0,if_pos h1]at this
     simp only[uu,Qt]at this
     exact this.2.1.1
    obtain⟨h7,ov,ow,acc,ks,low,n7,f7,gO7,o1,o2,m2,g1,g2,g3⟩:=EV (y:=y0) k3 sv l8 gO6 (by rw[hy0])
    have s1:=o1.sc
    have s2:=o2.sc
    obtain⟨h',t1,t2,t3,t4⟩:=fin (y:={y0 with m:={y0.m with kind:=2},vb:=ov,vf:=ow}) ka ks gO7 low n7 f7 (by rw[hy0];simp [uQ,s1,s2])
    have X':=xfin low t2
    have N':h.next≤h'.next:=by rw[t4];omega
    obtain⟨U,hU⟩:∃U,U=wL (l.map (·.1)) x.m.vJ:=⟨_,rfl⟩
    rw[←hU]at t1 o1 m2
    by_cases c:U=[]
    · rw[c]at t1
      refine none_fin (h7:=h6) _ ?_ t1 X' t3 N'
      unfold yc;rw[if_neg h0,if_pos h1,←hU,if_pos c];rfl
    · have U0:0<U.length:=QK.2 c
      rw[dt U0,if_pos rfl]at t1
      have ea:yc (l.map (·.1)) x.m=some ⟨2,x.m.dst,x.m.src,0,[],U,vP (l.map (·.1)) U,[],[]⟩:=by unfold yc;rw[if_neg h0,if_pos h1,←hU,if_neg c]
      rw[ea]
      have Ul:U.length≤8:=by rw[hU];have:=yo (vw (l.map (·.1))) x.m.vJ 0;rw[vm]at this;exact this
      have o1':vr 1 h' ov U.length (ints U):=by
       obtain⟨a,⟨b1,b2⟩|⟨j,b1,b2,b3,b4⟩⟩:=o1
       · exact⟨a,.inl ⟨b1,b2⟩⟩
       · have:=g1 j (by rw[b1];rfl)
         exact⟨a,.inr ⟨j,b1,t2 _ _ (by omega) b2,by omega,b4⟩⟩
      have o2':vr 2 h' ow acc.length (wg acc):=by
       obtain⟨a,⟨b1,b2⟩|⟨j,b1,b2,b3,b4⟩⟩:=o2
       · exact⟨a,.inl ⟨b1,b2⟩⟩
       · have:=(g2 j (by rw[b1];rfl)).1
         exact⟨a,.inr ⟨j,b1,t2 _ _ (by omega) b2,by omega,b4⟩⟩
      have al:acc.length≤6:=by
       have:=QN List.length m2
       rw[Qr]at this
       have a2:=yM (l.map (·.1)) U
       have a3:=(vC (wR c1)).1
       omega
      have bsz:∀z∈acc,z.1.1.size≤8:=fun z hz=>by
       have:z.1∈vP (l.map (·.1)) U:=by rw[←m2];exact Qy.2 ⟨z,hz,rfl⟩
       unfold vP at this
       obtain⟨e,he,q⟩:=Qy.1 this
       rw[←q]
       exact(Ao c1 e ((List.mem_filter.1 he).1)).2.2
      have vz:∀z∈acc,z.1.2.length=4∧∃j,z.2=.aD j 0 4 1∧h'.get j=some (ints z.1.2)∧h.next≤j∧ow.id?≠some j∧ov.id?≠some j∧h'.floor≤j:=fun z hz=>by
       obtain⟨a1,j,a2,a3,a4,a5,a6,a7⟩:=g3 z hz
       exact⟨a1,j,a2,t2 _ _ (by omega) a3,by omega,a5,a6,by omega⟩
      refine⟨⟨⟨2,x.m.dst,x.m.src,0,[],U,vP (l.map (·.1)) U,[],[]⟩,.aO,ov,ow,.aO,.aO,acc,[]⟩,h', ?_,rfl,⟨⟨xZ _,D3 o1',⟨o2'.rd,fun z hz=> ?_⟩,m2,xZ _,z6 _ _,rfl,fun y hy=>(by cases hy),fun z hz=> ?_,⟨rfl,s1,s2,rfl,rfl⟩,by show(0:Nat)<_;omega,by show U.length<_;omega, ?_,by show(0:Nat)<_;omega,by show(0:Nat)<_;omega,⟨fun s hs=>(by cases hs),fun b hb=> ?_⟩⟩,.b ?_ ⟨o2',fun i q=>by have:=(g2 i q).1;omega,fun z hz=> ?_⟩ (by show acc.length≤1000;omega) (fun i q=> ?_) rfl rfl rfl,X',t3,N'⟩⟩
      · rw[t1,hy0];rfl
      · obtain⟨a1,j,a2,a3,_⟩:=vz z hz
        rw[a2]
        exact⟨Rd.obj a3 a1,by omega⟩
      · obtain⟨a1,j,a2,_⟩:=vz z hz
        rw[a2];rfl
      · have a2:=yM (l.map (·.1)) U
        have a3:=(vC (wR c1)).1
        show(vP (l.map (·.1)) U).length<_
        omega
      · have hb':b∈vP (l.map (·.1)) U:=hb
        rw[←m2]at hb'
        obtain⟨z,hz,rfl⟩:=Qy.1 hb'
        have:=bsz z hz
        omega
      · obtain⟨_,⟨b1,b2⟩|⟨j,b1,b2,b3,b4⟩⟩:=o1'
        · exact .inl b1
        · have:=g1 j (by rw[b1];rfl)
          exact .inr ⟨j,b1,b2,b3,by omega,by show U.length<_;omega⟩
      · obtain⟨a1,j,a2,a3,a4,a5,a6,a7⟩:=vz z hz
        exact⟨bsz z hz,a1,j,a2,a3,a4,a5,a7⟩
      · refine⟨fun q2=>(g2 i q2).2 q,fun z hz q2=> ?_⟩
        obtain⟨a1,j,a2,a3,a4,a5,a6,a7⟩:=vz z hz
        rw[a2]at q2
        obtain rfl:=ue q2
        exact a6 q
  rw[if_neg h1]at ka
  by_cases h2':x.m.kind=2
  · rw [if_pos h2'] at ka
    have fm:x.m.u3.length≤6∧(∀b∈x.m.u3,w8 b.2=true)∧∀b∈x.m.u3,b.1.size≤8:=by
     have:=c2
     unfold xU wO at this
     rw[if_neg h0,if_neg h1,if_pos h2']at this
     simp only[uu,Qt,QE]at this
     exact⟨this.2.1.2.2.2.1,this.2.1.2.2.2.2,fun b hb=>Br this.2.1.2.2.1 b.1 (Qy.2 ⟨b,hb,rfl⟩)⟩
    have fl6:x.fs.length≤6:=by
     have:x.fs.length=x.m.u3.length:=by rw[←ox.hf];simp
     omega
    obtain⟨h7,ov,ks,low,n7,f7,gO7,o1,g1⟩:=MA (y:=y0) k3 fl6 fm.2.1 gO6 (by rw[hy0])
    have s1:=o1.sc
    obtain⟨h',t1,t2,t3,t4⟩:=fin (y:={y0 with m:={y0.m with kind:=3},vn:=ov}) ka ks gO7 low n7 f7 (by rw[hy0];simp [uQ,s1])
    have X':=xfin low t2
    have N':h.next≤h'.next:=by rw[t4];omega
    obtain⟨U,hU⟩:∃U,U=wP (l.map (·.1)) x.m.u3:=⟨_,rfl⟩
    rw[←hU]at t1 o1
    by_cases c:U=[]
    · rw[c]at t1
      refine none_fin (h7:=h6) _ ?_ t1 X' t3 N'
      unfold yc;rw[if_neg h0,if_neg h1,if_pos h2',←hU,if_pos c];rfl
    · have U0:0<U.length:=QK.2 c
      rw[dt U0,if_pos rfl]at t1
      have ea:yc (l.map (·.1)) x.m=some ⟨3,x.m.dst,x.m.src,0,[],[],[],U,[]⟩:=by unfold yc;rw[if_neg h0,if_neg h1,if_pos h2',←hU,if_neg c]
      rw[ea]
      have Ul:U.length≤6:=by rw[hU];unfold wP;rw[Qr];exact uL (List.length_filter_le _ _) fm.1
      have Us:∀s∈U,s.size≤8:=fun s hs=>by
       rw[hU]at hs
       unfold wP at hs
       obtain⟨b,hb,rfl⟩:=Qy.1 hs
       exact fm.2.2 b (List.mem_filter.1 hb).1
      have o1':vr 1 h' ov U.length (wT U):=by
       obtain⟨a,⟨b1,b2⟩|⟨j,b1,b2,b3,b4⟩⟩:=o1
       · exact⟨a,.inl ⟨b1,b2⟩⟩
       · have:=g1 j (by rw[b1];rfl)
         exact⟨a,.inr ⟨j,b1,t2 _ _ (by omega) b2,by omega,b4⟩⟩
      have rN:Rd h' ov (wT U):=by
       have:=o1'.rd
       exact⟨by rw[vW];exact this.1,this.2.2⟩
      refine⟨⟨⟨3,x.m.dst,x.m.src,0,[],[],[],U,[]⟩,.aO,.aO,.aO,ov,.aO,[],[]⟩,h', ?_,rfl,⟨⟨xZ _,xZ _,B6 _,rfl,rN,z6 _ _,rfl,fun y hy=>(by cases hy),fun y hy=>(by cases hy),⟨rfl,rfl,rfl,s1,rfl⟩,by show(0:Nat)<_;omega,by show(0:Nat)<_;omega,by show(0:Nat)<_;omega,by show U.length<_;omega,by show(0:Nat)<_;omega,⟨fun s hs=>by have:=Us s hs;omega,fun s hs=>(by cases hs)⟩⟩,.n ?_ rfl rfl rfl rfl,X',t3,N'⟩⟩
      · rw[t1,hy0];rfl
      · obtain⟨_,⟨b1,b2⟩|⟨j,b1,b2,b3,b4⟩⟩:=o1'
        · exact .inl b1
        · have:=g1 j (by rw[b1];rfl)
          exact .inr ⟨j,b1,b2,b3,by omega,by show U.length<_;omega,fun s hs=>by have:=Us s hs;omega⟩
  rw[if_neg h2']at ka
  by_cases h3':x.m.kind=3
  · rw [if_pos h3'] at ka
    have nl6:x.m.names.length≤6:=by
     have:=c2
     unfold xU wO at this
     rw[if_neg h0,if_neg h1,if_neg h2',if_pos h3']at this
     simp only[uu,Qt]at this
     exact this.2.1.2.2
    obtain⟨h7,ov,acc,ks,low,n7,f7,gO7,o1,m1,a6⟩:=Mz (y:=y0) k3 nl6 gO6 (by rw[hy0])
    have s1:=o1.own.sc
    obtain⟨h',t1,t2,t3,t4⟩:=fin (y:={y0 with m:={y0.m with kind:=4},ve:=ov}) ka ks gO7 low n7 f7 (by rw[hy0];simp [uQ,s1])
    have X':=xfin low t2
    have N':h.next≤h'.next:=by rw[t4];omega
    obtain⟨U,hU⟩:∃U,U=yl (l.map (·.1)) x.m.names:=⟨_,rfl⟩
    rw[←hU]at t1 m1
    by_cases c:U=[]
    · rw[c]at t1
      refine none_fin (h7:=h6) _ ?_ t1 X' t3 N'
      unfold yc;rw[if_neg h0,if_neg h1,if_neg h2',if_pos h3',←hU,if_pos c];rfl
    · have U0:0<U.length:=QK.2 c
      rw[dt U0,if_pos rfl]at t1
      have ea:yc (l.map (·.1)) x.m=some ⟨4,x.m.dst,x.m.src,0,[],[],[],[],U⟩:=by unfold yc;rw[if_neg h0,if_neg h1,if_neg h2',if_pos h3',←hU,if_neg c]
      rw[ea]
      have Ul:U.length≤6:=by have:=QN List.length m1;rw[Qr]at this;omega
      have o1':WE h.next h' ov acc:=by
       refine⟨?_,fun i q=>by have:=o1.ge i q;omega,fun z hz=> ?_⟩
       · obtain⟨a,⟨b1,b2⟩|⟨j,b1,b2,b3,b4⟩⟩:=o1.own
         · exact⟨a,.inl ⟨b1,b2⟩⟩
         · have:=o1.ge j (by rw[b1];rfl)
           exact⟨a,.inr ⟨j,b1,t2 _ _ (by omega) b2,by omega,b4⟩⟩
       · obtain⟨d1,d2,j,d3,d4,d5,d6,d7⟩:=o1.el z hz
         exact⟨d1,d2,j,d3,t2 _ _ (by omega) d4,by omega,d6,by omega⟩
      have sz:∀z∈acc,z.1.name.size≤8∧z.1.packed.size≤300:=fun z hz=>by
       have:z.1∈U:=by rw[←m1];exact Qy.2 ⟨z,hz,rfl⟩
       rw[hU]at this
       have mf:=(vC (wR c1)).2.1 z.1 (Gq this)
       exact⟨(wB mf.1).2,yQ mf.2.2⟩
      refine⟨⟨⟨4,x.m.dst,x.m.src,0,[],[],[],[],U⟩,.aO,.aO,.aO,.aO,ov,[],acc⟩,h', ?_,rfl,⟨⟨xZ _,xZ _,B6 _,rfl,xZ _,o1'.own.rd,m1,fun z hz=> ?_,fun y hy=>(by cases hy),⟨rfl,rfl,rfl,rfl,s1⟩,by show(0:Nat)<_;omega,by show(0:Nat)<_;omega,by show(0:Nat)<_;omega,by show(0:Nat)<_;omega,by show U.length<_;omega,⟨fun s hs=>(by cases hs),fun s hs=>(by cases hs)⟩⟩,.e o1' (by show acc.length≤1000;omega) rfl rfl rfl rfl,X',t3,N'⟩⟩
      · rw[t1,hy0];rfl
      · obtain⟨d1,d2,j,d3,d4,d5,d6,d7⟩:=o1'.el z hz
        have:=sz z hz
        exact⟨⟨by rw[d3];exact Rd.obj d4 d2,by omega,by omega,by omega⟩,by rw[d3];rfl⟩
  rw[if_neg h3']at ka
  have gR5:=x5 _ _ gR4
  have st:tD h5 (h.next+2) 0 9 (uQ u5) (some (uQ u5))=some h5:=by rw[vE (n:=9) (by omega) rfl rfl rfl,H.jz gR5]
  refine none_fin (h7:=h6) (h':=h5) _ ?_ ?_ (fun i c q=>x5 _ _ (xh4 _ _ q)) f5 (by omega)
  · unfold yc;rw[if_neg h0,if_neg h1,if_neg h2',if_neg h3'];rfl
  · refine ta (fn:=AP.f240) (h2:=h5) (e:=[(4,.aC (h.next+2) 0),(5,.bool false),(6,.int .i64 0)]) (vs:=[.agg (uQ u5),.bool false,.int .i64 0]) rfl rfl rfl ?_ (by simp only[AP.f240,cJ,mP,mD,kQ,ne_eq,Nat.reduceEqDiff,not_false_eq_true,qk,gR5,sI];rfl)
    rw[hb _ ka]
    have z0:([.int .i64 0,.int .i64 0,.int .i64 0,.int .i64 0,.aO,.aO,.aO,.aO,.aO]:List AV)=uQ u5:=rfl
    have kI:fu 2 .eM .eM=some true:=rfl
    clear ox rd hv x3 x4 g4 xh4 ox4 b0 b1 b2 b3 x5 hy0 tX ka sd k3 fin xfin none_fin hb
    generalize uQ u5=Z at *
    simp (disch:=omega)only[go_sem,uX,AP.f240,AO,AQ,kI,z0,gR5,st]
def OT (l:List Int):AV:=Eb 1 l.length (ints l)
def PU (l:List ByteArray):AV:=Eb 1 l.length (wT l)
def vZ (m:yJ):vL:=⟨m,OT m.vJ,OT m.vR,Fq m.u3,PU m.names,Hx m.vF,m.u3.map FQ,m.vF.map ML⟩
theorem Ca (n k:Nat) (cs:List AV):(Eb n k cs).sc=true:=by unfold Eb;split<;>rfl
structure MJ (m:yJ):Prop where
 d:m.vJ.length<1000
 b:m.vR.length<1000
 f:m.u3.length<1000
 n:m.names.length<1000
 e:m.vF.length<1000
 nz:∀s∈m.names,s.size<1000
 fz:∀b∈m.u3,b.1.size<1000∧b.2.length<1000
 ez:∀e∈m.vF,e.name.size<1000∧e.packed.size<1000∧e.vec.length<1000
theorem wI (h:H) {m:yJ} (s:MJ m):zW h (vZ m):=by
 have rdi:∀l:List Int,Rd h (OT l) (ints l):=fun l=>by
  have:=B5 (n:=1) (k:=l.length) (h:=h) (cs:=ints l) (by rw[o9];omega)
  exact⟨by rw[o9];exact this.1,this.2.2⟩
 have d:=s.d
 have b:=s.b
 have f:=s.f
 have n:=s.n
 have e:=s.e
 refine⟨rdi _,rdi _,Fs h fun b hb=>by have:=(s.fz b hb).2;omega,(by show(m.u3.map FQ).map (·.1)=_;rw[List.map_map];exact List.map_id _), ?_,Hy h _,(by show(m.vF.map ML).map (·.1)=_;rw[List.map_map];exact List.map_id _),fun y hy=> ?_,fun y hy=> ?_,⟨Ca _ _ _,Ca _ _ _,Ca _ _ _,Ca _ _ _,Hz _⟩,by show m.vJ.length<_;omega,by show m.vR.length<_;omega,by show m.u3.length<_;omega,by show m.names.length<_;omega,by show m.vF.length<_;omega,⟨fun t ht=>by have:=s.nz t ht;omega,fun t ht=>by have:=(s.fz t ht).1;omega⟩⟩
 · have:=B5 (n:=1) (k:=m.names.length) (h:=h) (cs:=wT m.names) (by rw[vW];omega)
   exact⟨by rw[vW];exact this.1,this.2.2⟩
 · obtain⟨x,hx,rfl⟩:=Qy.1 hy
   have:=s.ez x hx
   exact⟨⟨xY h x.vec,by show x.vec.length<_;omega,by show x.name.size<_;omega,by show x.packed.size<_;omega⟩,rfl⟩
 · obtain⟨x,hx,rfl⟩:=Qy.1 hy
   rfl
theorem AG:MJ w9:=⟨by decide,by decide,by decide,by decide,by decide,fun s h=>(by cases h),fun s h=>(by cases h),fun s h=>(by cases h)⟩
def wc (L:List vv) (f t:Int):yJ×Int:=if vQ L=true∧(vD f=true∧vD t=true∧f≠t)then(⟨0,f,t,vK (vw L),[],[],[],[],[]⟩,0)else(w9,2200)
theorem BU (L:List vv) (f t:Int):MJ (wc L f t).1:=by
 unfold wc
 split
 · exact⟨by show(0:Nat)<_;omega,by show(0:Nat)<_;omega,by show(0:Nat)<_;omega,by show(0:Nat)<_;omega,by show(0:Nat)<_;omega,fun s h=>(by cases h),fun s h=>(by cases h),fun s h=>(by cases h)⟩
 · exact AG
theorem Mn (L:List vv) (f t:Int):uQ (vZ (wc L f t).1)=[.int .i64 (wc L f t).1.kind,.int .i64 (wc L f t).1.src,.int .i64 (wc L f t).1.dst,.int .i64 (wc L f t).1.root,.aO,.aO,.aO,.aO,.aO]:=by
 unfold wc
 split<;>rfl
theorem xX (h : H) (v : AV) (l : List vh) (sv : v.sc = true) (hn : l.length < 1125899906842624) (rd : wv 9 h v l.length (u9 l)) (hv : ∀ x ∈ l, wM h x ∧ x.2.sc = true) (f t : Int) :
 aQ AP.A 238 [.agg [v],.int .i64 f,.int .i64 t] h=some (.bO [.agg (uQ (vZ (wc (l.map (·.1)) f t).1)),.int .i64 (wc (l.map (·.1)) f t).2],h):=by
 obtain⟨h1,eh1⟩:∃g,g=h.dU.alloc [v]:=⟨_,rfl⟩
 obtain⟨h2,eh2⟩:∃g,g=h1.alloc (uQ u5):=⟨_,rfl⟩
 have n0:h.dU.next=h.next:=rfl
 have n1:h1.next=h.next+1:=by rw[eh1];simp
 have n2:h2.next=h.next+2:=by rw[eh2];simp [n1]
 have f2:h2.floor=h.next:=by rw[eh2,eh1];simp
 have x2:Ext h h2:=fun i c q=>by rw[eh2,eh1];exact(((Ext.refl h.dU).alloc _).alloc _) i c q
 have g1:h2.get h.next=some [v]:=by rw[eh2,u6 (by omega),eh1];exact uW rfl
 have gR:h2.get (h.next+1)=some (uQ u5):=by rw[eh2,uW (by omega)]
 have z2:h1.alloc (uQ u5)=h2:=eh2.symm
 have cz:AV.aB (uQ u5)=true:=rfl
 have rd2:=rd.mono fun i c q=>x2 i c q
 have hv2:∀x∈l,wM h2 x∧x.2.sc=true:=fun x hx=>⟨(hv x hx).1.mono x2,(hv x hx).2⟩
 have fin:∀(h3:H) (m:yJ) (e:Int),(∀g:Nat→Option (List AV),(fB (snap g h.next 14 true) (uQ (vZ m)))=some (uQ (vZ m)))→h3.get (h.next+1)=some (uQ (vZ m))→aK (aQ AP.A) bA AP.f238.body (params 0 [.agg [v],.int .i64 f,.int .i64 t]) h.dU=some (.ret,[(6,.aC (h.next+1) 0),(7,.int .i64 e)],h3)→
  aQ AP.A 238 [.agg [v],.int .i64 f,.int .i64 t] h=some (.bO [.agg (uQ (vZ m)),.int .i64 e],h):=fun h3 m e hs hg hb=>by
  refine tB (fn:=AP.f238) (h2:=h3) (e:=[(6,.aC (h.next+1) 0),(7,.int .i64 e)]) (vs:=[.agg (uQ (vZ m)),.int .i64 e]) rfl rfl rfl hb (by simp only[AP.f238,cJ,mP,mD,kQ,ne_eq,Nat.reduceEqDiff,not_false_eq_true,qk,hg,sI];rfl) ?_
  show(fB (snap h3.get h.next 15 true) [.agg (uQ (vZ m)),.int .i64 e]).bind _=_
  have s1:snap h3.get h.next 15 true (.agg (uQ (vZ m)))=some (.agg (uQ (vZ m))):=by
   show(fB (snap h3.get h.next 14 true) (uQ (vZ m))).bind _=_
   rw[hs];rfl
  simp only[fB,s1];rfl
 have sn:∀(a b c d:Int) (g:Nat→Option (List AV)),fB (snap g h.next 14 true) [.int .i64 a,.int .i64 b,.int .i64 c,.int .i64 d,.aO,.aO,.aO,.aO,.aO]=some [.int .i64 a,.int .i64 b,.int .i64 c,.int .i64 d,.aO,.aO,.aO,.aO,.aO]:=fun a b c d g=>rfl
 have eC:=Mn (l.map (·.1)) f t
 refine(fun q:∃h3,h3.get (h.next+1)=some (uQ (vZ (wc (l.map (·.1)) f t).1))∧aK (aQ AP.A) bA AP.f238.body (params 0 [.agg [v],.int .i64 f,.int .i64 t]) h.dU=some (.ret,[(6,.aC (h.next+1) 0),(7,.int .i64 (wc (l.map (·.1)) f t).2)],h3)=>q.elim fun h3 q=>fin h3 _ _ (fun g=>by rw[eC];exact sn _ _ _ _ g) q.1 q.2) ?_
 clear fin sn
 have stz:∀{h3:H},h3.floor=h.next→h3.get (h.next+1)=some (uQ u5)→tD h3 (h.next+1) 0 9 (uQ u5) (some (uQ u5))=some h3:=fun hf hg=>by rw[vE (n:=9) (by omega) rfl rfl rfl,H.jz hg]
 have z0:([.int .i64 0,.int .i64 0,.int .i64 0,.int .i64 0,.aO,.aO,.aO,.aO,.aO]:List AV)=uQ u5:=rfl
 by_cases hm:vQ (l.map (·.1))=true
 · obtain⟨i,h3,k1,gi,x3,f3,n3,_⟩:=Km h2 (by omega) v l sv hn rd2 hv2 hm
   have gR3:=x3 _ _ gR
   have q1:=Av h3 f
   have q2:=Av h3 t
   have st:=stz (h3:=h3) (by omega) gR3
   by_cases c:vD f=true∧vD t=true∧f≠t
   · have eo:wc (l.map (·.1)) f t=(⟨0,f,t,vK (vw (l.map (·.1))),[],[],[],[],[]⟩,0):=by unfold wc;rw[if_pos ⟨hm,c⟩]
     rw[eo]
     obtain⟨c1,c2,c3⟩:=c
     rw[c1]at q1
     rw[c2]at q2
     have k2:=Gt h3 (.aD i 0 8 1) (vw (l.map (·.1))) (Rd.obj gi (vm _)) (by rw[vm];omega)
     unfold D6 at k2
     rw[CG,vm,dt rfl,QF,if_pos rfl]at k2
     obtain⟨Y,hY⟩:∃Y,Y=uQ (vZ ⟨0,f,t,vK (vw (l.map (·.1))),[],[],[],[],[]⟩):=⟨_,rfl⟩
     rw[←hY]
     have fy:dV (uQ u5) [(0,1,.int .i64 0),(1,1,.int .i64 f),(2,1,.int .i64 t),(3,1,.int .i64 (vK (vw (l.map (·.1)))))]=some Y:=by rw[hY];rfl
     have st2:tD h3 (h.next+1) 0 9 Y (some (uQ u5))=some (h3.set (h.next+1) Y):=vE (by omega) (by rw[hY];rfl) rfl (by rw[hY];rfl)
     refine⟨h3.set (h.next+1) Y,by rw[uZ rfl,gR3];rfl, ?_⟩
     clear rd rd2 hv hv2 x2 x3 hY eC eo
     generalize vK (vw (l.map (·.1)))=R at *
     generalize uQ u5=Z at *
     simp (disch:=omega)only[go_sem,xE,BF,vM,Af,pD,qU,Bool.and_true,QB,QF,dt,df,Im,Mk,Kr,Qm,Qo,uy,QH,Qz,List.map_nil,AP.f238,sv,n0,←eh1,n1,cz,z2,g1,wo,k1,q1,q2,k2,fy,gR3,st2,z0]
   · have eo:wc (l.map (·.1)) f t=(w9,2200):=by unfold wc;rw[if_neg (fun q=>c q.2)]
     rw[eo]
     refine⟨h3,gR3, ?_⟩
     clear rd rd2 hv hv2 x2 x3 eC eo stz
     have cc:vD f=false∨vD f=true∧vD t=false∨vD f=true∧vD t=true∧f=t:=by
      cases a:vD f<;>cases b:vD t<;>simp_all
     generalize uQ u5=Z at *
     rcases cc with c1|⟨c1,c2⟩|⟨c1,c2,c3⟩
     · rw[c1]at q1
       simp (disch:=omega)only[go_sem,uX,AP.f238,sv,n0,←eh1,n1,cz,z2,g1,wo,k1,q1,q2,gR3,z0,st]
     · rw[c1]at q1
       rw[c2]at q2
       simp (disch:=omega)only[go_sem,uX,AP.f238,sv,n0,←eh1,n1,cz,z2,g1,wo,k1,q1,q2,gR3,z0,st]
     · rw[c1]at q1
       rw[c2]at q2
       simp (disch:=omega)only[go_sem,uX,AP.f238,sv,n0,←eh1,n1,cz,z2,g1,wo,k1,q1,q2,gR3,z0,st]
 · have hm':vQ (l.map (·.1))=false:=by simpa using hm
   obtain⟨h3,k1,x3,f3,n3⟩:=Kl h2 (by omega) v l sv hn rd2 hv2 hm'
   have gR3:=x3 _ _ gR
   have st:=stz (h3:=h3) (by omega) gR3
   have eo:wc (l.map (·.1)) f t=(w9,2200):=by unfold wc;rw[if_neg (fun q=>hm q.1)]
   rw[eo]
   refine⟨h3,gR3, ?_⟩
   clear rd rd2 hv hv2 x2 x3 eC eo stz
   generalize uQ u5=Z at *
   simp (disch:=omega)only[go_sem,uX,AP.f238,sv,n0,←eh1,n1,cz,z2,g1,wo,k1,gR3,z0,st]
structure Dk (B G:H) (P M O:Nat) (v:AV) (l:List vh) (x:vL):Prop where
 rd:wv 9 B v l.length (u9 l)
 ok:∀z∈l,wM B z∧z.2.sc=true
 fo:vQ (l.map (·.1))=true
 ox:zW B x
 gP:G.get P=some [v]
 gM:G.get M=some (uQ x)
 ne:P≠O∧M≠O
 OZ:Ext B G
 BO:B.next≤O
 ON:O<G.next
 fO:G.floor≤O
 fG:G.floor≤G.next
theorem Dk.ext {B G h:H} {P M O:Nat} {v:AV} {l:List vh} {x:vL} (k:Dk B G P M O v l x) (low:∀i c,i≠O→G.get i=some c→h.get i=some c):Ext B h:=fun i c q=>by
 have:=B.lt _ _ q
 have:=k.BO
 exact low i c (by omega) (k.OZ i c q)
theorem AH (h:H) (name text:ByteArray) (node:Nat) (vp:Int) (hn:node<4) (ht:text.size<1125899906842624):
 aQ AP.A 246 [.str name,.int .i64 node,.int .i64 vp,.str text] h=some (.agg (uY (zI name node vp text) (zr ([0,0,0,0].set node vp))),h):=by
 obtain⟨h1,eh1⟩:∃g,g=h.dU.alloc (uY zC .aO):=⟨_,rfl⟩
 obtain⟨h2,eh2⟩:∃g,g=h1.alloc (ints [0,0,0,0]):=⟨_,rfl⟩
 obtain⟨h3,eh3⟩:∃g,g=h2.set (h.next+1) (ints ([0,0,0,0].set node vp)):=⟨_,rfl⟩
 obtain⟨h4,eh4⟩:∃g,g=h3.set h.next (uY (zI name node vp text) (.aD (h.next+1) 0 4 1)):=⟨_,rfl⟩
 have n0:h.dU.next=h.next:=rfl
 have n1:h1.next=h.next+1:=by rw[eh1];simp
 have f2:h2.floor=h.next:=by rw[eh2,eh1];simp
 have f3:h3.floor=h.next:=by rw[eh3];simp [f2]
 have g2:h2.get (h.next+1)=some (ints [0,0,0,0]):=by rw[eh2,uW (by omega)]
 have gz3:h3.get h.next=some (uY zC .aO):=by rw[eh3,uU (by omega),eh2,u6 (by omega),eh1,uW (by simp)]
 have g3:h3.get (h.next+1)=some (ints ([0,0,0,0].set node vp)):=by rw[eh3,uZ rfl,g2];rfl
 have g4:h4.get h.next=some (uY (zI name node vp text) (.aD (h.next+1) 0 4 1)):=by rw[eh4,uZ rfl,gz3];rfl
 have g4':h4.get (h.next+1)=some (ints ([0,0,0,0].set node vp)):=by rw[eh4,uU (by omega),g3]
 have st3:tD h2 (h.next+1) node 1 [.int .i64 vp] (some (ints [0,0,0,0]))=some h3:=by
  rw[tV (by omega) (by simp;omega) rfl,eh3]
  congr 2
  match node,hn with
  |0,_=>rfl
  |1,_=>rfl
  |2,_=>rfl
  |3,_=>rfl
 have st4:tD h3 h.next 0 9 [.str name,.bool false,.aD (h.next+1) 0 4 1,.int .i64 vp,.int .i64 node,.int .i64 0,.str text,.int .i64 text.size,.int .i64 (wq text:Nat)] (some (uY zC .aO))=some h4:=by
  rw[eh4];exact vE (by omega) rfl rfl rfl
 have e1:h.dU.alloc [.str ⟨#[]⟩,.bool false,.aO,.int .i64 0,.int .i64 0,.int .i64 0,.str ⟨#[]⟩,.int .i64 0,.int .i64 0]=h1:=eh1.symm
 have e2:h1.alloc (AB 4 [.int .i64 0])=h2:=eh2.symm
 have kc:=Kh h3 text ht
 have hlen:([0,0,0,0].set node vp:List Int).length=4:=by simp
 have o:vr 1 h4 (.aD (h.next+1) 0 4 1) 4 (ints ([0,0,0,0].set node vp)):=⟨by simp,.inr ⟨_,rfl,g4',by rw[eh4];simp;omega,by omega⟩⟩
 have s1:snap h4.get h.next 15 true (.aD (h.next+1) 0 4 1)=some (zr ([0,0,0,0].set node vp)):=by
  have:=o.Bs (fl:=h.next) (m:=13) (t:=true) (by rw[eh4];simp;omega)
  rw[this];unfold zr;rw[hlen]
 have body:aK (aQ AP.A) bA AP.f246.body (params 0 [.str name,.int .i64 node,.int .i64 vp,.str text]) h.dU=some (.ret,[(8,.aC h.next 0)],h4):=by
  clear o s1 g4 g4' g3
  have it:((node:Nat):Int).toNat=node:=by omega
  simp (disch:=omega)only[go_sem,uX,AP.f246,n0,e1,n1,e2,it,g2,st3,kc,gz3,st4]
 refine tB (fn:=AP.f246) (h2:=h4) (e:=[(8,.aC h.next 0)]) (vs:=[.agg (uY (zI name node vp text) (.aD (h.next+1) 0 4 1))]) rfl rfl rfl body ?_ ?_
 · simp only[AP.f246,cJ,mP,mD,qk,g4,sI];rfl
 · exact GB s1
def zX:List vv:=[eA]
def Ml:yJ:=(wc zX 0 1).1
def Mq:yJ:=(wG [] Ml).1
def Ms:yJ:=(wG zX Mq).1
def OC:yJ:=(wG [] Ms).1
def OS:yJ:=(wG zX OC).1
theorem Gb:(wc zX 0 1).2=0∧(wc zX 1 1).2=2200:=by decide+kernel
theorem Gg:(wG [] Ml).2=(true,0)∧Mq.kind=1∧Mq.src=1:=by decide+kernel
theorem Gl:(wG zX Mq).2=(true,0)∧Ms.kind=2∧Ms.u3.length=1:=by decide+kernel
theorem It:(wG [] Ms).2=(true,0)∧OC.names=[nA]:=by decide+kernel
theorem Iu:(wG zX OC).2=(true,0)∧OS.vF=zX:=by decide+kernel
theorem II:(wG zX OS).2=(false,0)∧(wG zX Ml).2=(false,0):=by decide+kernel
theorem xO (G:H) (hf:G.floor≤G.next) (v:AV) (l:List vh) (sv:v.sc=true) (hn:l.length<1125899906842624) (rd:wv 9 G v l.length (u9 l)) (hv:∀x∈l,wM G x∧x.2.sc=true) (x:vL) (ox:zW G x):
 ∃(y:vL) (h' A G':H) (O:Nat),aQ AP.A 240 [.agg [v],.agg (uQ x)] G=some (.bO [.agg (uQ y),.bool (wG (l.map (·.1)) x.m).2.1,.int .i64 (wG (l.map (·.1)) x.m).2.2],h')∧y.m=(wG (l.map (·.1)) x.m).1∧h'.alloc (uQ u5)=A∧h'.next=O∧A.get O=some (uQ u5)∧tD A O 0 9 (uQ y) (some (uQ u5))=some G'∧G'.get O=some (uQ y)∧Ext G G'∧zW G' y∧G'.floor=G.floor∧G.next≤O∧O<G'.next:=by
 obtain⟨y,h',k,em,a⟩:=H6 G hf v l sv hn rd hv x ox
 have lt:=a.nx
 have ga:(h'.alloc (uQ u5)).get h'.next=some (uQ u5):=uW rfl
 have e1:Ext h' ((h'.alloc (uQ u5)).set h'.next (uQ y)):=fun i c q=>by have:=h'.lt _ _ q;rw[uU (by omega),u6 (by omega)];exact q
 refine⟨y,h',_,(h'.alloc (uQ u5)).set h'.next (uQ y),h'.next,k,em,rfl,rfl,ga,vE (by simp;have:=a.fl;omega) rfl rfl (xV a.ok),by rw[uZ rfl,ga];rfl,fun i c q=>e1 _ _ (a.ext _ _ q),a.ok.mono e1,by simp [a.fl],lt,by simp⟩
theorem CU (G:H) (hf:G.floor≤G.next) (m:yJ) (s:MJ m):∃(A G':H) (O:Nat),G.alloc (uQ u5)=A∧G.next=O∧A.get O=some (uQ u5)∧tD A O 0 9 (uQ (vZ m)) (some (uQ u5))=some G'∧G'.get O=some (uQ (vZ m))∧Ext G G'∧G'.floor=G.floor∧O<G'.next:=by
 have ga:(G.alloc (uQ u5)).get G.next=some (uQ u5):=uW rfl
 have e1:Ext G ((G.alloc (uQ u5)).set G.next (uQ (vZ m))):=fun i c q=>by have:=G.lt _ _ q;rw[uU (by omega),u6 (by omega)];exact q
 exact⟨_,(G.alloc (uQ u5)).set G.next (uQ (vZ m)),G.next,rfl,rfl,ga,vE (by simp;omega) rfl rfl (xV (wI G s)),by rw[uZ rfl,ga];rfl,e1,by simp,by simp⟩
theorem GL (a b:ByteArray):bp .neq (.str a) (.str b)=some (.bool (!decide (a=b))):=by
 rw[z8]
 by_cases c:a=b
 · subst c;simp
 · rw[Cc c,df c]
theorem Ec {v w : AV} {a b : List ByteArray} (hab : a.length = b.length) (hl : a.length < 1125899906842624) (h : H) (ra : Rd h v (wT a)) (rb : Rd h w (wT b)) : ∀ (q r p p' : List ByteArray), a = p ++ q → b = p' ++ r → p.length = p'.length →
 (∃e',Lp AP.A [0,1,5] AP.f247L0 [(0,v),(1,w),(5,.int .i64 p.length)] h=some (.exit 0,e',h)∧q=r)∨
 (∃e',Lp AP.A [0,1,5] AP.f247L0 [(0,v),(1,w),(5,.int .i64 p.length)] h=some (.ret,e',h)∧look e' 4=.bool false∧q≠r)
 | [], r, p, p', hp, hp', hpp => by
   rw[Qv]at hp;subst hp
   have hr:r=[]:=Qw (by rw[hp',uN]at hab;omega)
   have ln:=ra.DZ.len
   rw[vW]at ln
   refine .inl ⟨[(0,v),(1,w),(5,.int .i64 a.length),(14,.bool false)],sN ?_,hr.symm⟩
   simp (disch:=omega)only[go_sem,uX,AP.f247L0,ln]
 | x :: q, [], p, p', hp, hp', hpp => by
   rw[hp,hp']at hab;simp at hab;omega
 | x :: q, y :: r, p, p', hp, hp', hpp => by
   have hlen:a.length=p.length+(q.length+1):=by rw[hp];simp
   have ln:=ra.DZ.len
   rw[vW]at ln
   obtain⟨ad,a1,_,a3⟩:=ra.z9
   obtain⟨bd,b1,_,b3⟩:=rb.z9
   have i1:=a1 p.length ⟨by omega,by omega⟩
   have i2:=a3 h (Ext.refl h) p.length x (by rw[hp];simp)
   have j1:=b1 p.length ⟨by omega,by omega⟩
   have j2:=b3 h (Ext.refl h) p.length y (by rw[hp',hpp];simp)
   have cmp:=GL x y
   have ih:=Ec hab hl h ra rb q r (p++[x]) (p'++[y]) (by rw[hp];simp) (by rw[hp'];simp) (by simp [hpp])
   have w1:(((p++[x]).length:Nat):Int)=(p.length:Int)+1:=by simp
   rw[w1]at ih
   by_cases c:x=y
   · rw[dt c]at cmp
     have step:aK (aQ AP.A) bA AP.f247L0 (ax [(0,v),(1,w),(5,.int .i64 p.length)] [0,1,5]) h=some (.normal,[(0,v),(1,w),(5,.int .i64 ((p.length:Int)+1))],h):=by
      clear ih ra rb a1 a3 b1 b3 hp hp'
      simp (disch:=omega)only[go_sem,uX,AP.f247L0,ln,i1,i2,j1,j2,cmp,Bool.not_true]
     rcases ih with ⟨e',r1,r2⟩|⟨e',r1,r2,r3⟩
     · exact .inl ⟨e',sP step r1,by rw[c,r2]⟩
     · exact .inr ⟨e',sP step r1,r2,fun q=>r3 (List.cons.inj q).2⟩
   · rw[df c]at cmp
     refine .inr ⟨[(4,.bool false)],tk ?_,rfl,fun q=>c (List.cons.inj q).1⟩
     clear ih ra rb a1 a3 b1 b3 hp hp'
     simp (disch:=omega)only[go_sem,uX,AP.f247L0,ln,i1,i2,j1,j2,cmp,Bool.not_false]
theorem HW (h:H) (v w:AV) (a b:List ByteArray) (ra:Rd h v (wT a)) (rb:Rd h w (wT b)) (hl:a.length<1125899906842624) (hb:b.length<1125899906842624):aQ AP.A 247 [v,w] h=some (.bool (decide (a=b)),h):=by
 have la:=ra.DZ.len
 rw[vW]at la
 have lb:=rb.DZ.len
 rw[vW]at lb
 have ra':Rd h.dU v (wT a):=ra.mono fun i c q=>q
 have rb':Rd h.dU w (wT b):=rb.mono fun i c q=>q
 by_cases c:a.length=b.length
 · rcases Ec c hl h.dU ra' rb' a b [] [] rfl rfl rfl with ⟨e',r1,r2⟩|⟨e',r1,r2,r3⟩
   · have r1':Lp AP.A [0,1,5] AP.f247L0 [(0,v),(1,w),(5,.int .i64 0)] h.dU=some (.exit 0,e',h.dU):=r1
     rw[dt r2]
     refine tB (fn:=AP.f247) (h2:=h.dU) (e:=[(4,.bool true)]) rfl rfl rfl ?_ rfl rfl
     clear ra rb ra' rb' r1 r2
     simp (disch:=omega)only[go_sem,uX,AP.f247,la,lb,c,rH,r1']
   · have r1':Lp AP.A [0,1,5] AP.f247L0 [(0,v),(1,w),(5,.int .i64 0)] h.dU=some (.ret,e',h.dU):=r1
     rw[df r3]
     refine tB (fn:=AP.f247) (h2:=h.dU) (e:=e') (vs:=[.bool false]) rfl rfl rfl ?_ (by simp only[AP.f247,cJ,mP,r2];rfl) rfl
     clear ra rb ra' rb' r1 r3
     simp (disch:=omega)only[go_sem,uX,AP.f247,la,lb,c,rH,r1']
 · rw[df (fun q=>c (by rw[q]))]
   refine tB (fn:=AP.f247) (h2:=h.dU) (e:=[(4,.bool false)]) rfl rfl rfl ?_ rfl rfl
   clear ra rb ra' rb'
   simp (disch:=omega)only[go_sem,uX,AP.f247,la,lb]
theorem Es:AP.f242.body=.seq (at_ 0 AP.f242.body) (.seq (at_ 1 AP.f242.body) (.seq (at_ 2 AP.f242.body) (.seq (at_ 3 AP.f242.body) (.seq (at_ 4 AP.f242.body) (.seq (at_ 5 AP.f242.body) (.seq (at_ 6 AP.f242.body) (.seq (at_ 7 AP.f242.body) (.seq (at_ 8 AP.f242.body) (.seq (at_ 9 AP.f242.body) (DF 10 AP.f242.body)))))))))):=rfl
def pA:vh:=(eA,zr [1,0,0,0])
theorem xu (g:H):∀x∈[pA],wM g x∧x.2.sc=true:=fun x hx=>by obtain rfl:=QL.1 hx;exact⟨wM.ar (e:=eA) rfl (by decide) (by decide),Cg [1,0,0,0]⟩
theorem Is {g:H} {n:Nat} (hg:g.get n=some (uY eA (zr [1,0,0,0]))):wv 9 g (.aD n 0 1 9) [pA].length (u9 [pA]):=Gd hg rfl
theorem Ax:[pA].map (·.1)=zX:=rfl
set_option maxHeartbeats 8000000 in
theorem Et (h : H) : aQ AP.A 242 [] h = some (.bool true, h) := by
 obtain⟨E,hE⟩:∃E,E=uY eA (zr [1,0,0,0]):=⟨_,rfl⟩
 have lE:E.length=9:=by rw[hE];rfl
 have cE:AV.aB E=true:=by rw[hE];exact wY (Cg _)
 have fE:setFrom Z9 0 E=E:=by rw[hE];rfl
 have k0:∀g,aQ AP.A 246 [.str ⟨#[97]⟩,.int .i64 0,.int .i64 1,.str ⟨#[104,105]⟩] g=some (.agg E,g):=fun g=>by rw[hE];exact AH g nA Dl 0 1 (by omega) (by decide)
 obtain⟨G,hG⟩:∃G,G=((h.dU.alloc E).alloc [.aO]).set (h.next+1) [.aD h.next 0 1 9]:=⟨_,rfl⟩
 have g1:G.get h.next=some E:=by rw[hG];simp (disch:=first|omega|(simp only[wz,Qm,Qo,uy,Nat.reduceAdd];first|done|omega|fail)|fail)only[wz,AA,Qp,Qm,Qo,uy,Nat.reduceAdd]
 have g2:G.get (h.next+1)=some [.aD h.next 0 1 9]:=by rw[hG];simp (disch:=first|omega|(simp only[wz,Qm,Qo,uy,Nat.reduceAdd];first|done|omega|fail)|fail)only[wz,AA,Qp,Qm,Qo,uy,Nat.reduceAdd]
 have gf:G.floor=h.next:=by rw[hG];simp
 have gn:G.next=h.next+1+1:=by rw[hG];simp
 have b0:aK (aQ AP.A) bA (.seq (at_ 0 AP.f242.body) (at_ 1 AP.f242.body)) (params 0 []) h.dU=some (.normal,[(1,.aC (h.next+1) 0)],G):=by
  have gg:=hG.symm
  clear hE
  simp (disch:=first|omega|(simp only[wz,Qm,Qo,uy,Nat.reduceAdd];first|done|omega|fail)|(simp (disch:=first|omega|(simp only[wz,Qm,Qo,uy,Nat.reduceAdd];first|done|omega|fail)|fail)only[wz,AA,Qp,Qm,Qo,uy,Nat.reduceAdd];done)|fail)only[go_sem,uX,Ch,AP.f242,vG,vB,k0,lE,cE,fE,gg]
 have sv:(AV.aD h.next 0 1 9).sc=true:=rfl
 have lz:([pA].length:Nat)<1125899906842624:=by show 1<_;omega
 have lz0:(([]:List vh).length:Nat)<1125899906842624:=by show 0<_;omega
 have rdA:∀{g:H},g.get h.next=some E→wv 9 g (.aD h.next 0 1 9) [pA].length (u9 [pA]):=fun hg=>Is (by rw[←hE];exact hg)
 have rd0:∀g:H,wv 9 g .aO ([]:List vh).length (u9 []):=fun g=>⟨rfl,rfl,fun s q=>by cases q⟩
 have hv0:∀g:H,∀x∈([]:List vh),wM g x∧x.2.sc=true:=fun g x hx=>by cases hx
 have sO:=BU zX 0 1
 have sO1:=BU zX 1 1
 have z0:([.int .i64 0,.int .i64 0,.int .i64 0,.int .i64 0,.aO,.aO,.aO,.aO,.aO]:List AV)=uQ u5:=rfl
 have cz:AV.aB (uQ u5)=true:=rfl
 have lx:∀x,(uQ x).length=9:=fun x=>rfl
 have tX:∀x,List.take 9 (uQ x)=uQ x:=fun x=>rfl
 have k2:=xX G _ [pA] sv lz (rdA g1) (xu G) 0 1
 rw[Ax,Gb.1]at k2
 obtain⟨A2,G2,O2,a2,n2,ga2,st2,go2,e2,f2,lt2⟩:=CU G (by omega) _ sO
 obtain⟨Y2,hY2⟩:∃Y,Y=uQ (vZ (wc zX 0 1).1):=⟨_,rfl⟩
 rw[←hY2]at k2 st2 go2
 have cY2:AV.aB Y2=true:=by rw[hY2];exact xV (wI G sO)
 have b2:aK (aQ AP.A) bA (at_ 2 AP.f242.body) [(1,.aC (h.next+1) 0)] G=some (.normal,[(1,.aC (h.next+1) 0),(2,.aC O2 0),(3,.int .i64 0)],G2):=by
  clear sO sO1 hE k0 rdA rd0 hv0 e2
  generalize uQ u5=Z at *
  simp (disch:=omega)only[go_sem,uX,AP.f242,vG,vB,g2,wo,k2,z0,cz,a2,n2,ga2,st2]
 have p1:=e2 _ _ g1
 have p2:=e2 _ _ g2
 obtain⟨y4,w4,A4,G4,O4,k4,m4,a4,n4,ga4,st4,go4,e4,ok4,f4,l4,l4'⟩:=xO G2 (by omega) .aO [] rfl lz0 (rd0 _) (hv0 _) (vZ (wc zX 0 1).1) (wI G2 sO)
 have m4':y4.m=Mq:=m4
 have k4':aQ AP.A 240 [.agg [.aO],.agg Y2] G2=some (.bO [.agg (uQ y4),.bool (wG [] Ml).2.1,.int .i64 (wG [] Ml).2.2],w4):=by rw[hY2];exact k4
 rw[Gg.1]at k4'
 have q2:=e4 _ _ go2
 have q1:=e4 _ _ p1
 have q1':=e4 _ _ p2
 have lY2:Y2.length=9:=by rw[hY2];rfl
 have tY2:List.take 9 Y2=Y2:=by rw[hY2];rfl
 have b3:aK (aQ AP.A) bA (at_ 3 AP.f242.body) [(1,.aC (h.next+1) 0),(2,.aC O2 0),(3,.int .i64 0)] G2=some (.normal,[(1,.aC (h.next+1) 0),(2,.aC O2 0),(3,.int .i64 0),(4,.aC O4 0),(5,.bool true),(6,.int .i64 0)],G4):=by
  clear sO sO1 hE k0 rdA rd0 hv0 e2 e4 k4 ok4 m4 m4' lx tX hY2
  generalize uQ u5=Z at *
  generalize uQ y4=Y4 at *
  simp (disch:=omega)only[go_sem,uX,AP.f242,vG,vB,go2,D0,vM,lY2,tY2,Qs,k4',z0,cz,a4,n4,ga4,st4]
 obtain⟨y7,w7,A7,G7,O7,k7,m7,a7,n7,ga7,st7,go7,e7,ok7,f7,l7,l7'⟩:=xO G4 (by omega) _ [pA] sv lz (rdA q1) (xu _) y4 ok4
 rw[Ax,m4',Gl.1]at k7
 have m7':y7.m=Ms:=by rw[m7,m4'];rfl
 have r1:=e7 _ _ q1
 have r1':=e7 _ _ q1'
 have r2:=e7 _ _ q2
 have r4:=e7 _ _ go4
 have lY4:=lx y4
 have tY4:=tX y4
 have b4:aK (aQ AP.A) bA (at_ 4 AP.f242.body) [(1,.aC (h.next+1) 0),(2,.aC O2 0),(3,.int .i64 0),(4,.aC O4 0),(5,.bool true),(6,.int .i64 0)] G4=some (.normal,[(1,.aC (h.next+1) 0),(2,.aC O2 0),(3,.int .i64 0),(4,.aC O4 0),(5,.bool true),(6,.int .i64 0),(7,.aC O7 0),(8,.bool true),(9,.int .i64 0)],G7):=by
  clear sO sO1 hE k0 rdA rd0 hv0 e2 e4 e7 k4 ok4 ok7 m4 m4' m7 m7' lx tX hY2
  generalize uQ u5=Z at *
  generalize uQ y4=Y4 at *
  generalize uQ y7=Y7 at *
  simp (disch:=omega)only[go_sem,uX,AP.f242,vG,vB,q1',wo,go4,D0,vM,lY4,tY4,Qs,k7,z0,cz,a7,n7,ga7,st7]
 obtain⟨y10,w10,A10,G10,O10,k10,m10,a10,n10,ga10,st10,go10,e10,ok10,f10,l10,l10'⟩:=xO G7 (by omega) .aO [] rfl lz0 (rd0 _) (hv0 _) y7 ok7
 have m10':y10.m=OC:=by rw[m10,m7'];rfl
 rw[m7',List.map_nil,It.1]at k10
 have s1:=e10 _ _ r1
 have s1':=e10 _ _ r1'
 have s2:=e10 _ _ r2
 have s4:=e10 _ _ r4
 have s7:=e10 _ _ go7
 have lY7:=lx y7
 have tY7:=tX y7
 have b5:aK (aQ AP.A) bA (at_ 5 AP.f242.body) [(1,.aC (h.next+1) 0),(2,.aC O2 0),(3,.int .i64 0),(4,.aC O4 0),(5,.bool true),(6,.int .i64 0),(7,.aC O7 0),(8,.bool true),(9,.int .i64 0)] G7=some (.normal,[(1,.aC (h.next+1) 0),(2,.aC O2 0),(3,.int .i64 0),(4,.aC O4 0),(5,.bool true),(6,.int .i64 0),(7,.aC O7 0),(8,.bool true),(9,.int .i64 0),(10,.aC O10 0),(11,.bool true),(12,.int .i64 0)],G10):=by
  clear sO sO1 hE k0 rdA rd0 hv0 e2 e4 e7 e10 k4 ok4 ok7 ok10 m4 m4' m7 m7' m10 m10' lx tX hY2
  generalize uQ u5=Z at *
  generalize uQ y7=Y7 at *
  generalize uQ y10=Y10 at *
  simp (disch:=omega)only[go_sem,uX,AP.f242,vG,vB,go7,D0,vM,lY7,tY7,Qs,k10,z0,cz,a10,n10,ga10,st10]
 obtain⟨y13,w13,A13,G13,O13,k13,m13,a13,n13,ga13,st13,go13,e13,ok13,f13,l13,l13'⟩:=xO G10 (by omega) _ [pA] sv lz (rdA s1) (xu _) y10 ok10
 rw[Ax,m10',Iu.1]at k13
 have m13':y13.m=OS:=by rw[m13,m10'];rfl
 have t1:=e13 _ _ s1
 have t1':=e13 _ _ s1'
 have t2:=e13 _ _ s2
 have t4:=e13 _ _ s4
 have t7:=e13 _ _ s7
 have t10:=e13 _ _ go10
 have lY10:=lx y10
 have tY10:=tX y10
 have b6:aK (aQ AP.A) bA (at_ 6 AP.f242.body) [(1,.aC (h.next+1) 0),(2,.aC O2 0),(3,.int .i64 0),(4,.aC O4 0),(5,.bool true),(6,.int .i64 0),(7,.aC O7 0),(8,.bool true),(9,.int .i64 0),(10,.aC O10 0),(11,.bool true),(12,.int .i64 0)] G10=some (.normal,[(1,.aC (h.next+1) 0),(2,.aC O2 0),(3,.int .i64 0),(4,.aC O4 0),(5,.bool true),(6,.int .i64 0),(7,.aC O7 0),(8,.bool true),(9,.int .i64 0),(10,.aC O10 0),(11,.bool true),(12,.int .i64 0),(13,.aC O13 0),(14,.bool true),(15,.int .i64 0)],G13):=by
  clear sO sO1 hE k0 rdA rd0 hv0 e2 e4 e7 e10 e13 k4 ok4 ok7 ok10 ok13 m4 m4' m7 m7' m10 m10' m13 m13' lx tX hY2
  generalize uQ u5=Z at *
  generalize uQ y10=Y10 at *
  generalize uQ y13=Y13 at *
  simp (disch:=omega)only[go_sem,uX,AP.f242,vG,vB,s1',wo,go10,D0,vM,lY10,tY10,Qs,k13,z0,cz,a13,n13,ga13,st13]
 obtain⟨y16,w16,A16,G16,O16,k16,m16,a16,n16,ga16,st16,go16,e16,ok16,f16,l16,l16'⟩:=xO G13 (by omega) _ [pA] sv lz (rdA t1) (xu _) y13 ok13
 rw[Ax,m13',II.1]at k16
 have u1:=e16 _ _ t1
 have u1':=e16 _ _ t1'
 have u2:=e16 _ _ t2
 have u4:=e16 _ _ t4
 have u7:=e16 _ _ t7
 have u10:=e16 _ _ t10
 have u13:=e16 _ _ go13
 have lY13:=lx y13
 have tY13:=tX y13
 have b7:aK (aQ AP.A) bA (at_ 7 AP.f242.body) [(1,.aC (h.next+1) 0),(2,.aC O2 0),(3,.int .i64 0),(4,.aC O4 0),(5,.bool true),(6,.int .i64 0),(7,.aC O7 0),(8,.bool true),(9,.int .i64 0),(10,.aC O10 0),(11,.bool true),(12,.int .i64 0),(13,.aC O13 0),(14,.bool true),(15,.int .i64 0)] G13=some (.normal,[(1,.aC (h.next+1) 0),(2,.aC O2 0),(3,.int .i64 0),(4,.aC O4 0),(5,.bool true),(6,.int .i64 0),(7,.aC O7 0),(8,.bool true),(9,.int .i64 0),(10,.aC O10 0),(11,.bool true),(12,.int .i64 0),(13,.aC O13 0),(14,.bool true),(15,.int .i64 0),(17,.bool false),(18,.int .i64 0)],G16):=by
  clear sO sO1 hE k0 rdA rd0 hv0 e2 e4 e7 e10 e13 e16 k4 ok4 ok7 ok10 ok13 ok16 m4 m4' m7 m7' m10 m10' m13 m13' m16 lx tX hY2
  generalize uQ u5=Z at *
  generalize uQ y13=Y13 at *
  generalize uQ y16=Y16 at *
  simp (disch:=omega)only[go_sem,uX,AP.f242,vG,vB,t1',wo,go13,D0,vM,lY13,tY13,Qs,k16,z0,cz,a16,n16,ga16,st16]
 obtain⟨y19,w19,A19,G19,O19,k19,m19,a19,n19,ga19,st19,go19,e19,ok19,f19,l19,l19'⟩:=xO G16 (by omega) _ [pA] sv lz (rdA u1) (xu _) (vZ (wc zX 0 1).1) (wI G16 sO)
 have k19':aQ AP.A 240 [.agg [.aD h.next 0 1 9],.agg Y2] G16=some (.bO [.agg (uQ y19),.bool (wG zX Ml).2.1,.int .i64 (wG zX Ml).2.2],w19):=by rw[hY2];exact k19
 rw[II.2]at k19'
 have x1:=e19 _ _ u1
 have x1':=e19 _ _ u1'
 have x4:=e19 _ _ u4
 have x7:=e19 _ _ u7
 have x10:=e19 _ _ u10
 have x13:=e19 _ _ u13
 have b8:aK (aQ AP.A) bA (at_ 8 AP.f242.body) [(1,.aC (h.next+1) 0),(2,.aC O2 0),(3,.int .i64 0),(4,.aC O4 0),(5,.bool true),(6,.int .i64 0),(7,.aC O7 0),(8,.bool true),(9,.int .i64 0),(10,.aC O10 0),(11,.bool true),(12,.int .i64 0),(13,.aC O13 0),(14,.bool true),(15,.int .i64 0),(17,.bool false),(18,.int .i64 0)] G16=some (.normal,[(1,.aC (h.next+1) 0),(3,.int .i64 0),(4,.aC O4 0),(5,.bool true),(6,.int .i64 0),(7,.aC O7 0),(8,.bool true),(9,.int .i64 0),(10,.aC O10 0),(11,.bool true),(12,.int .i64 0),(13,.aC O13 0),(14,.bool true),(15,.int .i64 0),(17,.bool false),(18,.int .i64 0),(20,.bool false),(21,.int .i64 0)],G19):=by
  clear sO sO1 hE k0 rdA rd0 hv0 e2 e4 e7 e10 e13 e16 e19 k4 ok4 ok7 ok10 ok13 ok16 ok19 m4 m4' m7 m7' m10 m10' m13 m13' m16 m19 lx tX hY2 k19
  generalize uQ u5=Z at *
  generalize uQ y19=Y19 at *
  simp (disch:=omega)only[go_sem,uX,AP.f242,vG,vB,u1',wo,u2,D0,vM,lY2,tY2,Qs,k19',z0,cz,a19,n19,ga19,st19]
 have k22:=xX G19 _ [pA] sv lz (rdA x1) (xu G19) 1 1
 rw[Ax,Gb.2]at k22
 obtain⟨A22,G22,O22,a22,n22,ga22,st22,go22,e22,f22,lt22⟩:=CU G19 (by omega) _ sO1
 have v1:=e22 _ _ x1
 have v1':=e22 _ _ x1'
 have v4:=e22 _ _ x4
 have v7:=e22 _ _ x7
 have v10:=e22 _ _ x10
 have v13:=e22 _ _ x13
 have b9:aK (aQ AP.A) bA (at_ 9 AP.f242.body) [(1,.aC (h.next+1) 0),(3,.int .i64 0),(4,.aC O4 0),(5,.bool true),(6,.int .i64 0),(7,.aC O7 0),(8,.bool true),(9,.int .i64 0),(10,.aC O10 0),(11,.bool true),(12,.int .i64 0),(13,.aC O13 0),(14,.bool true),(15,.int .i64 0),(17,.bool false),(18,.int .i64 0),(20,.bool false),(21,.int .i64 0)] G19=some (.normal,[(1,.aC (h.next+1) 0),(3,.int .i64 0),(4,.aC O4 0),(5,.bool true),(6,.int .i64 0),(7,.aC O7 0),(8,.bool true),(9,.int .i64 0),(10,.aC O10 0),(11,.bool true),(12,.int .i64 0),(13,.aC O13 0),(14,.bool true),(15,.int .i64 0),(17,.bool false),(18,.int .i64 0),(20,.bool false),(21,.int .i64 0),(23,.int .i64 2200)],G22):=by
  clear sO sO1 hE k0 rdA rd0 hv0 e2 e4 e7 e10 e13 e16 e19 e22 k4 ok4 ok7 ok10 ok13 ok16 ok19 m4 m4' m7 m7' m10 m10' m13 m13' m16 m19 lx tX hY2 k19
  generalize uQ u5=Z at *
  generalize uQ (vZ (wc zX 1 1).1)=Y22 at *
  simp (disch:=omega)only[go_sem,uX,AP.f242,vG,vB,x1',wo,k22,z0,cz,a22,n22,ga22,st22]
 have E7:Ext G7 G22:=fun i c q=>e22 _ _ (e19 _ _ (e16 _ _ (e13 _ _ (e10 _ _ q))))
 have E10:Ext G10 G22:=fun i c q=>e22 _ _ (e19 _ _ (e16 _ _ (e13 _ _ q)))
 have E13:Ext G13 G22:=fun i c q=>e22 _ _ (e19 _ _ (e16 _ _ q))
 have ok7':=ok7.mono E7
 have ok10':=ok10.mono E10
 have ok13':=ok13.mono E13
 obtain⟨W,hW⟩:∃g,g=G22.alloc [.str ⟨#[97]⟩]:=⟨_,rfl⟩
 have hw:=hW.symm
 have gW:W.get G22.next=some [.str ⟨#[97]⟩]:=by rw[hW];exact uW rfl
 have xW:Ext G22 W:=by rw[hW];exact(Ext.refl G22).alloc _
 have w1:=xW _ _ v1
 have w1':=xW _ _ v1'
 have w13:=xW _ _ v13
 have kn:aQ AP.A 247 [y10.vn,.aD G22.next 0 1 1] W=some (.bool true,W):=by
  have:=HW W y10.vn (.aD G22.next 0 1 1) y10.m.names [nA] (ok10'.rn.mono fun i c q=>xW i c q) ⟨by simp only[aR,if_true,gW];rfl,fun _=>by simp⟩ (by have:=ok10.zn;omega) (by show 1<_;omega)
  rw[m10',dt It.2]at this;exact this
 have ke:aQ AP.A 207 [y13.ve,.aD h.next 0 1 9] W=some (.bool true,W):=by
  have:=Gu W y13.ve (.aD h.next 0 1 9) y13.es [pA] (by have:=ok13.ze;rw[←ok13.he,Qr]at this;omega) (ok13'.re.mono fun i c q=>xW i c q) (rdA w1) (fun x hx=>(ok13'.mono xW).ve x hx) (xu W)
  rw[ok13'.he,m13',Ax,dt Iu.2]at this;exact this
 have c40:(uQ y4)[0]?=some (.int .i64 1):=by show some (AV.int .i64 y4.m.kind)=_;rw[m4',Gg.2.1]
 have c41:(uQ y4)[1]?=some (.int .i64 1):=by show some (AV.int .i64 y4.m.src)=_;rw[m4',Gg.2.2]
 have c70:(uQ y7)[0]?=some (.int .i64 2):=by show some (AV.int .i64 y7.m.kind)=_;rw[m7',Gl.2.1]
 have c76:(uQ y7)[6]?=some y7.vf:=rfl
 have l76:iY false y7.vf=some (.int .i64 1):=by
  have:=ok7.rf.rd.len
  rw[show y7.fs.length=1 by have:=QN List.length ok7.hf;rw[Qr,m7',Gl.2.2]at this;exact this]at this
  exact this
 have c107:(uQ y10)[7]?=some y10.vn:=rfl
 have c138:(uQ y13)[8]?=some y13.ve:=rfl
 have kc:=fun (g:H) n=>Ir g n
 simp only[I]at kc
 have bF:∃hF,aK (aQ AP.A) bA (DF 10 AP.f242.body) [(1,.aC (h.next+1) 0),(3,.int .i64 0),(4,.aC O4 0),(5,.bool true),(6,.int .i64 0),(7,.aC O7 0),(8,.bool true),(9,.int .i64 0),(10,.aC O10 0),(11,.bool true),(12,.int .i64 0),(13,.aC O13 0),(14,.bool true),(15,.int .i64 0),(17,.bool false),(18,.int .i64 0),(20,.bool false),(21,.int .i64 0),(23,.int .i64 2200)] G22=some (.ret,[(0,.bool true)],hF):=by
  clear sO sO1 hE k0 rdA rd0 hv0 e2 e4 e7 e10 e13 e16 e19 e22 k4 ok4 ok7 ok10 ok13 ok16 ok19 m4 m4' m7 m7' m10 m10' m13 m13' m16 m19 lx tX hY2 k19 E7 E10 E13 ok7' ok10' ok13' xW hW b0 b2 b3 b4 b5 b6 b7 b8 b9
  generalize uQ u5=Z at *
  generalize uQ y4=Y4 at *
  generalize uQ y7=Y7 at *
  generalize uQ y10=Y10 at *
  generalize uQ y13=Y13 at *
  refine⟨?_, ?_⟩
  rotate_left
  simp (disch:=omega)only[go_sem,uX,AP.f242,AO,AQ,v1',v4,v7,v10,v13,c40,c41,c70,c76,l76,c107,c138,kc,hw,gW,kn,ke,w1',w13]
  rfl
 obtain⟨hF,bF⟩:=bF
 rw[rk]at b0
 have hh:aK (aQ AP.A) bA AP.f242.body (params 0 []) h.dU=some (.ret,[(0,.bool true)],hF):=by
  rw[Es,rk]
  cases hq:aK (aQ AP.A) bA (at_ 0 AP.f242.body) (params 0 []) h.dU with
  |none=>rw[hq]at b0;cases b0
  | some r =>
    obtain⟨ex,ev,hr⟩:=r
    cases ex with
    | normal =>
      rw[hq,r0]at b0
      rw[r0,rk,b0,r0,rk,b2,r0,rk,b3,r0,rk,b4,r0,rk,b5,r0,rk,b6,r0,rk,b7,r0,rk,b8,r0,rk,b9,r0]
      exact bF
    |exit i=>rw[hq]at b0;cases b0
    |ret=>rw[hq]at b0;cases b0
 exact tB (fn:=AP.f242) (h2:=hF) (e:=[(0,.bool true)]) rfl rfl rfl hh rfl rfl
structure Qf (m:yJ):Prop where
 zd:m.vJ.length<20000000000000
 zb:m.vR.length<20000000000000
 zn:m.names.length<9000000000000
 zf:m.u3.length<3600000000000
 ze:m.vF.length<1353300000000
 wf:∀b∈m.u3,b.2.length<20000000000000
 we:∀e∈m.vF,e.vec.length<20000000000000
structure OD (h:H) (ov:AV) (x:xm):Prop where
 vec:Rd h x.2 (ints x.1.2)
 sc:x.2.sc=true
 id:∀j,x.2.id?=some j→j<h.next∧ov.id?≠some j
theorem OD.mono {h g:H} {ov ov':AV} {x:xm} (b:OD h ov x) (hn:h.next≤g.next) (hg:∀j,x.2.id?=some j→j<h.next→ov.id?≠some j→g.get j=h.get j) (ho:∀j,j<h.next→ov.id?≠some j→ov'.id?≠some j):OD g ov' x:=
 ⟨b.vec.zk fun i q=>hg i q (b.id i q).1 (b.id i q).2,b.sc,fun j q=>⟨by have:=(b.id j q).1;omega,ho j (b.id j q).1 (b.id j q).2⟩⟩
def OB (R:Nat) (g h:H):Prop:=∀i c,R<i→g.get i=some c→h.get i=some c
theorem OB.trans {R:Nat} {a b c:H} (x:OB R a b) (y:OB R b c):OB R a c:=fun i d h q=>y i d h (x i d h q)
theorem yY (G:H) (hf:G.floor≤G.next) (y:vL) (oy:zW G y):∃(A G':H) (O:Nat),G.alloc (uQ u5)=A∧G.next=O∧A.get O=some (uQ u5)∧tD A O 0 9 (uQ y) (some (uQ u5))=some G'∧G'.get O=some (uQ y)∧Ext G G'∧G'.floor=G.floor∧O<G'.next:=by
 have ga:(G.alloc (uQ u5)).get G.next=some (uQ u5):=uW rfl
 have e1:Ext G ((G.alloc (uQ u5)).set G.next (uQ y)):=fun i c q=>by have:=G.lt _ _ q;rw[uU (by omega),u6 (by omega)];exact q
 exact⟨_,(G.alloc (uQ u5)).set G.next (uQ y),G.next,rfl,rfl,ga,vE (by simp;omega) rfl rfl (xV oy),by rw[uZ rfl,ga];rfl,e1,by simp,by simp⟩
def eX (X:Int):vv:={eA with zu:=X}
theorem Ig {X:Int} (h:X≠(wq Dl:Nat)):vQ [eX X]=false:=by
 have:vV (eX X)=false:=by
  rw[DV]
  have u:wU 0 Dl 2=some Dl:=by decide+kernel
  have:wU (eX X).method (eX X).packed (eX X).size=some Dl:=u
  rw[this]
  show(_&&(false||decide ((wq Dl:Int)=X)))=false
  rw[df (fun q=>h q.symm),Bool.or_self,Qx]
 unfold vQ
 simp [this]
theorem Gc {L:List vv} {f t:Int} (h:vQ L=false):wc L f t=(w9,2200):=by
 unfold wc;rw[if_neg (by rw[h];exact fun q=>by cases q.1)]
theorem zE {L:List vv} {f t:Int} (h:¬(vD f=true∧vD t=true∧f≠t)):wc L f t=(w9,2200):=by
 unfold wc;rw[if_neg fun q=>h q.2]
theorem Ck {L:List vv} {m:yJ} (h:vQ L=false∨xU m=false):wG L m=(w9,false,2200):=by
 unfold wG;rw[if_neg];rintro ⟨a,b⟩;rcases h with h|h
 · rw[h]at a;cases a
 · rw[h]at b;cases b
def ES (k t r:Int):yJ:=⟨k,0,t,r,[],[],[],[],[]⟩
theorem BS (k t r:Int):MJ (ES k t r):=⟨by show(0:Nat)<_;omega,by show(0:Nat)<_;omega,by show(0:Nat)<_;omega,by show(0:Nat)<_;omega,by show(0:Nat)<_;omega,fun s h=>(by cases h),fun s h=>(by cases h),fun s h=>(by cases h)⟩
theorem F4:xU (ES 0 0 0)=false:=by decide
theorem F5 {d:Int} (h:0<d):xU (ES 0 1 (-d))=false:=by
 have:wO (ES 0 1 (-d))=false:=by
  unfold wO ES;rw[if_pos rfl];simp [yU];omega
 unfold xU;rw[this,Qu,Qx]
theorem F6:xU (ES 3 1 0)=false:=by decide
theorem F7 {d:Int} (h:0<d):xU (ES (5+d) 1 0)=false:=by
 have:wO (ES (5+d) 1 0)=false:=by
  unfold wO ES;rw[if_neg (by show¬(5+d=0);omega),if_neg (by show¬(5+d=1);omega),if_neg (by show¬(5+d=2);omega),if_neg (by show¬(5+d=3);omega),if_neg (by show¬(5+d=4);omega)]
 unfold xU;rw[this,Qu,Qx]
theorem Fc (G:H) (hf:G.floor≤G.next) (v:AV) (l:List vh) (sv:v.sc=true) (hn:l.length<1125899906842624) (rd:wv 9 G v l.length (u9 l)) (hv:∀x∈l,wM G x∧x.2.sc=true) (x:vL) (ox:zW G x):
 ∃(y:vL) (h' A G':H) (O:Nat),G.alloc (uQ u5)=A∧G.next=O∧aQ AP.A 240 [.agg [v],.agg (uQ x)] A=some (.bO [.agg (uQ y),.bool (wG (l.map (·.1)) x.m).2.1,.int .i64 (wG (l.map (·.1)) x.m).2.2],h')∧y.m=(wG (l.map (·.1)) x.m).1∧A.get O=some (uQ u5)∧h'.get O=some (uQ u5)∧tD h' O 0 9 (uQ y) (some (uQ u5))=some G'∧G'.get O=some (uQ y)∧Ext G A∧Ext G G'∧G'.floor=G.floor∧O<G'.next:=by
 obtain⟨A,hA⟩:∃A,A=G.alloc (uQ u5):=⟨_,rfl⟩
 have xA:Ext G A:=by rw[hA];exact(Ext.refl G).alloc _
 have nA:A.next=G.next+1:=by rw[hA];simp
 have fA:A.floor=G.floor:=by rw[hA];simp
 have gA:A.get G.next=some (uQ u5):=by rw[hA];exact uW rfl
 obtain⟨y,h',k,em,a⟩:=H6 A (by omega) v l sv hn (rd.mono fun i c q=>xA i c q) (fun z hz=>⟨(hv z hz).1.mono xA,(hv z hz).2⟩) x (ox.mono xA)
 have gH:=a.ext _ _ gA
 have nx:=a.nx
 have yy:=a.wm
 have e1:Ext G (h'.set G.next (uQ y)):=fun i c q=>by have:=G.lt _ _ q;rw[uU (by omega)];exact a.ext _ _ (xA _ _ q)
 refine⟨y,h',A,h'.set G.next (uQ y),G.next,hA.symm,rfl,k,em,gA,gH,vE (by have:=a.fl;omega) rfl rfl (xV a.ok),by rw[uZ rfl,gH];rfl,xA,e1,by simp [a.fl,fA],by simp;omega⟩
theorem HP:AP.f224.body=.seq (at_ 0 AP.f224.body) (.seq (at_ 1 AP.f224.body) (.seq (at_ 2 AP.f224.body) (.seq (at_ 3 AP.f224.body) (.seq (at_ 4 AP.f224.body) (.seq (at_ 5 AP.f224.body) (.seq (at_ 6 AP.f224.body) (.seq (at_ 7 AP.f224.body) (.seq (at_ 8 AP.f224.body) (.seq (at_ 9 AP.f224.body) (.seq (at_ 10 AP.f224.body) (.seq (at_ 11 AP.f224.body) (.seq (at_ 12 AP.f224.body) (.seq (at_ 13 AP.f224.body) (DF 14 AP.f224.body)))))))))))))):=rfl
set_option maxHeartbeats 8000000 in
theorem Gi (which x:Int) (h:H):aQ AP.A 224 [.int .i64 which,.int .i64 x] h=some (.bool true,h):=by
 obtain⟨d,hd⟩:∃d,d=1+x%1024:=⟨_,rfl⟩
 have hd2:1≤d∧d≤1024:=by omega
 have b1:=G5 x
 have ww1:IntKind.wrap .i64 (1+x%1024)=d:=by rw[hd];exact wi (by omega)
 obtain⟨r,hr,hu⟩:=OY which 4 (by omega)
 have rm:bp .rem (.int .u64 (IntKind.wrap .u64 which)) (.int .u64 4)=some (.int .u64 r):=by
  show(if(4:Int)=0 then none else some (AV.int .u64 ((IntKind.wrap .u64 which).tmod 4)))=_
  rw[if_neg (by decide),show(IntKind.wrap .u64 which).tmod 4=(r:Int)from hu]
 have cr:IntKind.wrap .i64 (r:Int)=r:=wi (by omega)
 have k0:∀g,aQ AP.A 242 [] g=some (.bool true,g):=Et
 obtain⟨X,hX⟩:∃Y,Y=bits .xor .i64 (wq Dl:Nat) d:=⟨_,rfl⟩
 have ne:X≠(wq Dl:Nat):=by
  obtain⟨n,hn⟩:∃n:Nat,d=n:=⟨d.toNat,by omega⟩
  have:=Hq Dl
  rw[hX,hn,Ds (by omega) (by omega)]
  have:=MH (a:=wq Dl) (d:=n) (by omega)
  omega
 obtain⟨E,hE⟩:∃E,E=uY eA (zr [1,0,0,0]):=⟨_,rfl⟩
 have lE:E.length=9:=by rw[hE];rfl
 have cE:AV.aB E=true:=by rw[hE];exact wY (Cg _)
 have fE:setFrom Z9 0 E=E:=by rw[hE];rfl
 have ks:∀g,aQ AP.A 246 [.str ⟨#[97]⟩,.int .i64 0,.int .i64 1,.str ⟨#[104,105]⟩] g=some (.agg E,g):=fun g=>by rw[hE];exact AH g nA Dl 0 1 (by omega) (by decide)
 obtain⟨G,hG⟩:∃G,G=((h.dU.alloc E).alloc [.aO]).set (h.next+1) [.aD h.next 0 1 9]:=⟨_,rfl⟩
 have g1:G.get h.next=some E:=by rw[hG];simp (disch:=first|omega|(simp only[wz,Qm,Qo,uy,Nat.reduceAdd];first|done|omega|fail)|fail)only[wz,AA,Qp,Qm,Qo,uy,Nat.reduceAdd]
 have g2:G.get (h.next+1)=some [.aD h.next 0 1 9]:=by rw[hG];simp (disch:=first|omega|(simp only[wz,Qm,Qo,uy,Nat.reduceAdd];first|done|omega|fail)|fail)only[wz,AA,Qp,Qm,Qo,uy,Nat.reduceAdd]
 have gf:G.floor=h.next:=by rw[hG];simp
 have gn:G.next=h.next+1+1:=by rw[hG];simp
 have sv:(AV.aD h.next 0 1 9).sc=true:=rfl
 have lz:([pA].length:Nat)<1125899906842624:=by show 1<_;omega
 have rdA:∀{g:H},g.get h.next=some E→wv 9 g (.aD h.next 0 1 9) [pA].length (u9 [pA]):=fun hg=>Is (by rw[←hE];exact hg)
 have b03:aK (aQ AP.A) bA (.seq (at_ 0 AP.f224.body) (.seq (at_ 1 AP.f224.body) (.seq (at_ 2 AP.f224.body) (at_ 3 AP.f224.body)))) (params 0 [.int .i64 which,.int .i64 x]) h.dU=some (.normal,[(0,.int .i64 which),(5,.int .i64 d),(6,.aC (h.next+1) 0)],G):=by
  have gg:=hG.symm
  clear hE rdA hd hX
  simp (disch:=first|omega|(simp only[wz,Qm,Qo,uy,Nat.reduceAdd];first|done|omega|fail)|(simp (disch:=first|omega|(simp only[wz,Qm,Qo,uy,Nat.reduceAdd];first|done|omega|fail)|fail)only[wz,AA,Qp,Qm,Qo,uy,Nat.reduceAdd];done)|fail)only[go_sem,uX,Ch,AP.f224,vG,vB,k0,b1,ww1,ks,lE,cE,fE,gg]
 obtain⟨w,h1,acc,k1,e1,m1,c1⟩:=Hp G (by omega) (.aD h.next 0 1 9) [pA] rfl (by show 1<_;omega) (rdA g1) (fun z hz=>⟨(xu G z hz).1,(xu G z hz).2,by obtain rfl:=QL.1 hz;show 4<_;omega⟩)
 have z1:=e1.ext _ _ g1
 have z2:=e1.ext _ _ g2
 have n1:=e1.nx
 obtain⟨u,rfl⟩:∃u,acc=[(eA,u)]:=by
  match acc,m1 with
  |[(e,u)],m1=>simp [pA]at m1;subst m1;exact⟨u,rfl⟩
 obtain⟨cu1,cu2,cu3,i,ci,q1,q2,q3⟩:=c1 (eA,u) (QL.2 rfl)
 obtain⟨j,rfl,oj,oj2⟩:∃j,w=.aD j 0 1 9∧h1.get j=some (uY eA u)∧h1.floor≤j:=by
  obtain⟨_,⟨_,q⟩|⟨j,p1,p2,p3,_⟩⟩:=e1.own
  · cases q
  · exact⟨j,p1,by rw[p2];rfl,p3⟩
 have ge:=e1.ge j rfl
 have ji:j≠i:=fun q=>(cu3 i (by rw[q1];rfl)).2.2.1 (by rw[←q];rfl)
 have hq3:=q3 (by show 0<4;omega)
 subst hq3
 have q1':u=.aD i 0 4 1:=q1
 subst q1'
 obtain⟨F,hF⟩:∃F,F=uY eA (.aD i 0 4 1):=⟨_,rfl⟩
 obtain⟨F2,hF2⟩:∃F,F=uY (eX X) (.aD i 0 4 1):=⟨_,rfl⟩
 rw[←hF]at oj
 have F8:F[8]?=some (.int .i64 (wq Dl:Nat)):=by rw[hF];rfl
 have lF:F.length=9:=by rw[hF];rfl
 have sF:F.set 8 (.int .i64 X)=F2:=by rw[hF,hF2];rfl
 obtain⟨H2,hH2⟩:∃g,g=(h1.alloc [.aO]).set h1.next [.aD j 0 1 9]:=⟨_,rfl⟩
 have jn:=h1.lt _ _ oj
 have iN:=h1.lt _ _ q2
 have y1:H2.get h1.next=some [.aD j 0 1 9]:=by rw[hH2];simp (disch:=first|omega|(simp only[wz,Qm,Qo,uy,Nat.reduceAdd];first|done|omega|fail)|fail)only[wz,AA,Qp,Qm,Qo,uy,Nat.reduceAdd]
 have yk:∀k,k<h1.next→H2.get k=h1.get k:=fun k hk=>by rw[hH2,uU (by omega),u6 (by omega)]
 have yj:H2.get j=some F:=by rw[yk j jn];exact oj
 have yf:H2.floor=h.next:=by rw[hH2];simp [e1.fl,gf]
 have yn:H2.next=h1.next+1:=by rw[hH2];simp
 have b4:aK (aQ AP.A) bA (at_ 4 AP.f224.body) [(0,.int .i64 which),(5,.int .i64 d),(6,.aC (h.next+1) 0)] G=some (.normal,[(0,.int .i64 which),(5,.int .i64 d),(6,.aC (h.next+1) 0),(7,.aC h1.next 0)],H2):=by
  have gg:=hH2.symm
  clear hE rdA hd hX e1 c1 q1 q2 q3 cu1 cu2 cu3 hF hF2 yk
  simp (disch:=first|omega|(simp only[wz,Qm,Qo,uy,Nat.reduceAdd,g2];first|done|omega|fail)|(simp (disch:=first|omega|(simp only[wz,Qm,Qo,uy,Nat.reduceAdd,g2];first|done|omega|fail)|fail)only[wz,AA,Qp,Qm,Qo,uy,Nat.reduceAdd,g2];done)|fail)only[go_sem,uX,Ch,AP.f224,vG,vB,g2,wo,k1,gg]
 obtain⟨H3,hH3⟩:∃g,g=H2.set j F2:=⟨_,rfl⟩
 have st3:tD H2 j 8 1 [.int .i64 X] (some F)=some H3:=by rw[tV (by omega) (by omega) rfl,sF,hH3]
 have x1:H3.get h1.next=some [.aD j 0 1 9]:=by rw[hH3,uU (by omega)];exact y1
 have xk:∀k,k<h1.next→k≠j→H3.get k=h1.get k:=fun k hk hj=>by rw[hH3,uU hj,yk k hk]
 have xj:H3.get j=some F2:=by rw[hH3,uZ rfl,yj];rfl
 have xf:H3.floor=h.next:=by rw[hH3];simp [yf]
 have xn:H3.next=h1.next+1:=by rw[hH3];simp [yn]
 have xi:H3.get i=some (ints eA.vec):=by rw[xk i iN (fun q=>ji q.symm)];exact q2
 have x0:H3.get h.next=some E:=by rw[xk _ (by omega) (by omega)];exact z1
 have x00:H3.get (h.next+1)=some [.aD h.next 0 1 9]:=by rw[xk _ (by omega) (by omega)];exact z2
 have b5:aK (aQ AP.A) bA (at_ 5 AP.f224.body) [(0,.int .i64 which),(5,.int .i64 d),(6,.aC (h.next+1) 0),(7,.aC h1.next 0)] H2=some (.normal,[(0,.int .i64 which),(5,.int .i64 d),(6,.aC (h.next+1) 0),(7,.aC h1.next 0)],H3):=by
  have xq:bits .xor .i64 (wq Dl:Nat) d=X:=hX.symm
  clear hE rdA hd hX e1 c1 q1 q2 q3 cu1 cu2 cu3 hF hF2 yk xk ne
  generalize wq Dl=CC at *
  simp (disch:=omega)only[go_sem,uX,AP.f224,vG,vB,y1,yj,F8,lF,xq,st3]
 have rdX:∀{g:H},g.get j=some F2→wv 9 g (.aD j 0 1 9) [((eX X,.aD i 0 4 1):vh)].length (u9 [((eX X,.aD i 0 4 1):vh)]):=fun {g} hg=>by
  have:u9 [((eX X,.aD i 0 4 1):vh)]=F2:=by rw[hF2];rfl
  rw[this];exact Gd hg (by rw[hF2];rfl)
 have hvX:∀{g:H},g.get i=some (ints eA.vec)→∀x∈[((eX X,.aD i 0 4 1):vh)],wM g x∧x.2.sc=true:=fun {g} hg x hx=>by
  obtain rfl:=QL.1 hx
  exact⟨wM.obj (e:=eX X) (l:=eA.vec) hg rfl rfl (by show nA.size<_;decide) (by show Dl.size<_;decide),rfl⟩
 have z0:([.int .i64 0,.int .i64 0,.int .i64 0,.int .i64 0,.aO,.aO,.aO,.aO,.aO]:List AV)=uQ u5:=rfl
 have cz:AV.aB (uQ u5)=true:=rfl
 have mX:[((eX X,.aD i 0 4 1):vh)].map (·.1)=[eX X]:=rfl
 have k6:=xX H3 (.aD j 0 1 9) _ rfl (by show 1<_;omega) (rdX xj) (hvX xi) 0 1
 rw[mX,Gc (Ig ne)]at k6
 obtain⟨A6,G6,O6,a6,m6,ga6,st6,go6,e6,f6,lt6⟩:=yY H3 (by omega) _ (wI H3 AG)
 have b6:aK (aQ AP.A) bA (at_ 6 AP.f224.body) [(0,.int .i64 which),(5,.int .i64 d),(6,.aC (h.next+1) 0),(7,.aC h1.next 0)] H3=some (.normal,[(0,.int .i64 which),(5,.int .i64 d),(6,.aC (h.next+1) 0),(7,.aC h1.next 0),(9,.int .i64 2200)],G6):=by
  clear hE rdA hd hX e1 c1 q1 q2 q3 cu1 cu2 cu3 hF hF2 yk xk ne e6 rdX hvX
  generalize uQ u5=Z at *
  generalize uQ (vZ w9)=Y at *
  simp (disch:=omega)only[go_sem,uX,AP.f224,vG,vB,x1,wo,k6,z0,cz,a6,m6,ga6,st6]
 have p6:=e6 _ _ x00
 have p6E:=e6 _ _ x0
 have k7:=xX G6 _ [pA] sv lz (rdA p6E) (xu G6) (-d) 1
 rw[Ax,zE (by rintro ⟨a,_⟩;simp [vD]at a;omega)]at k7
 obtain⟨A7,G7,O7,a7,m7,ga7,st7,go7,e7,f7,lt7⟩:=yY G6 (by omega) _ (wI G6 AG)
 have b7:aK (aQ AP.A) bA (at_ 7 AP.f224.body) [(0,.int .i64 which),(5,.int .i64 d),(6,.aC (h.next+1) 0),(7,.aC h1.next 0),(9,.int .i64 2200)] G6=some (.normal,[(0,.int .i64 which),(5,.int .i64 d),(6,.aC (h.next+1) 0),(7,.aC h1.next 0),(9,.int .i64 2200),(11,.int .i64 2200)],G7):=by
  have wn:IntKind.wrap .i64 (0-d)= -d:=by rw[wi (by omega)];omega
  clear hE rdA hd hX e1 c1 q1 q2 q3 cu1 cu2 cu3 hF hF2 yk xk ne e6 e7 rdX hvX
  generalize uQ u5=Z at *
  generalize uQ (vZ w9)=Y at *
  simp (disch:=omega)only[go_sem,uX,AP.f224,vG,vB,p6,wo,tx,wn,k7,z0,cz,a7,m7,ga7,st7]
 have p7:=e7 _ _ p6
 have p7E:=e7 _ _ p6E
 have k8:=xX G7 _ [pA] sv lz (rdA p7E) (xu G7) 0 (3+d)
 rw[Ax,zE (by rintro ⟨_,a,_⟩;simp [vD]at a;omega)]at k8
 obtain⟨A8,G8,O8,a8,m8,ga8,st8,go8,e8,f8,lt8⟩:=yY G7 (by omega) _ (wI G7 AG)
 have b8:aK (aQ AP.A) bA (at_ 8 AP.f224.body) [(0,.int .i64 which),(5,.int .i64 d),(6,.aC (h.next+1) 0),(7,.aC h1.next 0),(9,.int .i64 2200),(11,.int .i64 2200)] G7=some (.normal,[(0,.int .i64 which),(5,.int .i64 d),(6,.aC (h.next+1) 0),(7,.aC h1.next 0),(9,.int .i64 2200),(11,.int .i64 2200),(13,.int .i64 2200)],G8):=by
  have wa:IntKind.wrap .i64 (3+d)=3+d:=wi (by omega)
  clear hE rdA hd hX e1 c1 q1 q2 q3 cu1 cu2 cu3 hF hF2 yk xk ne e6 e7 e8 rdX hvX
  generalize uQ u5=Z at *
  generalize uQ (vZ w9)=Y at *
  simp (disch:=omega)only[go_sem,uX,AP.f224,vG,vB,p7,wo,wa,k8,z0,cz,a8,m8,ga8,st8]
 have p8:=e8 _ _ p7
 have p8E:=e8 _ _ p7E
 have k9:=xX G8 _ [pA] sv lz (rdA p8E) (xu G8) 2 2
 rw[Ax,zE (fun q=>q.2.2 rfl)]at k9
 obtain⟨A9,G9,O9,a9,m9,ga9,st9,go9,e9,f9,lt9⟩:=yY G8 (by omega) _ (wI G8 AG)
 have b9:aK (aQ AP.A) bA (at_ 9 AP.f224.body) [(0,.int .i64 which),(5,.int .i64 d),(6,.aC (h.next+1) 0),(7,.aC h1.next 0),(9,.int .i64 2200),(11,.int .i64 2200),(13,.int .i64 2200)] G8=some (.normal,[(0,.int .i64 which),(5,.int .i64 d),(6,.aC (h.next+1) 0),(7,.aC h1.next 0),(9,.int .i64 2200),(11,.int .i64 2200),(13,.int .i64 2200),(15,.int .i64 2200)],G9):=by
  clear hE rdA hd hX e1 c1 q1 q2 q3 cu1 cu2 cu3 hF hF2 yk xk ne e6 e7 e8 e9 rdX hvX
  generalize uQ u5=Z at *
  generalize uQ (vZ w9)=Y at *
  simp (disch:=omega)only[go_sem,uX,AP.f224,vG,vB,p8,wo,k9,z0,cz,a9,m9,ga9,st9]
 have p9:=e9 _ _ p8
 have p9E:=e9 _ _ p8E
 have sO:=BU zX 0 1
 have k10:=xX G9 _ [pA] sv lz (rdA p9E) (xu G9) 0 1
 rw[Ax,Gb.1]at k10
 obtain⟨A10,G10,O10,a10,m10,ga10,st10,go10,e10,f10,lt10⟩:=yY G9 (by omega) _ (wI G9 sO)
 have b10:aK (aQ AP.A) bA (at_ 10 AP.f224.body) [(0,.int .i64 which),(5,.int .i64 d),(6,.aC (h.next+1) 0),(7,.aC h1.next 0),(9,.int .i64 2200),(11,.int .i64 2200),(13,.int .i64 2200),(15,.int .i64 2200)] G9=some (.normal,[(0,.int .i64 which),(5,.int .i64 d),(6,.aC (h.next+1) 0),(7,.aC h1.next 0),(9,.int .i64 2200),(11,.int .i64 2200),(13,.int .i64 2200),(15,.int .i64 2200),(16,.aC O10 0),(17,.int .i64 0)],G10):=by
  clear hE rdA hd hX e1 c1 q1 q2 q3 cu1 cu2 cu3 hF hF2 yk xk ne e6 e7 e8 e9 e10 rdX hvX
  generalize uQ u5=Z at *
  generalize uQ (vZ (wc zX 0 1).1)=Y at *
  simp (disch:=omega)only[go_sem,uX,AP.f224,vG,vB,p9,wo,k10,z0,cz,a10,m10,ga10,st10]
 have XX:Ext H3 G10:=fun i c q=>e10 _ _ (e9 _ _ (e8 _ _ (e7 _ _ (e6 _ _ q))))
 have p10:=e10 _ _ p9
 have p10E:=e10 _ _ p9E
 have x10:=XX _ _ x1
 obtain⟨y18,w18,A18,G18,O18,k18,m18,a18,n18,ga18,st18,go18,e18,ok18,f18,l18,l18'⟩:=xO G10 (by omega) (.aD j 0 1 9) _ rfl (by show 1<_;omega) (rdX (XX _ _ xj)) (hvX (XX _ _ xi)) _ (wI G10 sO)
 rw[mX,Ck (.inl (Ig ne))]at k18
 have b11:aK (aQ AP.A) bA (at_ 11 AP.f224.body) [(0,.int .i64 which),(5,.int .i64 d),(6,.aC (h.next+1) 0),(7,.aC h1.next 0),(9,.int .i64 2200),(11,.int .i64 2200),(13,.int .i64 2200),(15,.int .i64 2200),(16,.aC O10 0),(17,.int .i64 0)] G10=some (.normal,[(0,.int .i64 which),(5,.int .i64 d),(6,.aC (h.next+1) 0),(9,.int .i64 2200),(11,.int .i64 2200),(13,.int .i64 2200),(15,.int .i64 2200),(17,.int .i64 0),(19,.bool false),(20,.int .i64 2200)],G18):=by
  have lx:(uQ (vZ (wc zX 0 1).1)).length=9:=rfl
  have tX:List.take 9 (uQ (vZ (wc zX 0 1).1))=uQ (vZ (wc zX 0 1).1):=rfl
  clear hE rdA hd hX e1 c1 q1 q2 q3 cu1 cu2 cu3 hF hF2 yk xk ne e6 e7 e8 e9 e10 rdX hvX XX e18 ok18 m18
  generalize uQ u5=Z at *
  generalize uQ (vZ (wc zX 0 1).1)=Y at *
  generalize uQ y18=Y18 at *
  simp (disch:=omega)only[go_sem,uX,AP.f224,vG,vB,x10,wo,go10,D0,vM,lx,tX,Qs,k18,z0,cz,a18,n18,ga18,st18]
 have p18:=e18 _ _ p10
 have p18E:=e18 _ _ p10E
 obtain⟨T,hT⟩:∃T:List AV,T=[.int .i64 0,.int .i64 0,.int .i64 0,.int .i64 0,.aO,.aO,.aO,.aO,.aO,.int .i64 0,.int .i64 0,.int .i64 1,.int .i64 (-d),.aO,.aO,.aO,.aO,.aO,.int .i64 3,.int .i64 0,.int .i64 1,.int .i64 0,.aO,.aO,.aO,.aO,.aO,.int .i64 (5+d),.int .i64 0,.int .i64 1,.int .i64 0,.aO,.aO,.aO,.aO,.aO]:=⟨_,rfl⟩
 obtain⟨R,hR⟩:∃g,g=G18.alloc T:=⟨_,rfl⟩
 obtain⟨Q,hQ⟩:∃Q,Q=G18.next:=⟨_,rfl⟩
 have eR:Ext G18 R:=by rw[hR];exact(Ext.refl G18).alloc _
 have fR:R.floor=h.next:=by rw[hR];simp;omega
 have nR:R.next=Q+1:=by rw[hR,hQ];simp
 have gQ:R.get Q=some T:=by rw[hR];exact uW hQ
 have b12:aK (aQ AP.A) bA (at_ 12 AP.f224.body) [(0,.int .i64 which),(5,.int .i64 d),(6,.aC (h.next+1) 0),(9,.int .i64 2200),(11,.int .i64 2200),(13,.int .i64 2200),(15,.int .i64 2200),(17,.int .i64 0),(19,.bool false),(20,.int .i64 2200)] G18=some (.normal,[(0,.int .i64 which),(6,.aC (h.next+1) 0),(9,.int .i64 2200),(11,.int .i64 2200),(13,.int .i64 2200),(15,.int .i64 2200),(17,.int .i64 0),(19,.bool false),(20,.int .i64 2200),(21,.aD Q 0 4 9)],R):=by
  have wn:IntKind.wrap .i64 (0-d)= -d:=by rw[wi (by omega)];omega
  have wa:IntKind.wrap .i64 (5+d)=5+d:=wi (by omega)
  have z:G18.alloc [.int .i64 0,.int .i64 0,.int .i64 0,.int .i64 0,.aO,.aO,.aO,.aO,.aO,.int .i64 0,.int .i64 0,.int .i64 1,.int .i64 (-d),.aO,.aO,.aO,.aO,.aO,.int .i64 3,.int .i64 0,.int .i64 1,.int .i64 0,.aO,.aO,.aO,.aO,.aO,.int .i64 (5+d),.int .i64 0,.int .i64 1,.int .i64 0,.aO,.aO,.aO,.aO,.aO]=R:=by rw[hR,hT]
  have hQ':=hQ.symm
  clear hE rdA hd hX e1 c1 q1 q2 q3 cu1 cu2 cu3 hF hF2 yk xk ne e6 e7 e8 e9 e10 rdX hvX XX e18 ok18 m18 hT hR eR z0
  simp (disch:=omega)only[go_sem,uX,AP.f224,vG,vB,tx,wn,wa,AB,dM,z,hQ']
 have p19:=eR _ _ p18
 have p19E:=eR _ _ p18E
 obtain⟨mr,tr,gr,sr,br⟩:∃mr:yJ,List.take 9 (List.drop (r* 9) T)=uQ (vZ mr)∧r* 9+9≤T.length∧MJ mr∧xU mr=false:=by
  rw[hT]
  match r,hr with
  |0,_=>exact⟨ES 0 0 0,rfl,by simp,BS _ _ _,F4⟩
  |1,_=>exact⟨ES 0 1 (-d),rfl,by simp,BS _ _ _,F5 (by omega)⟩
  |2,_=>exact⟨ES 3 1 0,rfl,by simp,BS _ _ _,F6⟩
  |3,_=>exact⟨ES (5+d) 1 0,rfl,by simp,BS _ _ _,F7 (by omega)⟩
 obtain⟨y22,w22,A22,G22,O22,a22,n22,k22,m22,ga22,gw22,st22,go22,eA22,e22,f22,lt22⟩:=Fc R (by omega) _ [pA] sv lz (rdA p19E) (xu R) _ (wI R sr)
 rw[show(vZ mr).m=mr from rfl,Ax,Ck (.inr br)]at k22
 have b13:aK (aQ AP.A) bA (at_ 13 AP.f224.body) [(0,.int .i64 which),(6,.aC (h.next+1) 0),(9,.int .i64 2200),(11,.int .i64 2200),(13,.int .i64 2200),(15,.int .i64 2200),(17,.int .i64 0),(19,.bool false),(20,.int .i64 2200),(21,.aD Q 0 4 9)] R=some (.normal,[(9,.int .i64 2200),(11,.int .i64 2200),(13,.int .i64 2200),(15,.int .i64 2200),(17,.int .i64 0),(19,.bool false),(20,.int .i64 2200),(23,.bool false),(24,.int .i64 2200)],G22):=by
  have Mq:=eA22 _ _ p19
  have Ms:=eA22 _ _ gQ
  have rI:(0:Int)≤(r:Int)∧(r:Int)<4:=⟨by omega,by omega⟩
  have it:((r:Nat):Int).toNat=r:=by omega
  have r9:9* r=r* 9:=by omega
  clear hE rdA hd hX e1 c1 q1 q2 q3 cu1 cu2 cu3 hF hF2 yk xk ne e6 e7 e8 e9 e10 rdX hvX XX e18 ok18 m18 hT hR eR e22 eA22 m22 br sr b03 b4 b5 b6 b7 b8 b9 b10 b11 b12
  generalize uQ u5=Z at *
  generalize uQ (vZ mr)=Y at *
  generalize uQ y22=Y22 at *
  simp (disch:=omega)only[go_sem,uX,AP.f224,vG,vB,z0,cz,xE,Af,a22,n22,Mq,wo,rm,cr,rI,it,r9,Ms,D0,vM,gr,tr,k22,ga22,gw22,st22]
 have kc:=fun (g:H) n=>Ir g n
 simp only[I]at kc
 have b14:aK (aQ AP.A) bA (DF 14 AP.f224.body) [(9,.int .i64 2200),(11,.int .i64 2200),(13,.int .i64 2200),(15,.int .i64 2200),(17,.int .i64 0),(19,.bool false),(20,.int .i64 2200),(23,.bool false),(24,.int .i64 2200)] G22=some (.ret,[(4,.bool true)],G22):=by
  clear hE rdA hd hX e1 c1 q1 q2 q3 cu1 cu2 cu3 hF hF2 yk xk ne e6 e7 e8 e9 e10 rdX hvX XX e18 ok18 m18 hT hR eR e22 eA22 m22 br sr b03 b4 b5 b6 b7 b8 b9 b10 b11 b12 b13
  simp (disch:=omega)only[go_sem,uX,AP.f224,AO,AQ,kc]
 have hb:aK (aQ AP.A) bA AP.f224.body (params 0 [.int .i64 which,.int .i64 x]) h.dU=some (.ret,[(4,.bool true)],G22):=by
  rw[HP]
  refine Ou b03 ?_
  rw[rk,b4,r0,rk,b5,r0,rk,b6,r0,rk,b7,r0,rk,b8,r0,rk,b9,r0,rk,b10,r0,rk,b11,r0,rk,b12,r0,rk,b13,r0]
  exact b14
 exact tB (fn:=AP.f224) (h2:=G22) (e:=[(4,.bool true)]) rfl rfl rfl hb rfl rfl
theorem AX (r:List (Ty×List AV)) (h:r.map (·.1)=[Dz,Dz]) (hp:∀x∈r,Sh reachBytes x.1 x.2):aQ AP.A 224 (r.map jM) H.empty=some (.bool true,H.empty):=by
 obtain⟨x,y,rfl,h1,h2⟩:=OR h hp
 obtain⟨a,rfl,_⟩:=Gy h1
 obtain⟨b,rfl,_⟩:=Gy h2
 exact Gi a b H.empty
end Ab
