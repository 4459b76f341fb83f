/- Part C5. -/
import Derived.Test.YtcapkjggnnakfaaGreatDoorC4
set_option linter.unusedSimpArgs false
set_option linter.unusedVariables false
set_option maxRecDepth 100000
namespace Ab
open Go
theorem EM {h:H} {w:AV} {k z:Nat} {cs:List AV} (r:xo 1 h w k cs) (hf:h.floor≤h.next) (hc:AV.aB cs=true) (hr:k=0∨roomy z k=true):∃v' h',kR (h.alloc []) 1 z (.aD h.next 0 0 1) w=some (v',h')∧v'.cells=[v']∧v'.sc=true∧xo 1 h' v' k cs∧(∀i,i<h.next→h'.get i=h.get i)∧h'.floor=h.floor∧h.next≤h'.next∧∀j,v'.id?=some j→h.next≤j∧j<h'.next:=by
 by_cases c:k=0
 · subst c
   have e:cs=[]:=Xm (by have:=r.2.1;omega)
   subst e
   refine⟨_,_,CM r,rfl,rfl,⟨?_,rfl,fun s q=>by cases q⟩,fun i hi=>by rw[vS (by omega)],by simp,by simp,fun j q=> ?_⟩
   · simp only[aT,if_true]
     rw[vO rfl];rfl
   · obtain rfl:=uS q;simp
 · have hl:=r.2.1
   refine⟨_,_,Av r hf (by omega) (by omega) (hr.resolve_left c) hc,rfl,rfl,⟨?_,hl,fun s q=>by cases q⟩,fun i hi=>by rw[vS (by simp;omega),H.eh,if_neg (by omega),vS (by omega)],by simp,by simp;omega,fun j q=> ?_⟩
   · simp only[aT,if_true]
     rw[vO (by simp),uZ,if_pos (by omega),Xf,vA (by omega)]
   · obtain rfl:=uS q;simp
structure SA (h:H) (ov:AV) (x:xx):Prop where
 vec:Rd h x.2 (ints x.1.2)
 sc:x.2.sc=true
 id:∀j,x.2.id?=some j→j<h.next∧ov.id?≠some j
theorem SA.mono {h g:H} {ov ov':AV} {x:xx} (b:SA h ov x) (hn:h.next≤g.next) (hg:∀j,x.2.id?=some j→j<h.next→ov.id?≠some j→g.get j=h.get j) (ho:∀j,j<h.next→ov.id?≠some j→ov'.id?≠some j):SA g ov' x:=
 ⟨b.vec.AN fun i q=>hg i q (b.id i q).1 (b.id i q).2,b.sc,fun j q=>⟨by have:=(b.id j q).1;omega,ho j (b.id j q).1 (b.id j q).2⟩⟩
theorem Ie:∀l:List ByteArray,AV.aB (wW l)=true
 |[]=>rfl
 |s::l=>by have:=Ie l;unfold wW at *;simpa using this
theorem Hs {l : List xx} (hl : l.length < 3600000000000) {vf : AV} (P Q R : Nat) {C : List AV} (c6 : C[6]? = some vf) (hb : H) (g0 : hb.get P = some C) (rd : ED hb vf l) (hz : ∀ x ∈ l, x.1.2.length < 20000000000000) (hs : ∀ x ∈ l, x.2.sc = true) (y : wJ) (hR : hb.next ≤ R) (hfR : hb.floor ≤ hb.next) :
 ∀(q p:List xx),l=p++q→∀(h:H) (ov:AV) (acc:List xx),Ext hb h→R<h.next→h.floor=hb.floor→h.get R=some (vH {y with vf:=ov})→
 wo 2 h ov acc.length (wO acc)→acc.map (·.1)=p.map (·.1)→(∀x∈acc,SA h ov x)→(∀j,ov.id?=some j→R<j)→(∀x∈acc,∀j,x.2.id?=some j→R<j)→
 ∃ e' h' ov' acc', Lp AP.A [1, 2, 3, 4] AP.f227L0 [(1, .aC P 0), (2, .aC Q 0), (3, .aC R 0), (4, .int .i64 p.length)] h = some (.exit 0, e', h') ∧ look e' 2 = .aC Q 0 ∧ look e' 3 = .aC R 0 ∧
   Ext hb h'∧(∀i,i≠R→i<R→h'.get i=h.get i)∧R<h'.next∧h'.floor=hb.floor∧h'.get R=some (vH {y with vf:=ov'})∧(∀i,R<i→i<h.next→ov.id?≠some i→h'.get i=h.get i)∧wo 2 h' ov' acc'.length (wO acc')∧acc'.map (·.1)=l.map (·.1)∧(∀x∈acc',SA h' ov' x)∧(∀j,ov'.id?=some j→R<j)∧h.next≤h'.next∧∀x∈acc',∀j,x.2.id?=some j→R<j
 | [], p, hp, h, ov, acc, hx, hn, hf, hg, o, ha, hv, ho, hw => by
   rw[Xe]at hp;subst hp
   have gP:=hx P _ g0
   have ln:=rd.rd.len
   refine⟨[(1,.aC P 0),(2,.aC Q 0),(3,.aC R 0),(4,.int .i64 l.length),(31,.bool false)],h,ov,acc,tF ?_,rfl,rfl,hx,fun _ _ _=>rfl,hn,hf,hg,fun _ _ _ _=>rfl,o,ha,hv,ho,u6 _,hw⟩
   simp (disch:=omega)only[go_sem,vN,AP.f227L0,gP,c6,ln]
 | x :: q, p, hp, h, ov, acc, hx, hn, hf, hg, o, ha, hv, ho, hw => by
   have hlen:l.length=p.length+(q.length+1):=by rw[hp];simp
   have hxl:l[p.length]?=some x:=by rw[hp];simp
   have hxm:x∈l:=by rw[hp];simp
   have gP:=hx P _ g0
   have pn:=h.lt _ _ gP
   have ln:=rd.rd.len
   have al:=Xy List.length ha
   rw[Xd,Xd]at al
   obtain⟨ad,a1,a2,a4,a3⟩:=rd.rd.at_
   have hI:(0:Int)≤(p.length:Int)∧(p.length:Int)<l.length:=⟨by omega,by omega⟩
   have b1:=a1 _ hI
   have b2:=(a3 h fun i c q=>hx i c q).2 _ hI
   rw[xI,show wO l=l.flatMap IB from rfl,Cy yr hxl]at b2
   have b2':bU true 2 (ad p.length 0) h=some (.agg [.str x.1.1,x.2]):=b2
   have sx:=hs x hxm
   obtain⟨h1,eh1⟩:∃g,g=(h.alloc [.str ⟨#[]⟩,.aQ]).set h.next [.str x.1.1,x.2]:=⟨_,rfl⟩
   have n1:h1.next=h.next+1:=by rw[eh1];simp
   have f1:h1.floor=hb.floor:=by rw[eh1];simp [hf]
   have low1:∀i,i<h.next→h1.get i=h.get i:=fun i hi=>by rw[eh1,vL (by omega),vS (by omega)]
   have g1:h1.get h.next=some [.str x.1.1,x.2]:=by rw[eh1,vP rfl,vO rfl];rfl
   have ga:(h.alloc [.str ⟨#[]⟩,.aQ]).get h.next=some [.str ⟨#[]⟩,.aQ]:=vO rfl
   have B0:ur (h.alloc [.str ⟨#[]⟩,.aQ]) h.next 0 2 [.str x.1.1,x.2] (some [.str ⟨#[]⟩,.aQ])=some h1:=by rw[eh1];exact wH (by simp;omega) rfl rfl (by simp [sx])
   have rv:=((rd.vec x hxm).1.mono (g:=h1) fun i c q=>by rw[low1 i (by have:=hx i c q;exact h.lt _ _ this)];exact hx i c q).Bb
   rw[pP]at rv
   have zx:=hz x hxm
   obtain⟨v',h2,p1,p2,p3,p4,p5,p6,p7,p8⟩:=EM (z:=8) rv (by omega) (yf _) (.inr (by simp [roomy];omega))
   obtain⟨h3,eh3⟩:∃g,g=h2.set h.next [.str x.1.1,v']:=⟨_,rfl⟩
   have g2:h2.get h.next=some [.str x.1.1,x.2]:=by rw[p5 _ (by omega)];exact g1
   have st3:ur h2 h.next 1 1 [v'] (some [.str x.1.1,x.2])=some h3:=by rw[uK (by omega) (by simp) p3,eh3];rfl
   have g3:h3.get h.next=some [.str x.1.1,v']:=by rw[eh3,vP rfl,g2];rfl
   have low3:∀i,i<h.next→h3.get i=h.get i:=fun i hi=>by rw[eh3,vL (by omega),p5 _ (by omega),low1 i hi]
   have f3:h3.floor=hb.floor:=by rw[eh3];simp [p6,f1]
   have n3:h3.next=h2.next:=by rw[eh3];simp
   have R3:h3.get R=some (vH {y with vf:=ov}):=by rw[low3 R hn];exact hg
   have o3:wo 2 h3 ov acc.length (wO acc):=o.mono (by rw[f3,hf]) fun i q=>low3 i (o.lt q).2
   obtain⟨w,h4,q1,q2,q3,q4,q5,q6⟩:=o3.push (by omega) (z:=40) (m:=1) (by omega) (by omega) [.str x.1.1,v'] rfl (by simp [p3]) (by simp [roomy];omega)
   obtain⟨h5,eh5⟩:∃g,g=h4.set R (vH {y with vf:=w}):=⟨_,rfl⟩
   have oR:ov.id?≠some R:=fun q=>by have:=ho R q;omega
   have R4:h4.get R=some (vH {y with vf:=ov}):=by rw[q5 R oR (by omega)];exact R3
   have sw:=q2.sc
   have cw:=xm sw
   have st5:ur h4 R 6 1 [w] (some (vH {y with vf:=ov}))=some h5:=by rw[uK (by rw[q3,f3];omega) (by simp [vH]) sw,eh5];rfl
   have R5:h5.get R=some (vH {y with vf:=w}):=by rw[eh5,vP rfl,R4];rfl
   have wj:∀j,w.id?=some j→j=h3.next+1:=fun j q=>by rw[q6]at q;exact(uS q).symm
   have hi5:∀i,i≠R→ov.id?≠some i→i<h.next→h5.get i=h.get i:=fun i c1 c2 c3=>by rw[eh5,vL c1,q5 i c2 (by omega),low3 i c3]
   have x5:Ext hb h5:=fun i c q=>by
    have:=hb.lt _ _ q
    rw[hi5 i (by omega) (fun q2=>by have:=ho i q2;omega) (by omega)];exact hx i c q
   have eb:wO acc++[.str x.1.1,v']=wO (acc++[((x.1,v'):xx)]):=by rw[AR];rfl
   have e1:acc.length+1=(acc++[((x.1,v'):xx)]).length:=by simp
   rw[eb,e1]at q2
   have n5:h5.next=h4.next:=by rw[eh5];simp
   obtain ⟨e', h', ov', acc', r1, r2, r3, r4, r5, r6, r7, r8, r9, r10, r11, r12, r13, r14, r15⟩ := Hs hl P Q R c6 hb g0 rd hz hs y hR hfR q (p ++ [x]) (by rw [hp]; simp) h5 w (acc ++ [(x.1, v')]) x5 (by omega) (by rw [eh5]; simp [q3, f3]) R5
    (q2.mono (by rw[eh5];simp) fun i q=>by have:=wj i q;rw[eh5,vL (by omega)]) (by rw[Xo,Xo,ha];rfl)
    (fun z hz2=>by
      rcases XI.1 hz2 with hz2|hz2
      · have v0:=hv z hz2
        exact v0.mono (by omega) (fun j c0 c1 c2=>hi5 j (by have:=hw z hz2 j c0;omega) c2 c1) fun j c1 c2 q=>by have:=wj j q;omega
      · obtain rfl:=XK.1 hz2
        refine⟨?_,p3,fun j q=> ?_⟩
        · have r:=p4.AN (h:=h2) (g:=h5) fun i q=>by
           have:=p8 i q
           rw[eh5,vL (by omega),q5 i (fun q2=>by have:=(o.lt q2).2;omega) (by omega),eh3,vL (by omega)]
          exact⟨by rw[pP];exact r.1,r.2.2⟩
        · have:=p8 j q
          exact⟨by omega,fun q2=>by have:=wj j q2;omega⟩)
    (fun j q=>by have:=wj j q;omega) (fun z hz2 j q=>by
      rcases XI.1 hz2 with hz2|hz2
      · exact hw z hz2 j q
      · obtain rfl:=XK.1 hz2
        have:=p8 j q;omega)
   have w1:((p++[x]).length:Int)=(p.length:Int)+1:=by simp
   rw[w1]at r1
   refine⟨e',h',ov',acc',tG ?_ r1,r2,r3,r4,fun i c1 c2=> ?_,r6,r7,r8,fun i c1 c2 c3=> ?_,r10,r11,r12,r13,by omega,r15⟩
   · have gP1:h1.get P=some C:=by rw[low1 P pn];exact gP
     have gy:∀v,(vH {y with vf:=v})[6]?=some v:=fun v=>rfl
     have gy6:=gy ov
     have e3:=n3
     clear r1 r4 r5 r8 r9 r10 r11 r12 r13 r15 rd a1 a2 a3 a4 hv hw o o3 q2 hx x5 hi5 low1 low3 q5 p4 p5 rv b2 hz hs
     generalize vH {y with vf:=ov}=Y1 at *
     generalize vH {y with vf:=w}=Y2 at *
     simp (disch:=omega)only[go_sem,vN,AP.f227L0,gP,c6,ln,b1,b2',ga,B0,sx,g1,p1,p2,g2,st3,R3,gy6,g3,CA,wL,p3,q1,cw,R4,st5]
   · rw[r5 i c1 c2]
     exact hi5 i c1 (fun q=>by have:=ho i q;omega) (by omega)
   · rw[r9 i c1 (by omega) (fun q=>by have:=wj i q;omega)]
     exact hi5 i (by omega) c3 c2
theorem xo.zu {n:Nat} {h g:H} {v:AV} {k:Nat} {cs:List AV} (r:xo n h v k cs) (hg:∀i c,v.id?=some i→h.get i=some c→g.get i=some c):xo n g v k cs:=by
 obtain⟨r,hl,hs⟩:=r
 refine⟨?_,hl,hs⟩
 unfold aT at r ⊢
 split at r
 · exact r
 · exact r
 · rename_i id off len s
   split at r
   · rename_i q
     cases hq:h.get id with
     |none=>rw[hq]at r;cases r
     |some c=>rw[if_pos q,hg id c rfl hq];rw[hq]at r;exact r
   · cases r
 · exact r
 · cases r
theorem Rd.zu {h g:H} {v:AV} {cs:List AV} (r:Rd h v cs) (hg:∀i c,v.id?=some i→h.get i=some c→g.get i=some c):Rd g v cs:=by
 have:=r.Bb.zu hg
 exact⟨this.1,this.2.2⟩
def GD (R:Nat) (g h:H):Prop:=∀i c,R<i→g.get i=some c→h.get i=some c
theorem GD.trans {R:Nat} {a b c:H} (x:GD R a b) (y:GD R b c):GD R a c:=fun i d h q=>y i d h (x i d h q)
theorem IE:AP.f227.body=.seq (at_ 0 AP.f227.body) (.seq (at_ 1 AP.f227.body) (.seq (at_ 2 AP.f227.body) (.seq (at_ 3 AP.f227.body) (.seq (at_ 4 AP.f227.body) (.seq (at_ 5 AP.f227.body) (.seq (at_ 6 AP.f227.body) (.seq (at_ 7 AP.f227.body) (.seq (at_ 8 AP.f227.body) .ret)))))))):=rfl
theorem Pj (h:H) (hf:h.floor≤h.next) (x:wJ) (o:zS h x) (zd:x.m.wS.length<20000000000000) (zb:x.m.wX.length<20000000000000) (zn:x.m.names.length<9000000000000) (zf:x.m.vR.length<3600000000000) (ze:x.m.wT.length<1353300000000)
 (wf:∀b∈x.m.vR,b.2.length<20000000000000) (we:∀e∈x.m.wT,e.vec.length<20000000000000):
 ∃(y:wJ) (h':H),aS AP.A 227 [.agg (vH x)] h=some (.agg (vH y),h')∧y.m=x.m∧(∀g,GD (h.next+2) h' g→zS g y)∧Ext h h'∧h'.floor=h.floor∧h.next≤h'.next:=by
 obtain⟨h1,eh1⟩:∃g,g=h.alloc (vH x):=⟨_,rfl⟩
 obtain⟨h2,eh2⟩:∃g,g=h1.alloc (vH vV):=⟨_,rfl⟩
 obtain⟨G3,eG3⟩:∃g,g=(h2.alloc (vH vV)).set (h.next+2) (vH x):=⟨_,rfl⟩
 have n1:h1.next=h.next+1:=by rw[eh1];simp
 have n2:h2.next=h.next+2:=by rw[eh2];simp [n1]
 have n3:G3.next=h.next+3:=by rw[eG3];simp [n2]
 have f1:h1.floor=h.floor:=by rw[eh1];simp
 have f3:G3.floor=h.floor:=by rw[eG3,eh2,eh1];simp
 have lx:(vH x).length=9:=rfl
 have cx:=xG o
 have x1:Ext h h1:=by rw[eh1];exact(Ext.refl h).alloc _
 have p1:h1.get h.next=some (vH x):=by rw[eh1];exact vO rfl
 have p2:h2.get h.next=some (vH x):=by rw[eh2,vS (by omega)];exact p1
 have x13:Ext h1 G3:=fun i c q=>by
  have:=h1.lt _ _ q
  rw[eG3,vL (by omega),vS (by omega),eh2,vS (by omega)];exact q
 have q3:G3.get (h.next+1)=some (vH vV):=by rw[eG3,vL (by omega),vS (by omega),eh2,vO (by omega)]
 have r3:G3.get (h.next+2)=some (vH x):=by rw[eG3,vP rfl,vO (by omega)];rfl
 have p3:=x13 _ _ p1
 have ra:(h2.alloc (vH vV)).get (h.next+2)=some (vH vV):=vO (by omega)
 have pa:(h2.alloc (vH vV)).get h.next=some (vH x):=by rw[vS (by omega)];exact p2
 have st3:ur (h2.alloc (vH vV)) (h.next+2) 0 9 (vH x) (some (vH vV))=some G3:=by rw[eG3];exact wH (by simp [eh2,f1];omega) rfl rfl cx
 have b0:aM (aS AP.A) bB (at_ 0 AP.f227.body) (params 0 [.agg (vH x)]) h=some (.normal,[(1,.aC h.next 0),(2,.aC (h.next+1) 0)],h2):=by
  have z:h1.alloc [.int .i64 0,.int .i64 0,.int .i64 0,.int .i64 0,.aQ,.aQ,.aQ,.aQ,.aQ]=h2:=eh2.symm
  clear o x1 x13
  generalize vH x=X at *
  simp (disch:=omega)only[go_sem,vN,AP.f227,wD,lx,cx,←eh1,n1,z]
 have b1:aM (aS AP.A) bB (at_ 1 AP.f227.body) [(1,.aC h.next 0),(2,.aC (h.next+1) 0)] h2=some (.normal,[(1,.aC h.next 0),(2,.aC (h.next+1) 0),(3,.aC (h.next+2) 0)],G3):=by
  have z:h2.alloc [.int .i64 0,.int .i64 0,.int .i64 0,.int .i64 0,.aQ,.aQ,.aQ,.aQ,.aQ]=h2.alloc (vH vV):=rfl
  have tx:List.take 9 (vH x)=vH x:=rfl
  clear o x1 x13
  generalize vH x=X at *
  generalize vH vV=Z at *
  simp (disch:=omega)only[go_sem,vN,AP.f227,wM,wD,p2,CA,wL,lx,tx,n2,z,ra,pa,st3]
 have o3:=o.mono fun i c q=>x13 i c (x1 i c q)
 have rd3:=o3.rd.Bb
 rw[pP]at rd3
 obtain⟨v1,h4,a1,a2,a3,a4,a5,a6,a7,a8⟩:=EM (z:=8) rd3 (by omega) (yf _) (.inr (by simp [roomy];omega))
 obtain⟨G4,eG4⟩:∃g,g=h4.set (h.next+2) (vH {x with vd:=v1}):=⟨_,rfl⟩
 have r34:h4.get (h.next+2)=some (vH x):=by rw[a5 _ (by omega)];exact r3
 have st4:ur h4 (h.next+2) 4 1 [v1] (some (vH x))=some G4:=by rw[uK (by omega) (by rw[lx];omega) a3,eG4];rfl
 have r4:G4.get (h.next+2)=some (vH {x with vd:=v1}):=by rw[eG4,vP rfl,r34];rfl
 have n4:G4.next=h4.next:=by rw[eG4];simp
 have f4:G4.floor=h.floor:=by rw[eG4];simp [a6,f3]
 have low4:∀i,i≠h.next+2→i<G3.next→G4.get i=G3.get i:=fun i c1 c2=>by rw[eG4,vL c1,a5 i c2]
 have x4:Ext h1 G4:=fun i c q=>by have:=h1.lt _ _ q;rw[low4 i (by omega) (by omega)];exact x13 i c q
 have q4:G4.get (h.next+1)=some (vH vV):=by rw[low4 _ (by omega) (by omega)];exact q3
 have V1:xo 1 G4 v1 x.m.wS.length (ints x.m.wS):=a4.zu fun i c q w=>by have:=a8 i q;rw[eG4,vL (by omega)];exact w
 have b2:aM (aS AP.A) bB (at_ 2 AP.f227.body) [(1,.aC h.next 0),(2,.aC (h.next+1) 0),(3,.aC (h.next+2) 0)] G3=some (.normal,[(1,.aC h.next 0),(2,.aC (h.next+1) 0),(3,.aC (h.next+2) 0)],G4):=by
  have e4:(vH x)[4]?=some x.vd:=rfl
  have pa3:(G3.alloc []).get h.next=some (vH x):=by rw[vS (by omega)];exact p3
  clear o o3 x1 x13 x4 rd3 a4 V1 low4 a5
  generalize vH x=X at *
  generalize vH {x with vd:=v1}=X4 at *
  simp (disch:=omega)only[go_sem,vN,AP.f227,wM,wD,pa3,e4,a1,a2,r34,st4,Nat.mul_zero]
 have rb4:=(o.mono fun i c q=>x4 i c (x1 i c q)).rb.Bb
 rw[pP]at rb4
 obtain⟨v2,h5,d1,d2,d3,d4,d5,d6,d7,d8⟩:=EM (z:=8) rb4 (by omega) (yf _) (.inr (by simp [roomy];omega))
 obtain⟨G5,eG5⟩:∃g,g=h5.set (h.next+2) (vH {x with vd:=v1,vb:=v2}):=⟨_,rfl⟩
 have r45:h5.get (h.next+2)=some (vH {x with vd:=v1}):=by rw[d5 _ (by omega)];exact r4
 have st5:ur h5 (h.next+2) 5 1 [v2] (some (vH {x with vd:=v1}))=some G5:=by rw[uK (by omega) (by show 5<9;omega) d3,eG5];rfl
 have r5:G5.get (h.next+2)=some (vH {x with vd:=v1,vb:=v2}):=by rw[eG5,vP rfl,r45];rfl
 have n5:G5.next=h5.next:=by rw[eG5];simp
 have f5:G5.floor=h.floor:=by rw[eG5];simp [d6,f4]
 have low5:∀i,i≠h.next+2→i<G4.next→G5.get i=G4.get i:=fun i c1 c2=>by rw[eG5,vL c1,d5 i c2]
 have x5:Ext h1 G5:=fun i c q=>by have:=h1.lt _ _ q;rw[low5 i (by omega) (by omega)];exact x4 i c q
 have q5:G5.get (h.next+1)=some (vH vV):=by rw[low5 _ (by omega) (by omega)];exact q4
 have K45:GD (h.next+2) G4 G5:=fun i c q w=>by rw[low5 i (by omega) (G4.lt _ _ w)];exact w
 have V2:xo 1 G5 v2 x.m.wX.length (ints x.m.wX):=d4.zu fun i c q w=>by have:=d8 i q;rw[eG5,vL (by omega)];exact w
 have p4:=x4 _ _ p1
 have b3:aM (aS AP.A) bB (at_ 3 AP.f227.body) [(1,.aC h.next 0),(2,.aC (h.next+1) 0),(3,.aC (h.next+2) 0)] G4=some (.normal,[(1,.aC h.next 0),(2,.aC (h.next+1) 0),(3,.aC (h.next+2) 0)],G5):=by
  have e5:(vH x)[5]?=some x.vb:=rfl
  have pa4:(G4.alloc []).get h.next=some (vH x):=by rw[vS (by omega)];exact p4
  clear o o3 x1 x13 x4 rd3 a4 V1 low4 a5 rb4 d4 d5 low5 x5 K45 V2
  generalize vH x=X at *
  generalize vH {x with vd:=v1}=X4 at *
  generalize vH {x with vd:=v1,vb:=v2}=X5 at *
  simp (disch:=omega)only[go_sem,vN,AP.f227,wM,wD,pa4,e5,d1,d2,r45,st5,Nat.mul_zero]
 have rn5:=(o.mono fun i c q=>x5 i c (x1 i c q)).rn.Bb
 rw[wA]at rn5
 obtain⟨v3,h6,e1,e2,e3,e4,e5,e6,e7,e8⟩:=EM (z:=16) rn5 (by omega) (Ie _) (.inr (by simp [roomy];omega))
 obtain⟨G6,eG6⟩:∃g,g=h6.set (h.next+2) (vH {x with vd:=v1,vb:=v2,vn:=v3}):=⟨_,rfl⟩
 have r56:h6.get (h.next+2)=some (vH {x with vd:=v1,vb:=v2}):=by rw[e5 _ (by omega)];exact r5
 have st6:ur h6 (h.next+2) 7 1 [v3] (some (vH {x with vd:=v1,vb:=v2}))=some G6:=by rw[uK (by omega) (by show 7<9;omega) e3,eG6];rfl
 have r6:G6.get (h.next+2)=some (vH {x with vd:=v1,vb:=v2,vn:=v3}):=by rw[eG6,vP rfl,r56];rfl
 have n6:G6.next=h6.next:=by rw[eG6];simp
 have f6:G6.floor=h.floor:=by rw[eG6];simp [e6,f5]
 have low6:∀i,i≠h.next+2→i<G5.next→G6.get i=G5.get i:=fun i c1 c2=>by rw[eG6,vL c1,e5 i c2]
 have x6:Ext h1 G6:=fun i c q=>by have:=h1.lt _ _ q;rw[low6 i (by omega) (by omega)];exact x5 i c q
 have q6:G6.get (h.next+1)=some (vH vV):=by rw[low6 _ (by omega) (by omega)];exact q5
 have K56:GD (h.next+2) G5 G6:=fun i c q w=>by rw[low6 i (by omega) (G5.lt _ _ w)];exact w
 have V3:xo 1 G6 v3 x.m.names.length (wW x.m.names):=e4.zu fun i c q w=>by have:=e8 i q;rw[eG6,vL (by omega)];exact w
 have p5:=x5 _ _ p1
 have b4:aM (aS AP.A) bB (at_ 4 AP.f227.body) [(1,.aC h.next 0),(2,.aC (h.next+1) 0),(3,.aC (h.next+2) 0)] G5=some (.normal,[(1,.aC h.next 0),(2,.aC (h.next+1) 0),(3,.aC (h.next+2) 0)],G6):=by
  have j7:(vH x)[7]?=some x.vn:=rfl
  have pa5:(G5.alloc []).get h.next=some (vH x):=by rw[vS (by omega)];exact p5
  clear o o3 x1 x13 x4 rd3 a4 V1 low4 a5 rb4 d4 d5 low5 x5 K45 V2 e4 e5 low6 x6 K56 V3 rn5
  generalize vH x=X at *
  generalize vH {x with vd:=v1,vb:=v2}=X5 at *
  generalize vH {x with vd:=v1,vb:=v2,vn:=v3}=X6 at *
  simp (disch:=omega)only[go_sem,vN,AP.f227,wM,wD,pa5,j7,e1,e2,r56,st6,Nat.mul_zero]
 have o6:=o.mono fun i c q=>x6 i c (x1 i c q)
 have ee:x.es.length=x.m.wT.length:=by rw[←o.he];simp
 obtain⟨w,h7,es,k7,g7,m7,c7⟩:=FG G6 (by omega) x.ve x.es (by omega) o6.re (fun y hy=>⟨(o6.ve y hy).1,(o6.ve y hy).2,we y.1 (by rw[←o.he];exact Xl.2 ⟨y,hy,rfl⟩)⟩)
 have sw:=g7.own.sc
 have cw:=xm sw
 obtain⟨G7,eG7⟩:∃g,g=h7.set (h.next+2) (vH {x with vd:=v1,vb:=v2,vn:=v3,ve:=w}):=⟨_,rfl⟩
 have r67:=g7.ext _ _ r6
 have n67:=g7.nx
 have f67:=g7.fl
 have st7:ur h7 (h.next+2) 8 1 [w] (some (vH {x with vd:=v1,vb:=v2,vn:=v3}))=some G7:=by rw[uK (by omega) (by show 8<9;omega) sw,eG7];rfl
 have r7:G7.get (h.next+2)=some (vH {x with vd:=v1,vb:=v2,vn:=v3,ve:=w}):=by rw[eG7,vP rfl,r67];rfl
 have n7:G7.next=h7.next:=by rw[eG7];simp
 have f7:G7.floor=h.floor:=by rw[eG7];simp [f67,f6]
 have x7:Ext h1 G7:=fun i c q=>by have:=h1.lt _ _ q;rw[eG7,vL (by omega)];exact g7.ext _ _ (x6 i c q)
 have q7:G7.get (h.next+1)=some (vH vV):=by rw[eG7,vL (by omega)];exact g7.ext _ _ q6
 have K67:GD (h.next+2) G6 G7:=fun i c q w2=>by rw[eG7,vL (by omega)];exact g7.ext _ _ w2
 have K7:GD (h.next+2) h7 G7:=fun i c q w2=>by rw[eG7,vL (by omega)];exact w2
 have p6:=x6 _ _ p1
 have p67:=g7.ext _ _ p6
 have b5:aM (aS AP.A) bB (at_ 5 AP.f227.body) [(1,.aC h.next 0),(2,.aC (h.next+1) 0),(3,.aC (h.next+2) 0)] G6=some (.normal,[(1,.aC h.next 0),(2,.aC (h.next+1) 0),(3,.aC (h.next+2) 0)],G7):=by
  have j8:(vH x)[8]?=some x.ve:=rfl
  clear o o3 o6 x1 x13 x4 rd3 a4 V1 low4 a5 rb4 d4 d5 low5 x5 K45 V2 e4 e5 low6 x6 K56 V3 rn5 g7 x7 K67 c7 K7
  generalize vH x=X at *
  generalize vH {x with vd:=v1,vb:=v2,vn:=v3}=X6 at *
  generalize vH {x with vd:=v1,vb:=v2,vn:=v3,ve:=w}=X7 at *
  simp (disch:=omega)only[go_sem,vN,AP.f227,wM,wD,p6,j8,k7,r67,cw,st7]
 obtain⟨Y,hY⟩:∃Y:wJ,Y={x with vd:=v1,vb:=v2,vn:=v3,ve:=w}:=⟨_,rfl⟩
 obtain⟨G8,eG8⟩:∃g,g=G7.set (h.next+2) (vH {Y with vf:=.aQ}):=⟨_,rfl⟩
 rw[←hY]at r7
 have st8:ur G7 (h.next+2) 6 1 [.aQ] (some (vH Y))=some G8:=by rw[uK (by omega) (by show 6<9;omega) rfl,eG8];rfl
 have r8:G8.get (h.next+2)=some (vH {Y with vf:=.aQ}):=by rw[eG8,vP rfl,r7];rfl
 have n8:G8.next=G7.next:=by rw[eG8];simp
 have f8:G8.floor=h.floor:=by rw[eG8];simp [f7]
 have x8:Ext h1 G8:=fun i c q=>by have:=h1.lt _ _ q;rw[eG8,vL (by omega)];exact x7 i c q
 have q8:G8.get (h.next+1)=some (vH vV):=by rw[eG8,vL (by omega)];exact q7
 have K78:GD (h.next+2) G7 G8:=fun i c q w2=>by rw[eG8,vL (by omega)];exact w2
 have b6:aM (aS AP.A) bB (at_ 6 AP.f227.body) [(1,.aC h.next 0),(2,.aC (h.next+1) 0),(3,.aC (h.next+2) 0)] G7=some (.normal,[(1,.aC h.next 0),(2,.aC (h.next+1) 0),(3,.aC (h.next+2) 0)],G8):=by
  clear o o3 o6 x1 x13 x4 rd3 a4 V1 low4 a5 rb4 d4 d5 low5 x5 K45 V2 e4 e5 low6 x6 K56 V3 rn5 g7 x7 K67 c7 K7 K78 x8
  generalize vH {Y with vf:=.aQ}=X8 at *
  generalize vH Y=X7 at *
  simp (disch:=omega)only[go_sem,vN,AP.f227,wM,wD,r7,st8]
 have o1:=o.mono x1
 have ef:x.fs.length=x.m.vR.length:=by rw[←o.hf];simp
 obtain⟨e',G9,ov,acc,l1,l2,l3,l4,l5,l6,l7,l8,l9,l10,l11,l12,l13,l14,l15⟩:=Hs (l:=x.fs) (by omega) h.next (h.next+1) (h.next+2) (C:=vH x) rfl h1 p1 o1.rf (fun b hb=>wf b.1 (by rw[←o.hf];exact Xl.2 ⟨b,hb,rfl⟩)) o.vf Y (by omega) (by omega) x.fs [] rfl G8 .aQ [] x8 (by omega) (by omega) r8 wo.nil rfl (fun b hb=>by cases hb) (fun j q=>by cases q) (fun b hb=>by cases hb)
 have K89:GD (h.next+2) G8 G9:=fun i c q w2=>by rw[l9 i q (G8.lt _ _ w2) (fun q=>by cases q)];exact w2
 obtain⟨y,hy⟩:∃y:wJ,y={Y with vf:=ov,fs:=acc,es:=es}:=⟨_,rfl⟩
 have ym:y.m=x.m:=by rw[hy,hY]
 have r9:G9.get (h.next+2)=some (vH y):=by rw[l8,hy];rfl
 have q9:G9.get (h.next+1)=some (vH vV):=by rw[l5 _ (by omega) (by omega)];exact q8
 have sov:=l10.sc
 have cy:AV.aB (vH y)=true:=by rw[hy,hY];simp [vH,a3,d3,e3,sw,sov]
 obtain⟨GA,eGA⟩:∃g,g=G9.set (h.next+1) (vH y):=⟨_,rfl⟩
 have stA:ur G9 (h.next+1) 0 9 (vH y) (some (vH vV))=some GA:=by rw[eGA];exact wH (by omega) rfl rfl cy
 have rA:GA.get (h.next+1)=some (vH y):=by rw[eGA,vP rfl,q9];rfl
 have K9A:GD (h.next+2) G9 GA:=fun i c q w2=>by rw[eGA,vL (by omega)];exact w2
 have r9':Lp AP.A [1,2,3,4] AP.f227L0 [(1,.aC h.next 0),(2,.aC (h.next+1) 0),(3,.aC (h.next+2) 0),(4,.int .i64 0)] G8=some (.exit 0,e',G9):=l1
 have b7:aM (aS AP.A) bB (at_ 7 AP.f227.body) [(1,.aC h.next 0),(2,.aC (h.next+1) 0),(3,.aC (h.next+2) 0)] G8=some (.normal,[(2,.aC (h.next+1) 0),(3,.aC (h.next+2) 0)],G9):=by
  clear o o3 o6 x1 x13 x4 rd3 a4 V1 low4 a5 rb4 d4 d5 low5 x5 K45 V2 e4 e5 low6 x6 K56 V3 rn5 g7 x7 K67 c7 K7 K78 x8 l1 l4 l5 l8 l9 l10 l11 l12 l13 l15 o1 K89 K9A hy hY
  simp (disch:=omega)only[go_sem,vN,AP.f227,wM,wD,sF,r9',l2,l3]
 have b8:aM (aS AP.A) bB (at_ 8 AP.f227.body) [(2,.aC (h.next+1) 0),(3,.aC (h.next+2) 0)] G9=some (.normal,[(2,.aC (h.next+1) 0)],GA):=by
  have ly:(vH y).length=9:=rfl
  have ty:List.take 9 (vH y)=vH y:=rfl
  clear o o3 o6 x1 x13 x4 rd3 a4 V1 low4 a5 rb4 d4 d5 low5 x5 K45 V2 e4 e5 low6 x6 K56 V3 rn5 g7 x7 K67 c7 K7 K78 x8 l1 l4 l5 l8 l9 l10 l11 l12 l13 l15 o1 K89 K9A hy hY
  generalize vH y=X at *
  generalize vH vV=Z at *
  simp (disch:=omega)only[go_sem,vN,AP.f227,wM,wD,r9,CA,wL,ly,ty,Xf,q9,stA]
 have KA4:GD (h.next+2) G4 GA:=K45.trans (K56.trans (K67.trans (K78.trans (K89.trans K9A))))
 have KA5:GD (h.next+2) G5 GA:=K56.trans (K67.trans (K78.trans (K89.trans K9A)))
 have KA6:GD (h.next+2) G6 GA:=K67.trans (K78.trans (K89.trans K9A))
 have KA7:GD (h.next+2) h7 GA:=K7.trans (K78.trans (K89.trans K9A))
 refine⟨y,GA,tT (fn:=AP.f227) (h2:=GA) (e:=[(2,.aC (h.next+1) 0)]) (vs:=[.agg (vH y)]) rfl rfl rfl ?_ (by simp only[AP.f227,cM,nk,mU,qQ,rA,tu];rfl),ym, ?_, ?_,by rw[eGA];simp [l7,f1],by rw[eGA];simp;omega⟩
 · rw[IE,rZ,b0,sY,rZ,b1,sY,rZ,b2,sY,rZ,b3,sY,rZ,b4,sY,rZ,b5,sY,rZ,b6,sY,rZ,b7,sY,rZ,b8,sY]
   rfl
 · intro g KG
   have KB4:=KA4.trans KG
   have KB5:=KA5.trans KG
   have KB6:=KA6.trans KG
   have KB7:=KA7.trans KG
   have K9B:=K9A.trans KG
   have R1:Rd g v1 (ints x.m.wS):=by
    have:=V1.zu (g:=g) fun i c q w2=>KB4 i c (by have:=a8 i q;omega) w2
    exact⟨by rw[pP];exact this.1,this.2.2⟩
   have R2:Rd g v2 (ints x.m.wX):=by
    have:=V2.zu (g:=g) fun i c q w2=>KB5 i c (by have:=d8 i q;omega) w2
    exact⟨by rw[pP];exact this.1,this.2.2⟩
   have R3:Rd g v3 (wW x.m.names):=by
    have:=V3.zu (g:=g) fun i c q w2=>KB6 i c (by have:=e8 i q;omega) w2
    exact⟨by rw[wA];exact this.1,this.2.2⟩
   have RE:xo 9 g w es.length (vW es):=g7.own.rd.zu fun i c q w2=>KB7 i c (by have:=g7.ge i q;omega) w2
   have RF:xo 2 g ov acc.length (wO acc):=l10.rd.zu fun i c q w2=>K9B i c (l13 i q) w2
   have VA:∀z∈acc,Rd g z.2 (ints z.1.2):=fun z hz=>(l12 z hz).vec.zu fun i c q w2=>K9B i c (l15 z hz i q) w2
   have aF:acc.map (·.1)=x.m.vR:=by rw[l11];exact o.hf
   have aE:es.map (·.1)=x.m.wT:=by rw[m7];exact o.he
   have z1:=o.zd
   have z2:=o.zb
   have z3:=o.zf
   have z4:=o.zn
   have z5:=o.ze
   rw[hy,hY]
   refine⟨R1,R2,⟨RF,fun z hz=>⟨VA z hz, ?_⟩⟩,aF,R3,RE,aE,fun z hz=>⟨?_,(c7 z hz).sc⟩,fun z hz=>(l12 z hz).sc,⟨a3,d3,sov,e3,sw⟩,z1,z2,z3,z4,z5,o.zs⟩
   · have:=wf z.1 (by rw[←aF];exact Xl.2 ⟨z,hz,rfl⟩)
     omega
   · have k:=(c7 z hz).ok
     exact⟨k.vec.zu fun i c q w2=>KB7 i c (by have:=((c7 z hz).id i q).1;omega) w2,k.vl,k.nl,k.pl⟩
 · exact fun i c q=>by
    have:=h.lt _ _ q
    rw[eGA,vL (by omega),l5 i (by omega) (by omega)]
    exact x8 i c (x1 i c q)
theorem wo.VF {n:Nat} {h:H} {v:AV} {k:Nat} {cs:List AV} (o:wo n h v k cs) {i:Nat} (q:v.id?=some i):∃c,h.get i=some c:=by
 obtain⟨_,hh⟩:=o
 rcases hh with ⟨rfl,_⟩|⟨j,rfl,hg,_⟩
 · cases q
 · obtain rfl:=uS q
   exact⟨_,hg⟩
theorem WM.up {B:Nat} {h g:H} {y:wJ} (w:WM B h y) (e:Ext h g) (hf:g.floor=h.floor):WM B g y:=by
 have wi:∀{v l},WI B h v l→WI B g v l:=fun {v l} q=>by
  rcases q with rfl|⟨i,rfl,w1,w2,w3,w4⟩
  · exact .inl rfl
  · exact .inr ⟨i,rfl,e _ _ w1,by rw[hf];exact w2,w3,w4⟩
 rcases w with ⟨hd,e1,e2,e3,e4⟩|⟨hb,hF,hn,ap,e1,e3,e4⟩|⟨hn,e1,e2,e3,e4⟩|⟨he,hn,e1,e2,e3,e4⟩
 · exact .d (wi hd) e1 e2 e3 e4
 · refine .b (wi hb) (hF.mono hf fun i _ _ q=> ?_) hn ap e1 e3 e4
   rcases q with q|⟨x,hx,q⟩
   · obtain⟨c,hc⟩:=hF.own.VF q
     rw[hc,e _ _ hc]
   · obtain⟨_,_,j,a1,a2,_⟩:=hF.el x hx
     rw[a1]at q
     obtain rfl:=uS q
     rw[a2,e _ _ a2]
 · refine .n ?_ e1 e2 e3 e4
   rcases hn with q|⟨i,q,w1,w2,w3,w4,w5⟩
   · exact .inl q
   · exact .inr ⟨i,q,e _ _ w1,by rw[hf];exact w2,w3,w4,w5⟩
 · refine .e (he.mono hf fun i _ _ q=> ?_) hn e1 e2 e3 e4
   rcases q with q|⟨x,hx,q⟩
   · obtain⟨c,hc⟩:=he.own.VF q
     rw[hc,e _ _ hc]
   · obtain⟨_,_,j,a1,a2,_⟩:=he.el x hx
     rw[a1]at q
     obtain rfl:=uS q
     rw[a2,e _ _ a2]
theorem Lz {h:H} {y:wJ} (o:zS h y) (g:H):zS g (xc y.m):=by
 have rdi:∀l:List Int,Rd g (Mc l) (ints l):=fun l=>by
  have:=A6 (n:=1) (k:=l.length) (h:=g) (cs:=ints l) (by rw[pP];omega)
  exact⟨by rw[pP];exact this.1,this.2.2⟩
 have rb:∀b∈y.m.vR,b.2.length<1125899906842624:=fun b hb=>by
  rw[←o.hf]at hb
  obtain⟨x,hx,rfl⟩:=Xl.1 hb
  exact(o.rf.vec x hx).2
 refine⟨rdi _,rdi _,Fz g rb,(by show(y.m.vR.map GY).map (·.1)=_;rw[List.map_map];exact List.map_id _), ?_,HJ g _,(by show(y.m.wT.map FP).map (·.1)=_;rw[List.map_map];exact List.map_id _),fun z hz=> ?_,fun z hz=> ?_,⟨zF _ _ _,zF _ _ _,zF _ _ _,zF _ _ _,HK _⟩,o.zd,o.zb,o.zf,o.zn,o.ze,o.zs⟩
 · have:=A6 (n:=1) (k:=y.m.names.length) (h:=g) (cs:=wW y.m.names) (by rw[wA];omega)
   exact⟨by rw[wA];exact this.1,this.2.2⟩
 · obtain⟨x,hx,rfl⟩:=Xl.1 hz
   have hx':=hx
   rw[←o.he]at hx'
   obtain⟨x',hx',e⟩:=Xl.1 hx'
   have q:=(o.ve x' hx').1
   refine⟨⟨yh g x.vec, ?_, ?_, ?_⟩,rfl⟩
   · have:=q.vl;rw[e]at this;exact this
   · have:=q.nl;rw[e]at this;exact this
   · have:=q.pl;rw[e]at this;exact this
 · obtain⟨x,hx,rfl⟩:=Xl.1 hz
   rfl
theorem Jp (G:H) (hf:G.floor≤G.next) (v:AV) (l:List wc) (sv:v.sc=true) (hn:l.length<1125899906842624) (rd:xo 9 G v l.length (vW l)) (hv:∀x∈l,xw G x∧x.2.sc=true) (x:wJ) (ox:zS G x):
 ∃(y:wJ) (h' A G':H) (O:Nat),aS AP.A 240 [.agg [v],.agg (vH x)] G=some (.bP [.agg (vH y),.bool (w8 (l.map (·.1)) x.m).2.1,.int .i64 (w8 (l.map (·.1)) x.m).2.2],h')∧y.m=(w8 (l.map (·.1)) x.m).1∧h'.alloc (vH vV)=A∧h'.next=O∧A.get O=some (vH vV)∧ur A O 0 9 (vH y) (some (vH vV))=some G'∧G'.get O=some (vH y)∧Ext G G'∧zS G' y∧G'.floor=G.floor∧G.next≤O∧O<G'.next∧WM G.next G' y:=by
 obtain⟨y,h',k,em,a⟩:=Mh G hf v l sv hn rd hv x ox
 have lt:=a.nx
 have ga:(h'.alloc (vH vV)).get h'.next=some (vH vV):=vO rfl
 have e1:Ext h' ((h'.alloc (vH vV)).set h'.next (vH y)):=fun i c q=>by have:=h'.lt _ _ q;rw[vL (by omega),vS (by omega)];exact q
 refine⟨y,h',_,(h'.alloc (vH vV)).set h'.next (vH y),h'.next,k,em,rfl,rfl,ga,wH (by simp;have:=a.fl;omega) rfl rfl (xG a.ok),by rw[vP rfl,ga];rfl,fun i c q=>e1 _ _ (a.ext _ _ q),a.ok.mono e1,by simp [a.fl],lt,by simp,a.wm.up e1 (by simp)⟩
theorem EF (G:H) (hf:G.floor≤G.next) (y:wJ) (oy:zS G y):∃(A G':H) (O:Nat),G.alloc (vH vV)=A∧G.next=O∧A.get O=some (vH vV)∧ur A O 0 9 (vH y) (some (vH vV))=some G'∧G'.get O=some (vH y)∧Ext G G'∧G'.floor=G.floor∧O<G'.next:=by
 have ga:(G.alloc (vH vV)).get G.next=some (vH vV):=vO rfl
 have e1:Ext G ((G.alloc (vH vV)).set G.next (vH y)):=fun i c q=>by have:=G.lt _ _ q;rw[vL (by omega),vS (by omega)];exact q
 exact⟨_,(G.alloc (vH vV)).set G.next (vH y),G.next,rfl,rfl,ga,wH (by simp;omega) rfl rfl (xG oy),by rw[vP rfl,ga];rfl,e1,by simp,by simp⟩
theorem LR:AP.f222.body=.seq (at_ 0 AP.f222.body) (.seq (at_ 1 AP.f222.body) (.seq (at_ 2 AP.f222.body) (.seq (at_ 3 AP.f222.body) (.seq (at_ 4 AP.f222.body) (.seq (at_ 5 AP.f222.body) (.seq (at_ 6 AP.f222.body) (DO 7 AP.f222.body))))))):=rfl
set_option maxHeartbeats 8000000 in
theorem LS (h:H) (v:AV) (l:List wc) (sv:v.sc=true) (hn:l.length<1353300000000) (rd:xo 9 h v l.length (vW l)) (hv:∀x∈l,xw h x∧x.2.sc=true∧x.1.vec.length<20000000000000) (x:wJ) (ox:zS h x) (sx:VC x.m) (a b:Int):
 aS AP.A 222 [.agg [v],.agg (vH x),.int .i64 a,.int .i64 b] h=some (.bool true,h):=by
 obtain⟨h1,eh1⟩:∃g,g=h.dY.alloc [v]:=⟨_,rfl⟩
 obtain⟨h2,eh2⟩:∃g,g=h1.alloc (vH x):=⟨_,rfl⟩
 have n0:h.dY.next=h.next:=rfl
 have n1:h1.next=h.next+1:=by rw[eh1];simp
 have n2:h2.next=h.next+2:=by rw[eh2];simp [n1]
 have f2:h2.floor=h.next:=by rw[eh2,eh1];simp
 have x2:Ext h h2:=fun i c q=>by rw[eh2,eh1];exact(((Ext.refl h.dY).alloc _).alloc _) i c q
 have gP:h2.get h.next=some [v]:=by rw[eh2,vS (by omega),eh1];exact vO rfl
 have gM:h2.get (h.next+1)=some (vH x):=by rw[eh2,vO (by omega)]
 have cx:=xG ox
 have z0:([.int .i64 0,.int .i64 0,.int .i64 0,.int .i64 0,.aQ,.aQ,.aQ,.aQ,.aQ]:List AV)=vH vV:=rfl
 have cz:AV.aB (vH vV)=true:=rfl
 have lx:∀x,(vH x).length=9:=fun x=>rfl
 have tX:∀x,List.take 9 (vH x)=vH x:=fun x=>rfl
 have b0:aM (aS AP.A) bB (at_ 0 AP.f222.body) (params 0 [.agg [v],.agg (vH x),.int .i64 a,.int .i64 b]) h.dY=some (.normal,[(2,.int .i64 a),(3,.int .i64 b),(4,.aC h.next 0),(5,.aC (h.next+1) 0)],h2):=by
  have lX:=lx x
  have z:=eh2.symm
  clear ox rd hv x2 lx tX
  generalize vH x=X at *
  simp (disch:=omega)only[go_sem,vN,AP.f222,wD,sv,n0,←eh1,lX,cx,n1,z]
 obtain⟨h3,eh3⟩:∃g,g=h2.alloc [.aQ]:=⟨_,rfl⟩
 obtain⟨h4,eh4⟩:∃g,g=h3.alloc (vH vV):=⟨_,rfl⟩
 obtain⟨F,hF⟩:∃F,F=h2.next:=⟨_,rfl⟩
 have n3:h3.next=F+1:=by rw[eh3,hF];simp
 have n4:h4.next=F+2:=by rw[eh4];simp [n3]
 have f4:h4.floor=h.next:=by rw[eh4,eh3];simp [f2]
 have x4:Ext h2 h4:=by rw[eh4,eh3];exact((Ext.refl h2).alloc _).alloc _
 have X4:Ext h h4:=fun i c q=>x4 _ _ (x2 _ _ q)
 have gP4:=x4 _ _ gP
 have gM4:=x4 _ _ gM
 have gF4:h4.get F=some [.aQ]:=by rw[eh4,vS (by omega),eh3];exact vO hF
 have gG4:h4.get (F+1)=some (vH vV):=by rw[eh4];exact vO n3.symm
 obtain⟨w,h6,acc,kf,gn,ea,ck⟩:=Li h4 (by omega) v l sv hn (rd.mono fun i c q=>X4 i c q) fun z hz=>⟨(hv z hz).1.mono X4,(hv z hz).2⟩
 have n6:=gn.nx
 have f6:=gn.fl
 have gM6:=gn.ext _ _ gM4
 have gF6:=gn.ext _ _ gF4
 have gG6:=gn.ext _ _ gG4
 have sw:w.sc=true:=gn.own.sc
 obtain⟨y,h7,km,em,ok7,e7,f7,n7⟩:=Pj h6 (by omega) x (ox.mono fun i c q=>gn.ext _ _ (X4 _ _ q)) sx.zd sx.zb sx.zn sx.zf sx.ze sx.wf sx.we
 have gF7:=e7 _ _ gF6
 have gG7:=e7 _ _ gG6
 have cy:=xG (ok7 h7 fun _ _ _ q=>q)
 obtain⟨h8,eh8⟩:∃g,g=h7.set F [w]:=⟨_,rfl⟩
 obtain⟨h9,eh9⟩:∃g,g=h8.set (F+1) (vH y):=⟨_,rfl⟩
 have st8:ur h7 F 0 1 [w] (some [.aQ])=some h8:=by rw[wH (n:=1) (by omega) rfl rfl (by rw[AV.aB,sw];rfl),eh8]
 have gG8:h8.get (F+1)=some (vH vV):=by rw[eh8,vL (by omega)];exact gG7
 have st9:ur h8 (F+1) 0 9 (vH y) (some (vH vV))=some h9:=by rw[wH (n:=9) (by rw[eh8];simp;omega) rfl rfl cy,eh9]
 have n9:h9.next=h7.next:=by rw[eh9,eh8];simp
 have f9:h9.floor=h.next:=by rw[eh9,eh8];simp;omega
 have x9:∀i c,i≠F→i≠F+1→h7.get i=some c→h9.get i=some c:=fun i c q1 q2 q=>by rw[eh9,vL q2,eh8,vL q1];exact q
 have gF9:h9.get F=some [w]:=by rw[eh9,vL (by omega),eh8,vP rfl,gF7];rfl
 have gG9:h9.get (F+1)=some (vH y):=by rw[eh9,vP rfl,gG8];rfl
 have x29:Ext h2 h9:=fun i c q=>by have:=h2.lt _ _ q;exact x9 _ _ (by omega) (by omega) (e7 _ _ (gn.ext _ _ (x4 _ _ q)))
 have X9:Ext h h9:=fun i c q=>x29 _ _ (x2 _ _ q)
 have gP9:=x29 _ _ gP
 have gM9:=x29 _ _ gM
 have b1:aM (aS AP.A) bB (at_ 1 AP.f222.body) [(2,.int .i64 a),(3,.int .i64 b),(4,.aC h.next 0),(5,.aC (h.next+1) 0)] h2=some (.normal,[(2,.int .i64 a),(3,.int .i64 b),(4,.aC h.next 0),(5,.aC (h.next+1) 0),(9,.aC F 0),(10,.aC (F+1) 0)],h9):=by
  have lX:=lx x
  have tx:=tX x
  have z3:=eh3.symm
  have z4:=eh4.symm
  have hF':=hF.symm
  clear ox rd hv x2 lx tX ok7 e7 x4 X4 gn ck x9 x29 X9 eh3 eh4 eh8 eh9 b0
  generalize vH x=X at *
  generalize vH vV=Z at *
  generalize vH y=Y at *
  simp (disch:=omega)only[go_sem,vN,AP.f222,wM,wD,yH,AQ,z3,hF',z0,cz,n3,z4,gP4,wZ,kf,gM6,CA,wL,lX,tx,Xf,km,gF7,st8,gG8,st9,gF6,gG6,gG7,gM4]
 have sW:xo 9 h9 w acc.length (vW acc):=gn.own.rd.zu fun i c q p=>by have:=gn.ge i q;exact x9 _ _ (by omega) (by omega) (e7 _ _ p)
 have sA:∀z∈acc,xw h9 z∧z.2.sc=true:=fun z hz=>by
  have k:=(ck z hz).ok
  exact⟨⟨k.vec.zu fun i c q p=>by have:=((ck z hz).id i q).1;exact x9 _ _ (by omega) (by omega) (e7 _ _ p),k.vl,k.nl,k.pl⟩,(ck z hz).sc⟩
 have oy:zS h9 y:=ok7 h9 fun i c q p=>x9 _ _ (by omega) (by omega) p
 have la:acc.length=l.length:=by have:=Xy List.length ea;rw[Xd,Xd]at this;exact this
 have hn':l.length<1125899906842624:=by omega
 have rd9:=rd.mono fun i c q=>X9 i c q
 have hv9:∀z∈l,xw h9 z∧z.2.sc=true:=fun z hz=>⟨(hv z hz).1.mono X9,(hv z hz).2.1⟩
 have k11:=EY h9 w acc sw (by omega) sW sA a b
 rw[ea]at k11
 have sO:=EX (l.map (·.1)) a b
 obtain⟨A11,G11,O11,a11,m11,ga11,st11,go11,e11,f11,lt11⟩:=EF h9 (by omega) _ (zr h9 sO)
 have b2:aM (aS AP.A) bB (at_ 2 AP.f222.body) [(2,.int .i64 a),(3,.int .i64 b),(4,.aC h.next 0),(5,.aC (h.next+1) 0),(9,.aC F 0),(10,.aC (F+1) 0)] h9=some (.normal,[(2,.int .i64 a),(3,.int .i64 b),(4,.aC h.next 0),(5,.aC (h.next+1) 0),(9,.aC F 0),(10,.aC (F+1) 0),(11,.aC O11 0),(12,.int .i64 (xb (l.map (·.1)) a b).2)],G11):=by
  clear b0 b1 ox rd hv x2 lx tX ok7 e7 x4 X4 gn ck x9 x29 X9 sW sA oy rd9 hv9 sO e11
  generalize xb (l.map (·.1)) a b=OF at *
  generalize vH vV=Z at *
  generalize vH (xc OF.1)=Y11 at *
  generalize OF.2=E11 at *
  simp (disch:=omega)only[go_sem,vN,AP.f222,wM,wD,gF9,wZ,k11,z0,cz,a11,m11,ga11,st11]
 have p11:=e11 _ _ gP9
 have X11:Ext h G11:=fun i c q=>e11 _ _ (X9 _ _ q)
 have k13:=Kb G11 v l sv hn' (rd.mono fun i c q=>X11 i c q) (fun z hz=>⟨(hv z hz).1.mono X11,(hv z hz).2.1⟩) a b
 obtain⟨A13,G13,O13,a13,m13,ga13,st13,go13,e13,f13,lt13⟩:=EF G11 (by omega) _ (zr G11 sO)
 have b3:aM (aS AP.A) bB (at_ 3 AP.f222.body) [(2,.int .i64 a),(3,.int .i64 b),(4,.aC h.next 0),(5,.aC (h.next+1) 0),(9,.aC F 0),(10,.aC (F+1) 0),(11,.aC O11 0),(12,.int .i64 (xb (l.map (·.1)) a b).2)] G11=some (.normal,[(4,.aC h.next 0),(5,.aC (h.next+1) 0),(9,.aC F 0),(10,.aC (F+1) 0),(11,.aC O11 0),(12,.int .i64 (xb (l.map (·.1)) a b).2),(13,.aC O13 0),(14,.int .i64 (xb (l.map (·.1)) a b).2)],G13):=by
  clear b0 b1 b2 ox rd hv x2 lx tX ok7 e7 x4 X4 gn ck x9 x29 X9 sW sA oy rd9 hv9 sO e11 e13 X11
  generalize xb (l.map (·.1)) a b=OF at *
  generalize vH vV=Z at *
  generalize vH (xc OF.1)=Y11 at *
  generalize OF.2=E11 at *
  simp (disch:=omega)only[go_sem,vN,AP.f222,wM,wD,p11,wZ,k13,z0,cz,a13,m13,ga13,st13]
 have X93:Ext h9 G13:=fun i c q=>e13 _ _ (e11 _ _ q)
 have gF13:=X93 _ _ gF9
 have gG13:=X93 _ _ gG9
 have oy13:=oy.mono X93
 obtain⟨y15,w15,A15,G15,O15,k15,m15,a15,n15,ga15,st15,go15,e15,ok15,f15,l15,l15',wm15⟩:=Jp G13 (by omega) w acc sw (by omega) (sW.mono fun i c q=>X93 i c q) (fun z hz=>⟨(sA z hz).1.mono X93,(sA z hz).2⟩) y oy13
 rw[ea,em]at k15 m15
 have lY:=lx y
 have tY:=tX y
 have b4:aM (aS AP.A) bB (at_ 4 AP.f222.body) [(4,.aC h.next 0),(5,.aC (h.next+1) 0),(9,.aC F 0),(10,.aC (F+1) 0),(11,.aC O11 0),(12,.int .i64 (xb (l.map (·.1)) a b).2),(13,.aC O13 0),(14,.int .i64 (xb (l.map (·.1)) a b).2)] G13=some (.normal,[(4,.aC h.next 0),(5,.aC (h.next+1) 0),(9,.aC F 0),(10,.aC (F+1) 0),(11,.aC O11 0),(12,.int .i64 (xb (l.map (·.1)) a b).2),(13,.aC O13 0),(14,.int .i64 (xb (l.map (·.1)) a b).2),(15,.aC O15 0),(16,.bool (w8 (l.map (·.1)) x.m).2.1),(17,.int .i64 (w8 (l.map (·.1)) x.m).2.2)],G15):=by
  clear b0 b1 b2 b3 ox rd hv x2 lx tX ok7 e7 x4 X4 gn ck x9 x29 X9 sW sA oy rd9 hv9 sO e11 e13 X11 X93 oy13 e15 ok15 wm15
  generalize (xb (l.map (·.1)) a b).2=OF at *
  generalize (w8 (l.map (·.1)) x.m).2.1=AB at *
  generalize (w8 (l.map (·.1)) x.m).2.2=AE at *
  generalize vH vV=Z at *
  generalize vH y15=Y15 at *
  generalize vH y=Y at *
  simp (disch:=omega)only[go_sem,vN,AP.f222,wM,wD,gF13,wZ,gG13,CA,wL,lY,tY,Xf,k15,z0,cz,a15,n15,ga15,st15]
 have X15:Ext h G15:=fun i c q=>e15 _ _ (X93 _ _ (X9 _ _ q))
 have p15:=e15 _ _ (X93 _ _ gP9)
 have pm15:=e15 _ _ (X93 _ _ gM9)
 have k18:=MT G15 v l sv hn' (rd.mono fun i c q=>X15 i c q) (fun z hz=>⟨(hv z hz).1.mono X15,(hv z hz).2.1⟩) x (ox.mono X15)
 have o18:=Lz ok15 G15
 rw[m15]at o18
 obtain⟨A18,G18,O18,a18,m18,ga18,st18,go18,e18,f18,lt18⟩:=EF G15 (by omega) _ o18
 have b5:aM (aS AP.A) bB (at_ 5 AP.f222.body) [(4,.aC h.next 0),(5,.aC (h.next+1) 0),(9,.aC F 0),(10,.aC (F+1) 0),(11,.aC O11 0),(12,.int .i64 (xb (l.map (·.1)) a b).2),(13,.aC O13 0),(14,.int .i64 (xb (l.map (·.1)) a b).2),(15,.aC O15 0),(16,.bool (w8 (l.map (·.1)) x.m).2.1),(17,.int .i64 (w8 (l.map (·.1)) x.m).2.2)] G15=some (.normal,[(4,.aC h.next 0),(5,.aC (h.next+1) 0),(9,.aC F 0),(10,.aC (F+1) 0),(11,.aC O11 0),(12,.int .i64 (xb (l.map (·.1)) a b).2),(13,.aC O13 0),(14,.int .i64 (xb (l.map (·.1)) a b).2),(15,.aC O15 0),(16,.bool (w8 (l.map (·.1)) x.m).2.1),(17,.int .i64 (w8 (l.map (·.1)) x.m).2.2),(18,.aC O18 0),(19,.bool (w8 (l.map (·.1)) x.m).2.1),(20,.int .i64 (w8 (l.map (·.1)) x.m).2.2)],G18):=by
  have lX:=lx x
  have tx:=tX x
  clear b0 b1 b2 b3 b4 ox rd hv x2 lx tX ok7 e7 x4 X4 gn ck x9 x29 X9 sW sA oy rd9 hv9 sO e11 e13 X11 X93 oy13 e15 ok15 wm15 X15 o18 e18
  generalize (xb (l.map (·.1)) a b).2=OF at *
  generalize (w8 (l.map (·.1)) x.m).2.1=AB at *
  generalize (w8 (l.map (·.1)) x.m).2.2=AE at *
  generalize vH vV=Z at *
  generalize vH (xc (w8 (l.map (·.1)) x.m).1)=Y18 at *
  generalize vH x=X at *
  simp (disch:=omega)only[go_sem,vN,AP.f222,wM,wD,p15,wZ,pm15,CA,wL,lX,tx,Xf,k18,z0,cz,a18,m18,ga18,st18]
 have X38:Ext G13 G18:=fun i c q=>e18 _ _ (e15 _ _ q)
 have g11:G18.get O11=some (vH (xc (xb (l.map (·.1)) a b).1)):=X38 _ _ (e13 _ _ go11)
 have g13:=X38 _ _ go13
 have g15:=e18 _ _ go15
 have q1:=He G18 _ _ (zr G18 sO) (zr G18 sO)
 rw[A9]at q1
 have q2:=He G18 _ _ (ok15.mono e18) (o18.mono e18)
 rw[show(xc (w8 (l.map (·.1)) x.m).1).m=y15.m from m15.symm,A9]at q2
 have kn:=fun (g:H) n=>My g n
 simp only[I]at kn
 have b6:aM (aS AP.A) bB (at_ 6 AP.f222.body) [(4,.aC h.next 0),(5,.aC (h.next+1) 0),(9,.aC F 0),(10,.aC (F+1) 0),(11,.aC O11 0),(12,.int .i64 (xb (l.map (·.1)) a b).2),(13,.aC O13 0),(14,.int .i64 (xb (l.map (·.1)) a b).2),(15,.aC O15 0),(16,.bool (w8 (l.map (·.1)) x.m).2.1),(17,.int .i64 (w8 (l.map (·.1)) x.m).2.2),(18,.aC O18 0),(19,.bool (w8 (l.map (·.1)) x.m).2.1),(20,.int .i64 (w8 (l.map (·.1)) x.m).2.2)] G18=some (.normal,[(4,.aC h.next 0),(5,.aC (h.next+1) 0),(9,.aC F 0),(10,.aC (F+1) 0),(15,.aC O15 0)],G18):=by
  have c1:=lx (xc (xb (l.map (·.1)) a b).1)
  have c2:=tX (xc (xb (l.map (·.1)) a b).1)
  have c3:=lx y15
  have c4:=tX y15
  have c5:=lx (xc (w8 (l.map (·.1)) x.m).1)
  have c6:=tX (xc (w8 (l.map (·.1)) x.m).1)
  clear b0 b1 b2 b3 b4 b5 ox rd hv x2 lx tX ok7 e7 x4 X4 gn ck x9 x29 X9 sW sA oy rd9 hv9 sO e11 e13 X11 X93 oy13 e15 ok15 wm15 X15 o18 e18 X38
  generalize (xb (l.map (·.1)) a b).2=OF at *
  generalize vH (xc (xb (l.map (·.1)) a b).1)=Y11 at *
  generalize vH (xc (w8 (l.map (·.1)) x.m).1)=Y18 at *
  generalize (w8 (l.map (·.1)) x.m).2.1=AB at *
  generalize (w8 (l.map (·.1)) x.m).2.2=AE at *
  generalize vH y15=Y15 at *
  have u1:((!false)==false)=false:=rfl
  have u2:((!true)==true)=false:=rfl
  have u3:(!(false==false))=false:=rfl
  have u4:(!(true==true))=false:=rfl
  cases AB<;>
  simp (disch:=omega)only[go_sem,vN,AP.f222,wM,wD,g11,g13,g15,go18,CA,wL,c1,c2,c3,c4,c5,c6,Xf,q1,q2,kn,u1,u2,u3,u4]
 obtain⟨H,ks,low,fH,nH⟩:=KH (wm15.up e18 (by omega)) (by omega) (ok15.mono e18).sc
 have XH:Ext G13 H:=fun i c q=>by rw[low i (G13.lt _ _ q)];exact X38 _ _ q
 have XhH:Ext h H:=fun i c q=>XH _ _ (X93 _ _ (X9 _ _ q))
 have X9H:Ext h9 H:=fun i c q=>XH _ _ (X93 _ _ q)
 have gFH:=X9H _ _ gF9
 have gGH:=X9H _ _ gG9
 have gPH:=X9H _ _ gP9
 have gMH:=X9H _ _ gM9
 have s1:=L4 H w v acc l sw sv (by omega) (sW.mono fun i c q=>X9H i c q) (rd.mono fun i c q=>XhH i c q) (fun z hz=>⟨(sA z hz).1.mono X9H,(sA z hz).2⟩) (fun z hz=>⟨(hv z hz).1.mono XhH,(hv z hz).2.1⟩)
 rw[dt ea]at s1
 have s2:=He H y x (oy.mono X9H) (ox.mono XhH)
 rw[em,A9]at s2
 have ka:=IA
 have b7:aM (aS AP.A) bB (DO 7 AP.f222.body) [(4,.aC h.next 0),(5,.aC (h.next+1) 0),(9,.aC F 0),(10,.aC (F+1) 0),(15,.aC O15 0)] G18=some (.ret,[(8,.bool true)],H):=by
  have lX:=lx x
  have tx:=tX x
  have c3:=lx y15
  have c4:=tX y15
  clear b0 b1 b2 b3 b4 b5 b6 ox rd hv x2 lx tX ok7 e7 x4 X4 gn ck x9 x29 X9 sW sA oy rd9 hv9 sO e11 e13 X11 X93 oy13 e15 ok15 wm15 X15 o18 e18 X38 low XH XhH X9H
  generalize vH y15=Y15 at *
  generalize vH y=Y at *
  generalize vH x=X at *
  simp (disch:=omega)only[go_sem,vN,AP.f222,yK,yL,g15,CA,wL,c3,c4,Xf,ks,gFH,gPH,wZ,s1,gGH,gMH,lX,tx,lY,tY,s2,ka]
 have hb:aM (aS AP.A) bB AP.f222.body (params 0 [.agg [v],.agg (vH x),.int .i64 a,.int .i64 b]) h.dY=some (.ret,[(8,.bool true)],H):=by
  rw[LR,rZ,b0,sY,rZ,b1,sY,rZ,b2,sY,rZ,b3,sY,rZ,b4,sY,rZ,b5,sY,rZ,b6,sY]
  exact b7
 exact uo (fn:=AP.f222) (h2:=H) (e:=[(8,.bool true)]) rfl rfl rfl hb rfl rfl
theorem I0 (r:List (Ty×List AV)) (h:r.map (·.1)=[Lt,LL,Ad,Ad]) (hp:∀x∈r,Sh reachBytes x.1 x.2):aS AP.A 222 (r.map jV) H.empty=some (.bool true,H.empty):=by
 obtain⟨x,y,z,w,rfl,h1,h2,h3,h4⟩:=Vt h hp
 obtain⟨v,l,rfl,hv,rd,ok,hl⟩:=Sg h1
 obtain⟨m,rfl,om,sm⟩:=Si h2
 obtain⟨a,rfl,_⟩:=yU h3
 obtain⟨b,rfl,_⟩:=yU h4
 exact LS H.empty v l hv hl (rd _) (fun x hx=>⟨(ok x hx).2.1 _,(ok x hx).1,(ok x hx).2.2⟩) m (om _) sm a b
end Ab
