/- Part C4. -/
import Derived.Test.YtebioenemijecaaGreatDoorC3
set_option linter.unusedSimpArgs false
set_option linter.unusedVariables false
set_option maxRecDepth 100000
namespace Ab
open Go
theorem PM {B G:H} {S M O:Nat} {v w:AV} {l:List vG} {x y:wN} (k3:HG B G S M O v w l x) (nl6:x.m.names.length≤6) (gO:G.get O=some (vo y)) (y0:y.ve=.aQ):
 ∃ h' ov acc, aS AP.A 303 [.aE S 0, .aE M 0, .aE O 0] G = some (.bool (decide (0 < (yQ (l.map (·.1)) x.m.names).length)), h') ∧ (∀ i c, i ≠ O → G.get i = some c → h'.get i = some c) ∧ G.next ≤ h'.next ∧ h'.floor = G.floor ∧
   h'.get O=some (vo {y with m:={y.m with kind:=4},ve:=ov})∧WE G.next h' ov acc∧acc.map (·.1)=yQ (l.map (·.1)) x.m.names∧acc.length≤6:=by
 have fO:=k3.fO
 obtain⟨h1,eh1⟩:∃g,g=G.set O (vo {y with m:={y.m with kind:=4}}):=⟨_,rfl⟩
 have Cs:tS G O 0 1 [.int .i64 4] (some (vo y))=some h1:=by rw[uk (by omega) (by show 0<9;omega) rfl,eh1];rfl
 have g1:h1.get O=some (vo {y with m:={y.m with kind:=4}}):=by rw[eh1,vH rfl,gO];rfl
 have low1:∀i c,i≠O→G.get i=some c→h1.get i=some c:=fun i c c2 q=>by rw[eh1,vA c2];exact q
 obtain⟨_,gM1⟩:=k3.S_ low1
 obtain⟨e',h',ov,acc,r1,r2,r3,r4,r5,r6,r7,r8,r9⟩:=Cn (y:={y with m:={y.m with kind:=4}}) k3 nl6 x.m.names [] rfl h1 .aQ [] low1 (by rw[eh1];simp) (by rw[eh1];simp) (by rw[g1,←y0]) ⟨vT.nil,fun j q=>(by cases q),fun z hz=>(by cases hz)⟩ (uK _)
 have r1':Lp AP.A [0,2,17,18,19] AP.f303L0 [(0,.aE S 0),(2,.aE O 0),(17,x.vn),(18,.int .i64 x.m.names.length),(19,.int .i64 0)] h1=some (.exit 0,e',h'):=r1
 have r8':acc.map (·.1)=yQ (l.map (·.1)) x.m.names:=r8
 have al:acc.length=(yQ (l.map (·.1)) x.m.names).length:=by rw[←r8'];simp
 refine⟨h',ov,acc,tw (fn:=AP.f303) (h2:=h') (e:=[(6,.bool (decide (0<(yQ (l.map (·.1)) x.m.names).length)))]) (vs:=[.bool (decide (0<(yQ (l.map (·.1)) x.m.names).length))]) rfl rfl rfl ?_ rfl,r3,r4,r5,r6,r7,r8',by omega⟩
 have ln:=k3.ox.rn.Ck.len
 rw[wH]at ln
 have lw:=r7.own.rd.len
 rw[al]at lw
 have e7:(vo x)[7]?=some x.vn:=rfl
 have e8:(vo {y with m:={y.m with kind:=4},ve:=ov})[8]?=some ov:=rfl
 have r6':h'.get O=some (vo {y with m:={y.m with kind:=4},ve:=ov}):=r6
 clear r1 r3 r7 r8 r8' low1 eh1 r6 al r9
 generalize (yQ (l.map (·.1)) x.m.names).length=N at *
 generalize vo x=X at *
 generalize vo y=Y at *
 generalize vo {y with m:={y.m with kind:=4},ve:=ov}=Y2 at *
 by_cases c:0<N<;>simp (disch:=omega)only[go_sem,vq,AP.f303,gO,Cs,gM1,e7,ln,rV,r1',r2,r6',e8,lw]
theorem GY (h:H) (k:Int):aS AP.A 277 [.int .i64 k] h=some (if k=0 then .fn 300 [] []else if k=1 then .fn 301 [] []else if k=2 then .fn 302 [] []else if k=3 then .fn 303 [] []else .eZ,h):=by
 by_cases h0:k=0
 · rw[if_pos h0]
   refine tQ (fn:=AP.f277) (h2:=h.eh) (e:=[(2,.fn 300 [] [])]) rfl rfl rfl ?_ rfl rfl
   simp (disch:=omega)only[go_sem,vq,AP.f277]
 by_cases h1:k=1
 · rw[if_neg h0,if_pos h1]
   refine tQ (fn:=AP.f277) (h2:=h.eh) (e:=[(2,.fn 301 [] [])]) rfl rfl rfl ?_ rfl rfl
   simp (disch:=omega)only[go_sem,vq,AP.f277]
 by_cases h2:k=2
 · rw[if_neg h0,if_neg h1,if_pos h2]
   refine tQ (fn:=AP.f277) (h2:=h.eh) (e:=[(2,.fn 302 [] [])]) rfl rfl rfl ?_ rfl rfl
   simp (disch:=omega)only[go_sem,vq,AP.f277]
 by_cases h3:k=3
 · rw[if_neg h0,if_neg h1,if_neg h2,if_pos h3]
   refine tQ (fn:=AP.f277) (h2:=h.eh) (e:=[(2,.fn 303 [] [])]) rfl rfl rfl ?_ rfl rfl
   simp (disch:=omega)only[go_sem,vq,AP.f277]
 · rw[if_neg h0,if_neg h1,if_neg h2,if_neg h3]
   refine tQ (fn:=AP.f277) (h2:=h.eh) (e:=[(2,.eZ)]) rfl rfl rfl ?_ rfl rfl
   simp (disch:=omega)only[go_sem,vq,AP.f277]
def yG (L:List vN) (m:zh):Option zh:=
 if m.kind=0 then(if wQ (wo L)=m.root then none else some ⟨1,m.dst,m.src,0,wo L,[],[],[],[]⟩)
 else if m.kind=1 then(if xO L m.wE=[]then none else some ⟨2,m.dst,m.src,0,[],xO L m.wE,vP L (xO L m.wE),[],[]⟩)
 else if m.kind=2 then(if wV L m.vB=[]then none else some ⟨3,m.dst,m.src,0,[],[],[],wV L m.vB,[]⟩)
 else if m.kind=3 then(if yQ L m.names=[]then none else some ⟨4,m.dst,m.src,0,[],[],[],[],yQ L m.names⟩)
 else none
def yh:zh:=⟨0,0,0,0,[],[],[],[],[]⟩
def xx (L:List vN) (m:zh):zh×Bool×Int:=
 if v9 L=true∧zU m=true then((yG L m).getD yh,(yG L m).isSome,0)else(yh,false,2200)
theorem PX:vL.m=yh:=rfl
theorem D3 (h:H):AG h vL:=⟨⟨rfl,fun s q=>(by cases q)⟩,⟨rfl,fun s q=>(by cases q)⟩,⟨⟨rfl,rfl,fun s q=>(by cases q)⟩,fun y hy=>(by cases hy)⟩,rfl,⟨rfl,fun s q=>(by cases q)⟩,⟨rfl,rfl,fun s q=>(by cases q)⟩,rfl,fun y hy=>(by cases hy),fun y hy=>(by cases hy),⟨rfl,rfl,rfl,rfl,rfl⟩,by decide,by decide,by decide,by decide,by decide,⟨fun s hs=>(by cases hs),fun s hs=>(by cases hs)⟩⟩
theorem GR (B:Nat) (h:H):WM B h vL:=.d (.inl rfl) rfl rfl rfl rfl
structure S8 (h h':H) (y:wN):Prop where
 ok:AG h' y
 wm:WM h.next h' y
 ext:Ext h h'
 fl:h'.floor=h.floor
 nx:h.next≤h'.next
theorem Gq {h:H} {v:AV} {l:List Int} (o:vT 1 h v l.length (ints l)):Rd h v (ints l):=by
 have:=o.rd
 exact⟨by rw[pC];exact this.1,this.2.2⟩
theorem y6 (h:H):Rd h .aQ []:=⟨rfl,fun s q=>(by cases q)⟩
theorem Bw (n:Nat) (h:H):xb n h .aQ 0 []:=⟨rfl,by simp,fun s q=>(by cases q)⟩
theorem DR (h:H):GV h .aQ []:=⟨Bw 2 h,fun y hy=>(by cases hy)⟩
theorem I6 {L:List vN} {ns:List ByteArray} {e:vN} (h:e∈yQ L ns):e∈L:=by
 unfold yQ at h
 obtain⟨s,_,hs⟩:=List.mem_filterMap.1 h
 split at hs
 · exact uO hs
 · cases hs
theorem D7:AP.f240.body=.seq (at_ 0 AP.f240.body) (.seq (at_ 1 AP.f240.body) (.seq (at_ 2 AP.f240.body) (.seq (at_ 3 AP.f240.body) (.seq (at_ 4 AP.f240.body) (FN 5 AP.f240.body))))):=rfl
theorem HO {h6 h7:H} {v w:AV} {R O M P f:Nat} {b:Bool} {y:wN} {H5:H} (e6:H5.alloc [v,w]=h6) (sv:v.sc=true) (sw:w.sc=true) (gP:H5.get P=some [v]) (k:aS AP.A f [.aE H5.next 0,.aE M 0,.aE O 0] h6=some (.bool b,h7)) (gO:h7.get O=some (vo y)) (gR:h7.get R=some (vo vL)) (fR:h7.floor≤R) (cy:AV.aD (vo y)=true):
 ∃e,aM (aS AP.A) bD (FN 5 AP.f240.body) [(2,.aE P 0),(3,.aE M 0),(4,.aE R 0),(7,w),(9,.aE O 0),(10,.fn f [] [])] H5=some (.ret,e,if b then h7.set R (vo y)else h7.set R (vo vL))∧look e 4=.aE R 0∧look e 5=.bool b∧look e 6=.int .i64 0:=by
 have cw:=xp sw
 have tP:List.take 1 [v]=[v]:=rfl
 have Nk:fN 2 (.fn f [] []) .eZ=some false:=rfl
 have z0:([.int .i64 0,.int .i64 0,.int .i64 0,.int .i64 0,.aQ,.aQ,.aQ,.aQ,.aQ]:List AV)=vo vL:=rfl
 have cz:AV.aD (vo vL)=true:=rfl
 have Cs:tS h7 R 0 9 (vo vL) (some (vo vL))=some (h7.set R (vo vL)):=w8 fR rfl rfl cz
 have st2:tS h7 R 0 9 (vo y) (some (vo vL))=some (h7.set R (vo y)):=w8 fR rfl rfl cy
 have ly:(vo y).length=9:=rfl
 have ty:List.take 9 (vo y)=vo y:=rfl
 cases b with
 | false =>
   refine⟨[(4,.aE R 0),(5,.bool false),(6,.int .i64 0)], ?_,rfl,rfl,rfl⟩
   rw[if_neg (by decide)]
   generalize vo vL=Z at *
   generalize vo y=Y at *
   simp (disch:=omega)only[go_sem,vq,AP.f240,Cy,Cz,Nk,gP,wS,sv,sw,cw,e6,k,nJ,z0,gR,Cs]
 | true =>
   refine⟨[(4,.aE R 0),(5,.bool true),(6,.int .i64 0)], ?_,rfl,rfl,rfl⟩
   rw[if_pos rfl]
   generalize vo vL=Z at *
   generalize vo y=Y at *
   simp (disch:=omega)only[go_sem,vq,AP.f240,Cy,Cz,Nk,gP,wS,sv,sw,cw,e6,k,nJ,gO,FH,wM,ly,ty,UK,gR,st2]
set_option maxHeartbeats 8000000 in
theorem Qa (h : H) (hf : h.floor ≤ h.next) (v : AV) (l : List vG) (sv : v.sc = true) (hn : l.length < 1125899906842624) (rd : xb 9 h v l.length (vD l)) (hv : ∀ x ∈ l, xe h x ∧ x.2.sc = true) (x : wN) (ox : AG h x) :
 ∃y h',aS AP.A 240 [.agg [v],.agg (vo x)] h=some (.bS [.agg (vo y),.bool (xx (l.map (·.1)) x.m).2.1,.int .i64 (xx (l.map (·.1)) x.m).2.2],h')∧y.m=(xx (l.map (·.1)) x.m).1∧S8 h h' y:=by
 obtain⟨h1,eh1⟩:∃g,g=h.alloc [v]:=⟨_,rfl⟩
 obtain⟨h2,eh2⟩:∃g,g=h1.alloc (vo x):=⟨_,rfl⟩
 obtain⟨h3,eh3⟩:∃g,g=h2.alloc (vo vL):=⟨_,rfl⟩
 have n1:h1.next=h.next+1:=by rw[eh1];simp
 have n2:h2.next=h.next+2:=by rw[eh2];simp [n1]
 have n3:h3.next=h.next+3:=by rw[eh3];simp [n2]
 have f3:h3.floor=h.floor:=by rw[eh3,eh2,eh1];simp
 have x3:Ext h h3:=by rw[eh3,eh2,eh1];exact(((Ext.refl h).alloc _).alloc _).alloc _
 have gP:h3.get h.next=some [v]:=by rw[eh3,vO (by omega),eh2,vO (by omega),eh1,vu rfl]
 have gM:h3.get (h.next+1)=some (vo x):=by rw[eh3,vO (by omega),eh2,vu (by omega)]
 have gR:h3.get (h.next+2)=some (vo vL):=by rw[eh3,vu (by omega)]
 have cx:=y5 ox
 have lx:(vo x).length=9:=rfl
 have b0:aM (aS AP.A) bD (at_ 0 AP.f240.body) (params 0 [.agg [v],.agg (vo x)]) h=some (.normal,[(2,.aE h.next 0),(3,.aE (h.next+1) 0),(4,.aE (h.next+2) 0)],h3):=by
  have z:h2.alloc [.int .i64 0,.int .i64 0,.int .i64 0,.int .i64 0,.aQ,.aQ,.aQ,.aQ,.aQ]=h3:=eh3.symm
  clear ox rd hv x3
  generalize vo x=X at *
  simp (disch:=omega)only[go_sem,vq,AP.f240,wy,sv,←eh1,lx,cx,n1,←eh2,n2,z]
 obtain⟨w,h4,k1,g4⟩:=Fm h3 (by omega) v l sv hn (rd.mono fun i c q=>x3 i c q) (fun z hz=>⟨(hv z hz).1.mono x3,(hv z hz).2⟩)
 have x4:=g4.ext
 have n4:=g4.nx
 have f4:=g4.fl
 have sw:=g4.own.sc
 have gP4:=x4 _ _ gP
 have gM4:=x4 _ _ gM
 have gR4:=x4 _ _ gR
 have xh4:Ext h h4:=fun i c q=>x4 _ _ (x3 _ _ q)
 have b1:aM (aS AP.A) bD (at_ 1 AP.f240.body) [(2,.aE h.next 0),(3,.aE (h.next+1) 0),(4,.aE (h.next+2) 0)] h3=some (.normal,[(2,.aE h.next 0),(3,.aE (h.next+1) 0),(4,.aE (h.next+2) 0),(7,w),(8,.int .i64 (if v9 (l.map (·.1))then 0 else 1600))],h4):=by
  clear ox rd hv x3 x4 g4 xh4
  generalize (if v9 (l.map (·.1))=true then(0:Int)else 1600)=E at *
  simp (disch:=omega)only[go_sem,vq,AP.f240,wI,wy,gP,wS,k1]
 have ox4:=ox.mono xh4
 have km:=Pw h4 x ox4
 have tX:List.take 9 (vo x)=vo x:=rfl
 by_cases ok:v9 (l.map (·.1))=true∧zU x.m=true
 case neg=>
  have eR:xx (l.map (·.1)) x.m=(yh,false,2200):=by unfold xx;rw[if_neg ok]
  rw[eR]
  obtain⟨h5,eh5⟩:∃g,g=h4.set (h.next+2) (vo vL):=⟨_,rfl⟩
  have e5:h5=h4:=by rw[eh5];exact H.jJ gR4
  have st:tS h4 (h.next+2) 0 9 (vo vL) (some (vo vL))=some h4:=by rw[w8 (n:=9) (by omega) rfl rfl rfl,←eh5,e5]
  refine⟨vL,h4,tw (fn:=AP.f240) (h2:=h4) (e:=[(4,.aE (h.next+2) 0),(5,.bool false),(6,.int .i64 2200)]) (vs:=[.agg (vo vL),.bool false,.int .i64 2200]) rfl rfl rfl ?_ (by simp only[AP.f240,cO,na,mO,lq,ne_eq,Nat.reduceEqDiff,not_false_eq_true,qC,gR4,sV];rfl),rfl,D3 h4,GR _ _,xh4,by omega,by omega⟩
  rw[D7,rI,b0,sD,rI,b1,sD]
  have z0:([.int .i64 0,.int .i64 0,.int .i64 0,.int .i64 0,.aQ,.aQ,.aQ,.aQ,.aQ]:List AV)=vo vL:=rfl
  have cz:AV.aD (vo vL)=true:=rfl
  by_cases c1:v9 (l.map (·.1))=true
  · have c2:zU x.m=false:=by
     cases q:zU x.m with
     |false=>rfl
     |true=>exact absurd ⟨c1,q⟩ ok
    rw[c2]at km
    rw[if_pos c1]
    clear ox rd hv x3 x4 g4 xh4 ox4 b0 b1
    generalize vo x=X at *
    generalize vo vL=Z at *
    simp (disch:=omega)only[go_sem,vq,AP.f240,wI,wy,gM4,FH,wM,lx,tX,UK,km,z0,gR4,st]
  · rw[if_neg c1]
    clear ox rd hv x3 x4 g4 xh4 ox4 b0 b1
    generalize vo x=X at *
    generalize vo vL=Z at *
    simp (disch:=omega)only[go_sem,vq,AP.f240,wI,wy,z0,gR4,st]
 case pos=>
  obtain⟨c1,c2⟩:=ok
  rw[if_pos c1]at b1
  rw[c2]at km
  simp only[c1,if_true]at g4
  rw[vR]at g4
  have eR:xx (l.map (·.1)) x.m=((yG (l.map (·.1)) x.m).getD yh,(yG (l.map (·.1)) x.m).isSome,0):=by unfold xx;rw[if_pos ⟨c1,c2⟩]
  rw[eR]
  have b2:aM (aS AP.A) bD (at_ 2 AP.f240.body) [(2,.aE h.next 0),(3,.aE (h.next+1) 0),(4,.aE (h.next+2) 0),(7,w),(8,.int .i64 0)] h4=some (.normal,[(2,.aE h.next 0),(3,.aE (h.next+1) 0),(4,.aE (h.next+2) 0),(7,w)],h4):=by
   clear ox rd hv x3 x4 g4 xh4 ox4 b0 b1
   generalize vo x=X at *
   simp (disch:=omega)only[go_sem,vq,AP.f240,wI,wy,gM4,FH,wM,lx,tX,UK,km]
  obtain⟨y0,hy0⟩:∃y:wN,y=⟨⟨0,x.m.dst,x.m.src,0,[],[],[],[],[]⟩,.aQ,.aQ,.aQ,.aQ,.aQ,[],[]⟩:=⟨_,rfl⟩
  obtain⟨h5,eh5⟩:∃g,g=(h4.alloc (vo vL)).set h4.next (vo y0):=⟨_,rfl⟩
  have ga:(h4.alloc (vo vL)).get h4.next=some (vo vL):=vu rfl
  have n5:h5.next=h4.next+1:=by rw[eh5];simp
  have f5:h5.floor=h.floor:=by rw[eh5];simp;omega
  have x5:Ext h4 h5:=fun i c q=>by have:=h4.lt _ _ q;rw[eh5,vA (by omega),vO (by omega)];exact q
  have g5:h5.get h4.next=some (vo y0):=by rw[eh5,vH rfl,ga];rfl
  have st5:tS (h4.alloc (vo vL)) h4.next 0 9 (vo y0) (some (vo vL))=some h5:=by rw[eh5];exact w8 (by simp;omega) rfl rfl (by rw[hy0];rfl)
  have b3:aM (aS AP.A) bD (at_ 3 AP.f240.body) [(2,.aE h.next 0),(3,.aE (h.next+1) 0),(4,.aE (h.next+2) 0),(7,w)] h4=some (.normal,[(2,.aE h.next 0),(3,.aE (h.next+1) 0),(4,.aE (h.next+2) 0),(7,w),(9,.aE h4.next 0)],h5):=by
   have e1:(vo x)[1]?=some (.int .i64 x.m.src):=rfl
   have e2:(vo x)[2]?=some (.int .i64 x.m.dst):=rfl
   have z0:([.int .i64 0,.int .i64 0,.int .i64 0,.int .i64 0,.aQ,.aQ,.aQ,.aQ,.aQ]:List AV)=vo vL:=rfl
   have zy:ei (vo vL) [(1,1,.int .i64 x.m.dst),(2,1,.int .i64 x.m.src)]=some (vo y0):=by rw[hy0];rfl
   have cz:AV.aD (vo vL)=true:=rfl
   clear ox rd hv x3 x4 g4 xh4 ox4 b0 b1 b2 x5 hy0 tX
   generalize vo x=X at *
   generalize vo vL=Z at *
   generalize vo y0=Y at *
   simp (disch:=omega)only[go_sem,AP.f240,wI,wy,gM4,e1,e2,z0,zy,cz,zI,wM,Dt,UL,U1,ga,st5,uP,vH,vA,vu,vO]
  have ka:=GY h5 x.m.kind
  have gM5:=x5 _ _ gM4
  have e0:(vo x)[0]?=some (.int .i64 x.m.kind):=rfl
  have b4:∀fv,aS AP.A 277 [.int .i64 x.m.kind] h5=some (fv,h5)→aM (aS AP.A) bD (at_ 4 AP.f240.body) [(2,.aE h.next 0),(3,.aE (h.next+1) 0),(4,.aE (h.next+2) 0),(7,w),(9,.aE h4.next 0)] h5=some (.normal,[(2,.aE h.next 0),(3,.aE (h.next+1) 0),(4,.aE (h.next+2) 0),(7,w),(9,.aE h4.next 0),(10,fv)],h5):=fun fv q=>by
   clear ox rd hv x3 x4 g4 xh4 ox4 b0 b1 b2 b3 x5 hy0 tX ka
   generalize vo x=X at *
   simp (disch:=omega)only[go_sem,vq,AP.f240,wI,wy,gM5,e0,q]
  have hb:∀fv,aS AP.A 277 [.int .i64 x.m.kind] h5=some (fv,h5)→aM (aS AP.A) bD AP.f240.body (params 0 [.agg [v],.agg (vo x)]) h=aM (aS AP.A) bD (FN 5 AP.f240.body) [(2,.aE h.next 0),(3,.aE (h.next+1) 0),(4,.aE (h.next+2) 0),(7,w),(9,.aE h4.next 0),(10,fv)] h5:=fun fv q=>by
   rw[D7,rI,b0,sD,rI,b1,sD,rI,b2,sD,rI,b3,sD,rI,b4 fv q,sD]
   rfl
  obtain⟨h6,eh6⟩:∃g,g=h5.alloc [v,w]:=⟨_,rfl⟩
  have x6:Ext h5 h6:=by rw[eh6];exact(Ext.refl _).alloc _
  have n6:h6.next=h4.next+2:=by rw[eh6];simp [n5]
  have f6:h6.floor=h.floor:=by rw[eh6];simp [f5]
  have rdW:Rd h4 w (ints (wo (l.map (·.1)))):=Gq (by rw[vR];exact g4.own)
  have sd:Sd h4 v w l:=⟨rd.mono fun i c q=>xh4 i c q,fun z hz=>⟨(hv z hz).1.mono xh4,(hv z hz).2⟩,c1,rdW⟩
  have k3:HG h4 h6 h5.next (h.next+1) h4.next v w l x:=⟨sd,ox4,by rw[eh6,vu rfl],x6 _ _ gM5,⟨by omega,by omega⟩,fun i c q=>x6 _ _ (x5 _ _ q),uK _,by omega,by omega,by omega⟩
  have gO6:=x6 _ _ g5
  have gR6:=x6 _ _ (x5 _ _ gR4)
  have gP5:=x5 _ _ gP4
  have fin:∀{b:Bool} {h7:H} {y:wN} {f:Nat},aS AP.A 277 [.int .i64 x.m.kind] h5=some (.fn f [] [],h5)→aS AP.A f [.aE h5.next 0,.aE (h.next+1) 0,.aE h4.next 0] h6=some (.bool b,h7)→h7.get h4.next=some (vo y)→(∀i c,i≠h4.next→h6.get i=some c→h7.get i=some c)→h6.next≤h7.next→h7.floor=h6.floor→AV.aD (vo y)=true→
   ∃h',aS AP.A 240 [.agg [v],.agg (vo x)] h=some (.bS [.agg (vo (if b then y else vL)),.bool b,.int .i64 0],h')∧(∀i c,i≠h.next+2→h7.get i=some c→h'.get i=some c)∧h'.floor=h.floor∧h'.next=h7.next:=fun {b h7 y f} qa qf qO ql qn qfl qc=>by
   have gR7:=ql _ _ (by omega) gR6
   obtain⟨e,t1,t2,t3,t4⟩:=HO (P:=h.next) (M:=h.next+1) (O:=h4.next) eh6.symm sv sw gP5 qf qO gR7 (by omega) qc
   refine⟨if b then h7.set (h.next+2) (vo y)else h7.set (h.next+2) (vo vL),tw (fn:=AP.f240) (h2:=if b then h7.set (h.next+2) (vo y)else h7.set (h.next+2) (vo vL)) (e:=e) (vs:=[.agg (vo (if b then y else vL)),.bool b,.int .i64 0]) rfl rfl rfl (by rw[hb _ qa,t1]) ?_,fun i c q1 q2=> ?_, ?_, ?_⟩
   · cases b with
     | true =>
       have gg:(h7.set (h.next+2) (vo y)).get (h.next+2)=some (vo y):=by rw[vH rfl,gR7];rfl
       simp only[AP.f240,cO,na,t2,t3,t4,if_true,qC,gg,sV];rfl
     | false =>
       have gg:(h7.set (h.next+2) (vo vL)).get (h.next+2)=some (vo vL):=by rw[vH rfl,gR7];rfl
       simp only[AP.f240,cO,na,t2,t3,t4,uH,vh,qC,gg,sV];rfl
   · cases b<;>simp only[uH,if_true,vh]<;>rw[vA q1]<;>exact q2
   · cases b<;>simp [qfl,f6]
   · cases b<;>simp
  have none_fin:∀{h7:H} {h':H} (e:zh×Bool×Int),e=(yh,false,0)→aS AP.A 240 [.agg [v],.agg (vo x)] h=some (.bS [.agg (vo vL),.bool false,.int .i64 0],h')→Ext h h'→h'.floor=h.floor→h.next≤h'.next→
   ∃y h',aS AP.A 240 [.agg [v],.agg (vo x)] h=some (.bS [.agg (vo y),.bool e.2.1,.int .i64 e.2.2],h')∧y.m=e.1∧S8 h h' y:=fun {h7 h'} e he q1 q2 q3 q4=>by
   subst he
   exact⟨vL,h',q1,rfl,D3 h',GR _ _,q2,q3,q4⟩
  have xfin:∀{h7 h':H},(∀i c,i≠h4.next→h6.get i=some c→h7.get i=some c)→(∀i c,i≠h.next+2→h7.get i=some c→h'.get i=some c)→Ext h h':=fun a b i c q=>by
   have:=h.lt _ _ q
   exact b _ _ (by omega) (a _ _ (by omega) (x6 _ _ (x5 _ _ (xh4 _ _ q))))
  obtain⟨iw,ew,gw,fw,_⟩:∃i,w=.aF i 0 8 1∧h4.get i=some (ints (wo (l.map (·.1))))∧h4.floor≤i∧h3.next≤i:=by
   obtain⟨_,⟨_,q⟩|⟨i,q1,q2,q3,_⟩⟩:=g4.own
   · exact absurd q (by decide)
   · exact⟨i,q1,q2,q3,g4.ge i (by rw[q1];rfl)⟩
  have iwn:=h4.lt _ _ gw
  by_cases h0:x.m.kind=0
  · rw[if_pos h0]at ka
    have sd6:=sd.mono fun i c q=>x6 _ _ (x5 _ _ q)
    have ks:=Ji h6 h5.next (h.next+1) h4.next v w l sd6 (by rw[eh6,vu rfl]) x y0 k3.gM gO6 (by omega) k3.ne sw
    have low:∀i c,i≠h4.next→h6.get i=some c→(h6.set h4.next (vo {y0 with m:={y0.m with kind:=1},vd:=w})).get i=some c:=fun i c c2 q=>by rw[vA c2];exact q
    obtain⟨h',t1,t2,t3,t4⟩:=fin (y:={y0 with m:={y0.m with kind:=1},vd:=w}) ka ks (by rw[vH rfl,gO6];rfl) low (by simp) (by simp) (by rw[hy0];simp [vo,sw])
    have X':=xfin low t2
    have N':h.next≤h'.next:=by rw[t4];simp;omega
    by_cases c:wQ (wo (l.map (·.1)))=x.m.root
    · rw[dt c,Bool.not_true,if_neg (by decide)]at t1
      refine none_fin (h7:=h6) _ ?_ t1 X' t3 N'
      unfold yG;rw[if_pos h0,if_pos c];rfl
    · rw[df c,Bool.not_false,if_pos rfl]at t1
      have ea:yG (l.map (·.1)) x.m=some ⟨1,x.m.dst,x.m.src,0,wo (l.map (·.1)),[],[],[],[]⟩:=by unfold yG;rw[if_pos h0,if_neg c]
      rw[ea]
      have gw':h'.get iw=some (ints (wo (l.map (·.1)))):=t2 _ _ (by omega) (low _ _ (by omega) (x6 _ _ (x5 _ _ gw)))
      refine⟨⟨⟨1,x.m.dst,x.m.src,0,wo (l.map (·.1)),[],[],[],[]⟩,w,.aQ,.aQ,.aQ,.aQ,[],[]⟩,h', ?_,rfl,⟨⟨?_,y6 _,DR _,rfl,y6 _,Bw _ _,rfl,fun y hy=>(by cases hy),fun y hy=>(by cases hy),⟨sw,rfl,rfl,rfl,rfl⟩, ?_,by show(0:Nat)<_;omega,by show(0:Nat)<_;omega,by show(0:Nat)<_;omega,by show(0:Nat)<_;omega,⟨fun s hs=>(by cases hs),fun s hs=>(by cases hs)⟩⟩,.d (.inr ⟨iw, ?_,gw',by omega,by omega, ?_⟩) rfl rfl rfl rfl,X',t3,N'⟩⟩
      · rw[t1,hy0];rfl
      · rw[ew];exact Rd.obj gw' (vR _)
      · show(wo (l.map (·.1))).length<_;rw[vR];omega
      · show w=_;rw[ew,vR]
      · show(wo (l.map (·.1))).length<_;rw[vR];omega
  rw[if_neg h0]at ka
  by_cases h1:x.m.kind=1
  · rw [if_pos h1] at ka
    have l8:x.m.wE.length=8:=by
     have:=c2
     unfold zU yc at this
     rw[if_neg h0,if_pos h1]at this
     simp only[uL,UH]at this
     exact this.2.1.1
    obtain⟨h7,ov,ow,acc,ks,low,n7,f7,gO7,o1,o2,m2,g1,g2,g3⟩:=Hz (y:=y0) k3 sv l8 gO6 (by rw[hy0])
    have s1:=o1.sc
    have s2:=o2.sc
    obtain⟨h',t1,t2,t3,t4⟩:=fin (y:={y0 with m:={y0.m with kind:=2},vb:=ov,vf:=ow}) ka ks gO7 low n7 f7 (by rw[hy0];simp [vo,s1,s2])
    have X':=xfin low t2
    have N':h.next≤h'.next:=by rw[t4];omega
    obtain⟨U,hU⟩:∃U,U=xO (l.map (·.1)) x.m.wE:=⟨_,rfl⟩
    rw[←hU]at t1 o1 m2
    by_cases c:U=[]
    · rw[c]at t1
      refine none_fin (h7:=h6) _ ?_ t1 X' t3 N'
      unfold yG;rw[if_neg h0,if_pos h1,←hU,if_pos c];rfl
    · have U0:0<U.length:=U5.2 c
      rw[dt U0,if_pos rfl]at t1
      have ea:yG (l.map (·.1)) x.m=some ⟨2,x.m.dst,x.m.src,0,[],U,vP (l.map (·.1)) U,[],[]⟩:=by unfold yG;rw[if_neg h0,if_pos h1,←hU,if_neg c]
      rw[ea]
      have Ul:U.length≤8:=by rw[hU];have:=zF (wo (l.map (·.1))) x.m.wE 0;rw[vR]at this;exact this
      have o1':vT 1 h' ov U.length (ints U):=by
       obtain⟨a,⟨b1,b2⟩|⟨j,b1,b2,b3,b4⟩⟩:=o1
       · exact⟨a,.inl ⟨b1,b2⟩⟩
       · have:=g1 j (by rw[b1];rfl)
         exact⟨a,.inr ⟨j,b1,t2 _ _ (by omega) b2,by omega,b4⟩⟩
      have o2':vT 2 h' ow acc.length (wB acc):=by
       obtain⟨a,⟨b1,b2⟩|⟨j,b1,b2,b3,b4⟩⟩:=o2
       · exact⟨a,.inl ⟨b1,b2⟩⟩
       · have:=(g2 j (by rw[b1];rfl)).1
         exact⟨a,.inr ⟨j,b1,t2 _ _ (by omega) b2,by omega,b4⟩⟩
      have al:acc.length≤6:=by
       have:=U2 List.length m2
       rw[UF]at this
       have a2:=yU (l.map (·.1)) U
       have a3:=(vZ (wq c1)).1
       omega
      have bsz:∀z∈acc,z.1.1.size≤8:=fun z hz=>by
       have:z.1∈vP (l.map (·.1)) U:=by rw[←m2];exact UR.2 ⟨z,hz,rfl⟩
       unfold vP at this
       obtain⟨e,he,q⟩:=UR.1 this
       rw[←q]
       exact(BU c1 e ((List.mem_filter.1 he).1)).2.2
      have vz:∀z∈acc,z.1.2.length=4∧∃j,z.2=.aF j 0 4 1∧h'.get j=some (ints z.1.2)∧h.next≤j∧ow.id?≠some j∧ov.id?≠some j∧h'.floor≤j:=fun z hz=>by
       obtain⟨a1,j,a2,a3,a4,a5,a6,a7⟩:=g3 z hz
       exact⟨a1,j,a2,t2 _ _ (by omega) a3,by omega,a5,a6,by omega⟩
      refine⟨⟨⟨2,x.m.dst,x.m.src,0,[],U,vP (l.map (·.1)) U,[],[]⟩,.aQ,ov,ow,.aQ,.aQ,acc,[]⟩,h', ?_,rfl,⟨⟨y6 _,Gq o1',⟨o2'.rd,fun z hz=> ?_⟩,m2,y6 _,Bw _ _,rfl,fun y hy=>(by cases hy),fun z hz=> ?_,⟨rfl,s1,s2,rfl,rfl⟩,by show(0:Nat)<_;omega,by show U.length<_;omega, ?_,by show(0:Nat)<_;omega,by show(0:Nat)<_;omega,⟨fun s hs=>(by cases hs),fun b hb=> ?_⟩⟩,.b ?_ ⟨o2',fun i q=>by have:=(g2 i q).1;omega,fun z hz=> ?_⟩ (by show acc.length≤1000;omega) (fun i q=> ?_) rfl rfl rfl,X',t3,N'⟩⟩
      · rw[t1,hy0];rfl
      · obtain⟨a1,j,a2,a3,_⟩:=vz z hz
        rw[a2]
        exact⟨Rd.obj a3 a1,by omega⟩
      · obtain⟨a1,j,a2,_⟩:=vz z hz
        rw[a2];rfl
      · have a2:=yU (l.map (·.1)) U
        have a3:=(vZ (wq c1)).1
        show(vP (l.map (·.1)) U).length<_
        omega
      · have hb':b∈vP (l.map (·.1)) U:=hb
        rw[←m2]at hb'
        obtain⟨z,hz,rfl⟩:=UR.1 hb'
        have:=bsz z hz
        omega
      · obtain⟨_,⟨b1,b2⟩|⟨j,b1,b2,b3,b4⟩⟩:=o1'
        · exact .inl b1
        · have:=g1 j (by rw[b1];rfl)
          exact .inr ⟨j,b1,b2,b3,by omega,by show U.length<_;omega⟩
      · obtain⟨a1,j,a2,a3,a4,a5,a6,a7⟩:=vz z hz
        exact⟨bsz z hz,a1,j,a2,a3,a4,a5,a7⟩
      · refine⟨fun q2=>(g2 i q2).2 q,fun z hz q2=> ?_⟩
        obtain⟨a1,j,a2,a3,a4,a5,a6,a7⟩:=vz z hz
        rw[a2]at q2
        obtain rfl:=uz q2
        exact a6 q
  rw[if_neg h1]at ka
  by_cases h2':x.m.kind=2
  · rw [if_pos h2'] at ka
    have fm:x.m.vB.length≤6∧(∀b∈x.m.vB,xa b.2=true)∧∀b∈x.m.vB,b.1.size≤8:=by
     have:=c2
     unfold zU yc at this
     rw[if_neg h0,if_neg h1,if_pos h2']at this
     simp only[uL,UH,UY]at this
     exact⟨this.2.1.2.2.2.1,this.2.1.2.2.2.2,fun b hb=>Df this.2.1.2.2.1 b.1 (UR.2 ⟨b,hb,rfl⟩)⟩
    have fl6:x.fs.length≤6:=by
     have:x.fs.length=x.m.vB.length:=by rw[←ox.hf];simp
     omega
    obtain⟨h7,ov,ks,low,n7,f7,gO7,o1,g1⟩:=PN (y:=y0) k3 fl6 fm.2.1 gO6 (by rw[hy0])
    have s1:=o1.sc
    obtain⟨h',t1,t2,t3,t4⟩:=fin (y:={y0 with m:={y0.m with kind:=3},vn:=ov}) ka ks gO7 low n7 f7 (by rw[hy0];simp [vo,s1])
    have X':=xfin low t2
    have N':h.next≤h'.next:=by rw[t4];omega
    obtain⟨U,hU⟩:∃U,U=wV (l.map (·.1)) x.m.vB:=⟨_,rfl⟩
    rw[←hU]at t1 o1
    by_cases c:U=[]
    · rw[c]at t1
      refine none_fin (h7:=h6) _ ?_ t1 X' t3 N'
      unfold yG;rw[if_neg h0,if_neg h1,if_pos h2',←hU,if_pos c];rfl
    · have U0:0<U.length:=U5.2 c
      rw[dt U0,if_pos rfl]at t1
      have ea:yG (l.map (·.1)) x.m=some ⟨3,x.m.dst,x.m.src,0,[],[],[],U,[]⟩:=by unfold yG;rw[if_neg h0,if_neg h1,if_pos h2',←hU,if_neg c]
      rw[ea]
      have Ul:U.length≤6:=by rw[hU];unfold wV;rw[UF];exact u6 (List.length_filter_le _ _) fm.1
      have Us:∀s∈U,s.size≤8:=fun s hs=>by
       rw[hU]at hs
       unfold wV at hs
       obtain⟨b,hb,rfl⟩:=UR.1 hs
       exact fm.2.2 b (List.mem_filter.1 hb).1
      have o1':vT 1 h' ov U.length (xc U):=by
       obtain⟨a,⟨b1,b2⟩|⟨j,b1,b2,b3,b4⟩⟩:=o1
       · exact⟨a,.inl ⟨b1,b2⟩⟩
       · have:=g1 j (by rw[b1];rfl)
         exact⟨a,.inr ⟨j,b1,t2 _ _ (by omega) b2,by omega,b4⟩⟩
      have rN:Rd h' ov (xc U):=by
       have:=o1'.rd
       exact⟨by rw[wH];exact this.1,this.2.2⟩
      refine⟨⟨⟨3,x.m.dst,x.m.src,0,[],[],[],U,[]⟩,.aQ,.aQ,.aQ,ov,.aQ,[],[]⟩,h', ?_,rfl,⟨⟨y6 _,y6 _,DR _,rfl,rN,Bw _ _,rfl,fun y hy=>(by cases hy),fun y hy=>(by cases hy),⟨rfl,rfl,rfl,s1,rfl⟩,by show(0:Nat)<_;omega,by show(0:Nat)<_;omega,by show(0:Nat)<_;omega,by show U.length<_;omega,by show(0:Nat)<_;omega,⟨fun s hs=>by have:=Us s hs;omega,fun s hs=>(by cases hs)⟩⟩,.n ?_ rfl rfl rfl rfl,X',t3,N'⟩⟩
      · rw[t1,hy0];rfl
      · obtain⟨_,⟨b1,b2⟩|⟨j,b1,b2,b3,b4⟩⟩:=o1'
        · exact .inl b1
        · have:=g1 j (by rw[b1];rfl)
          exact .inr ⟨j,b1,b2,b3,by omega,by show U.length<_;omega,fun s hs=>by have:=Us s hs;omega⟩
  rw[if_neg h2']at ka
  by_cases h3':x.m.kind=3
  · rw [if_pos h3'] at ka
    have nl6:x.m.names.length≤6:=by
     have:=c2
     unfold zU yc at this
     rw[if_neg h0,if_neg h1,if_neg h2',if_pos h3']at this
     simp only[uL,UH]at this
     exact this.2.1.2.2
    obtain⟨h7,ov,acc,ks,low,n7,f7,gO7,o1,m1,a6⟩:=PM (y:=y0) k3 nl6 gO6 (by rw[hy0])
    have s1:=o1.own.sc
    obtain⟨h',t1,t2,t3,t4⟩:=fin (y:={y0 with m:={y0.m with kind:=4},ve:=ov}) ka ks gO7 low n7 f7 (by rw[hy0];simp [vo,s1])
    have X':=xfin low t2
    have N':h.next≤h'.next:=by rw[t4];omega
    obtain⟨U,hU⟩:∃U,U=yQ (l.map (·.1)) x.m.names:=⟨_,rfl⟩
    rw[←hU]at t1 m1
    by_cases c:U=[]
    · rw[c]at t1
      refine none_fin (h7:=h6) _ ?_ t1 X' t3 N'
      unfold yG;rw[if_neg h0,if_neg h1,if_neg h2',if_pos h3',←hU,if_pos c];rfl
    · have U0:0<U.length:=U5.2 c
      rw[dt U0,if_pos rfl]at t1
      have ea:yG (l.map (·.1)) x.m=some ⟨4,x.m.dst,x.m.src,0,[],[],[],[],U⟩:=by unfold yG;rw[if_neg h0,if_neg h1,if_neg h2',if_pos h3',←hU,if_neg c]
      rw[ea]
      have Ul:U.length≤6:=by have:=U2 List.length m1;rw[UF]at this;omega
      have o1':WE h.next h' ov acc:=by
       refine⟨?_,fun i q=>by have:=o1.ge i q;omega,fun z hz=> ?_⟩
       · obtain⟨a,⟨b1,b2⟩|⟨j,b1,b2,b3,b4⟩⟩:=o1.own
         · exact⟨a,.inl ⟨b1,b2⟩⟩
         · have:=o1.ge j (by rw[b1];rfl)
           exact⟨a,.inr ⟨j,b1,t2 _ _ (by omega) b2,by omega,b4⟩⟩
       · obtain⟨d1,d2,j,d3,d4,d5,d6,d7⟩:=o1.el z hz
         exact⟨d1,d2,j,d3,t2 _ _ (by omega) d4,by omega,d6,by omega⟩
      have sz:∀z∈acc,z.1.name.size≤8∧z.1.packed.size≤300:=fun z hz=>by
       have:z.1∈U:=by rw[←m1];exact UR.2 ⟨z,hz,rfl⟩
       rw[hU]at this
       have mf:=(vZ (wq c1)).2.1 z.1 (I6 this)
       exact⟨(xi mf.1).2,yW mf.2.2⟩
      refine⟨⟨⟨4,x.m.dst,x.m.src,0,[],[],[],[],U⟩,.aQ,.aQ,.aQ,.aQ,ov,[],acc⟩,h', ?_,rfl,⟨⟨y6 _,y6 _,DR _,rfl,y6 _,o1'.own.rd,m1,fun z hz=> ?_,fun y hy=>(by cases hy),⟨rfl,rfl,rfl,rfl,s1⟩,by show(0:Nat)<_;omega,by show(0:Nat)<_;omega,by show(0:Nat)<_;omega,by show(0:Nat)<_;omega,by show U.length<_;omega,⟨fun s hs=>(by cases hs),fun s hs=>(by cases hs)⟩⟩,.e o1' (by show acc.length≤1000;omega) rfl rfl rfl rfl,X',t3,N'⟩⟩
      · rw[t1,hy0];rfl
      · obtain⟨d1,d2,j,d3,d4,d5,d6,d7⟩:=o1'.el z hz
        have:=sz z hz
        exact⟨⟨by rw[d3];exact Rd.obj d4 d2,by omega,by omega,by omega⟩,by rw[d3];rfl⟩
  rw[if_neg h3']at ka
  have gR5:=x5 _ _ gR4
  have st:tS h5 (h.next+2) 0 9 (vo vL) (some (vo vL))=some h5:=by rw[w8 (n:=9) (by omega) rfl rfl rfl,H.jJ gR5]
  refine none_fin (h7:=h6) (h':=h5) _ ?_ ?_ (fun i c q=>x5 _ _ (xh4 _ _ q)) f5 (by omega)
  · unfold yG;rw[if_neg h0,if_neg h1,if_neg h2',if_neg h3'];rfl
  · refine tw (fn:=AP.f240) (h2:=h5) (e:=[(4,.aE (h.next+2) 0),(5,.bool false),(6,.int .i64 0)]) (vs:=[.agg (vo vL),.bool false,.int .i64 0]) rfl rfl rfl ?_ (by simp only[AP.f240,cO,na,mO,lq,ne_eq,Nat.reduceEqDiff,not_false_eq_true,qC,gR5,sV];rfl)
    rw[hb _ ka]
    have z0:([.int .i64 0,.int .i64 0,.int .i64 0,.int .i64 0,.aQ,.aQ,.aQ,.aQ,.aQ]:List AV)=vo vL:=rfl
    have kW:fN 2 .eZ .eZ=some true:=rfl
    clear ox rd hv x3 x4 g4 xh4 ox4 b0 b1 b2 b3 x5 hy0 tX ka sd k3 fin xfin none_fin hb
    generalize vo vL=Z at *
    simp (disch:=omega)only[go_sem,vq,AP.f240,Cy,Cz,kW,z0,gR5,st]
def SW (l:List Int):AV:=DV 1 l.length (ints l)
def TT (l:List ByteArray):AV:=DV 1 l.length (xc l)
def yz (m:zh):wN:=⟨m,SW m.wE,SW m.wP,BK m.vB,TT m.names,J0 m.wx,m.vB.map Hl,m.wx.map P1⟩
theorem Cq (n k:Nat) (cs:List AV):(DV n k cs).sc=true:=by unfold DV;split<;>rfl
structure P6 (m:zh):Prop where
 d:m.wE.length<1000
 b:m.wP.length<1000
 f:m.vB.length<1000
 n:m.names.length<1000
 e:m.wx.length<1000
 nz:∀s∈m.names,s.size<1000
 fz:∀b∈m.vB,b.1.size<1000∧b.2.length<1000
 ez:∀e∈m.wx,e.name.size<1000∧e.packed.size<1000∧e.vec.length<1000
theorem Au (h:H) {m:zh} (s:P6 m):AG h (yz m):=by
 have rdi:∀l:List Int,Rd h (SW l) (ints l):=fun l=>by
  have:=DQ (n:=1) (k:=l.length) (h:=h) (cs:=ints l) (by rw[pC];omega)
  exact⟨by rw[pC];exact this.1,this.2.2⟩
 have d:=s.d
 have b:=s.b
 have f:=s.f
 have n:=s.n
 have e:=s.e
 refine⟨rdi _,rdi _,HZ h fun b hb=>by have:=(s.fz b hb).2;omega,(by show(m.vB.map Hl).map (·.1)=_;rw[U6];exact List.map_id _), ?_,J1 h _,(by show(m.wx.map P1).map (·.1)=_;rw[U6];exact List.map_id _),fun y hy=> ?_,fun y hy=> ?_,⟨Cq _ _ _,Cq _ _ _,Cq _ _ _,Cq _ _ _,J2 _⟩,by show m.wE.length<_;omega,by show m.wP.length<_;omega,by show m.vB.length<_;omega,by show m.names.length<_;omega,by show m.wx.length<_;omega,⟨fun t ht=>by have:=s.nz t ht;omega,fun t ht=>by have:=(s.fz t ht).1;omega⟩⟩
 · have:=DQ (n:=1) (k:=m.names.length) (h:=h) (cs:=xc m.names) (by rw[wH];omega)
   exact⟨by rw[wH];exact this.1,this.2.2⟩
 · obtain⟨x,hx,rfl⟩:=UR.1 hy
   have:=s.ez x hx
   exact⟨⟨xM h x.vec,by show x.vec.length<_;omega,by show x.name.size<_;omega,by show x.packed.size<_;omega⟩,rfl⟩
 · obtain⟨x,hx,rfl⟩:=UR.1 hy
   rfl
theorem PJ:P6 yh:=⟨by decide,by decide,by decide,by decide,by decide,fun s h=>(by cases h),fun s h=>(by cases h),fun s h=>(by cases h)⟩
def yf (L:List vN) (f t:Int):zh×Int:=if v9 L=true∧(wL f=true∧wL t=true∧f≠t)then(⟨0,f,t,wQ (wo L),[],[],[],[],[]⟩,0)else(yh,2200)
theorem Gj (L:List vN) (f t:Int):P6 (yf L f t).1:=by
 unfold yf
 split
 · exact⟨by show(0:Nat)<_;omega,by show(0:Nat)<_;omega,by show(0:Nat)<_;omega,by show(0:Nat)<_;omega,by show(0:Nat)<_;omega,fun s h=>(by cases h),fun s h=>(by cases h),fun s h=>(by cases h)⟩
 · exact PJ
theorem PA (L:List vN) (f t:Int):vo (yz (yf L f t).1)=[.int .i64 (yf L f t).1.kind,.int .i64 (yf L f t).1.src,.int .i64 (yf L f t).1.dst,.int .i64 (yf L f t).1.root,.aQ,.aQ,.aQ,.aQ,.aQ]:=by
 unfold yf
 split<;>rfl
theorem Gk (h : H) (v : AV) (l : List vG) (sv : v.sc = true) (hn : l.length < 1125899906842624) (rd : xb 9 h v l.length (vD l)) (hv : ∀ x ∈ l, xe h x ∧ x.2.sc = true) (f t : Int) :
 aS AP.A 238 [.agg [v],.int .i64 f,.int .i64 t] h=some (.bS [.agg (vo (yz (yf (l.map (·.1)) f t).1)),.int .i64 (yf (l.map (·.1)) f t).2],h):=by
 obtain⟨h1,eh1⟩:∃g,g=h.eh.alloc [v]:=⟨_,rfl⟩
 obtain⟨h2,eh2⟩:∃g,g=h1.alloc (vo vL):=⟨_,rfl⟩
 have n0:h.eh.next=h.next:=rfl
 have n1:h1.next=h.next+1:=by rw[eh1];simp
 have n2:h2.next=h.next+2:=by rw[eh2];simp [n1]
 have f2:h2.floor=h.next:=by rw[eh2,eh1];simp
 have x2:Ext h h2:=fun i c q=>by rw[eh2,eh1];exact(((Ext.refl h.eh).alloc _).alloc _) i c q
 have g1:h2.get h.next=some [v]:=by rw[eh2,vO (by omega),eh1];exact vu rfl
 have gR:h2.get (h.next+1)=some (vo vL):=by rw[eh2,vu (by omega)]
 have z2:h1.alloc (vo vL)=h2:=eh2.symm
 have cz:AV.aD (vo vL)=true:=rfl
 have rd2:=rd.mono fun i c q=>x2 i c q
 have hv2:∀x∈l,xe h2 x∧x.2.sc=true:=fun x hx=>⟨(hv x hx).1.mono x2,(hv x hx).2⟩
 have fin:∀(h3:H) (m:zh) (e:Int),(∀g:Nat→Option (List AV),(fP (snap g h.next 14 true) (vo (yz m)))=some (vo (yz m)))→h3.get (h.next+1)=some (vo (yz m))→aM (aS AP.A) bD AP.f238.body (params 0 [.agg [v],.int .i64 f,.int .i64 t]) h.eh=some (.ret,[(6,.aE (h.next+1) 0),(7,.int .i64 e)],h3)→
  aS AP.A 238 [.agg [v],.int .i64 f,.int .i64 t] h=some (.bS [.agg (vo (yz m)),.int .i64 e],h):=fun h3 m e hs hg hb=>by
  refine tQ (fn:=AP.f238) (h2:=h3) (e:=[(6,.aE (h.next+1) 0),(7,.int .i64 e)]) (vs:=[.agg (vo (yz m)),.int .i64 e]) rfl rfl rfl hb (by simp only[AP.f238,cO,na,mO,lq,ne_eq,Nat.reduceEqDiff,not_false_eq_true,qC,hg,sV];rfl) ?_
  show(fP (snap h3.get h.next 15 true) [.agg (vo (yz m)),.int .i64 e]).bind _=_
  have s1:snap h3.get h.next 15 true (.agg (vo (yz m)))=some (.agg (vo (yz m))):=by
   show(fP (snap h3.get h.next 14 true) (vo (yz m))).bind _=_
   rw[hs];rfl
  simp only[fP,s1];rfl
 have sn:∀(a b c d:Int) (g:Nat→Option (List AV)),fP (snap g h.next 14 true) [.int .i64 a,.int .i64 b,.int .i64 c,.int .i64 d,.aQ,.aQ,.aQ,.aQ,.aQ]=some [.int .i64 a,.int .i64 b,.int .i64 c,.int .i64 d,.aQ,.aQ,.aQ,.aQ,.aQ]:=fun a b c d g=>rfl
 have eC:=PA (l.map (·.1)) f t
 refine(fun q:∃h3,h3.get (h.next+1)=some (vo (yz (yf (l.map (·.1)) f t).1))∧aM (aS AP.A) bD AP.f238.body (params 0 [.agg [v],.int .i64 f,.int .i64 t]) h.eh=some (.ret,[(6,.aE (h.next+1) 0),(7,.int .i64 (yf (l.map (·.1)) f t).2)],h3)=>q.elim fun h3 q=>fin h3 _ _ (fun g=>by rw[eC];exact sn _ _ _ _ g) q.1 q.2) ?_
 clear fin sn
 have stz:∀{h3:H},h3.floor=h.next→h3.get (h.next+1)=some (vo vL)→tS h3 (h.next+1) 0 9 (vo vL) (some (vo vL))=some h3:=fun hf hg=>by rw[w8 (n:=9) (by omega) rfl rfl rfl,H.jJ hg]
 have z0:([.int .i64 0,.int .i64 0,.int .i64 0,.int .i64 0,.aQ,.aQ,.aQ,.aQ,.aQ]:List AV)=vo vL:=rfl
 by_cases hm:v9 (l.map (·.1))=true
 · obtain⟨i,h3,k1,gi,x3,f3,n3,_⟩:=Nh h2 (by omega) v l sv hn rd2 hv2 hm
   have gR3:=x3 _ _ gR
   have q1:=Cc h3 f
   have q2:=Cc h3 t
   have st:=stz (h3:=h3) (by omega) gR3
   by_cases c:wL f=true∧wL t=true∧f≠t
   · have eo:yf (l.map (·.1)) f t=(⟨0,f,t,wQ (wo (l.map (·.1))),[],[],[],[],[]⟩,0):=by unfold yf;rw[if_pos ⟨hm,c⟩]
     rw[eo]
     obtain⟨c1,c2,c3⟩:=c
     rw[c1]at q1
     rw[c2]at q2
     have k2:=I8 h3 (.aF i 0 8 1) (wo (l.map (·.1))) (Rd.obj gi (vR _)) (by rw[vR];omega)
     unfold Gv at k2
     rw[Er,vR,dt rfl,UW,if_pos rfl]at k2
     obtain⟨Y,hY⟩:∃Y,Y=vo (yz ⟨0,f,t,wQ (wo (l.map (·.1))),[],[],[],[],[]⟩):=⟨_,rfl⟩
     rw[←hY]
     have fy:ei (vo vL) [(0,1,.int .i64 0),(1,1,.int .i64 f),(2,1,.int .i64 t),(3,1,.int .i64 (wQ (wo (l.map (·.1)))))]=some Y:=by rw[hY];rfl
     have st2:tS h3 (h.next+1) 0 9 Y (some (vo vL))=some (h3.set (h.next+1) Y):=w8 (by omega) (by rw[hY];rfl) rfl (by rw[hY];rfl)
     refine⟨h3.set (h.next+1) Y,by rw[vH rfl,gR3];rfl, ?_⟩
     clear rd rd2 hv hv2 x2 x3 hY eC eo
     generalize wQ (wo (l.map (·.1)))=R at *
     generalize vo vL=Z at *
     simp (disch:=omega)only[go_sem,zI,Du,wM,Dt,pS,ru,Bool.and_true,UQ,UW,dt,df,KU,Py,Nk,UD,UE,uP,UZ,UL,U1,AP.f238,sv,n0,←eh1,n1,cz,z2,g1,wS,k1,q1,q2,k2,fy,gR3,st2,z0]
   · have eo:yf (l.map (·.1)) f t=(yh,2200):=by unfold yf;rw[if_neg (fun q=>c q.2)]
     rw[eo]
     refine⟨h3,gR3, ?_⟩
     clear rd rd2 hv hv2 x2 x3 eC eo stz
     have cc:wL f=false∨wL f=true∧wL t=false∨wL f=true∧wL t=true∧f=t:=by
      cases a:wL f<;>cases b:wL t<;>simp_all
     generalize vo vL=Z at *
     rcases cc with c1|⟨c1,c2⟩|⟨c1,c2,c3⟩
     · rw[c1]at q1
       simp (disch:=omega)only[go_sem,vq,AP.f238,sv,n0,←eh1,n1,cz,z2,g1,wS,k1,q1,q2,gR3,z0,st]
     · rw[c1]at q1
       rw[c2]at q2
       simp (disch:=omega)only[go_sem,vq,AP.f238,sv,n0,←eh1,n1,cz,z2,g1,wS,k1,q1,q2,gR3,z0,st]
     · rw[c1]at q1
       rw[c2]at q2
       simp (disch:=omega)only[go_sem,vq,AP.f238,sv,n0,←eh1,n1,cz,z2,g1,wS,k1,q1,q2,gR3,z0,st]
 · have hm':v9 (l.map (·.1))=false:=by simpa using hm
   obtain⟨h3,k1,x3,f3,n3⟩:=Ng h2 (by omega) v l sv hn rd2 hv2 hm'
   have gR3:=x3 _ _ gR
   have st:=stz (h3:=h3) (by omega) gR3
   have eo:yf (l.map (·.1)) f t=(yh,2200):=by unfold yf;rw[if_neg (fun q=>hm q.1)]
   rw[eo]
   refine⟨h3,gR3, ?_⟩
   clear rd rd2 hv hv2 x2 x3 eC eo stz
   generalize vo vL=Z at *
   simp (disch:=omega)only[go_sem,vq,AP.f238,sv,n0,←eh1,n1,cz,z2,g1,wS,k1,gR3,z0,st]
structure Dk (B G:H) (P M O:Nat) (v:AV) (l:List vG) (x:wN):Prop where
 rd:xb 9 B v l.length (vD l)
 ok:∀z∈l,xe B z∧z.2.sc=true
 fo:v9 (l.map (·.1))=true
 ox:AG B x
 gP:G.get P=some [v]
 gM:G.get M=some (vo x)
 ne:P≠O∧M≠O
 S7:Ext B G
 BO:B.next≤O
 ON:O<G.next
 fO:G.floor≤O
 fG:G.floor≤G.next
theorem Dk.ext {B G h:H} {P M O:Nat} {v:AV} {l:List vG} {x:wN} (k:Dk B G P M O v l x) (low:∀i c,i≠O→G.get i=some c→h.get i=some c):Ext B h:=fun i c q=>by
 have:=B.lt _ _ q
 have:=k.BO
 exact low i c (by omega) (k.S7 i c q)
theorem FK (h:H) (name text:ByteArray) (node:Nat) (vQ:Int) (hn:node<4) (ht:text.size<1125899906842624):
 aS AP.A 246 [.str name,.int .i64 node,.int .i64 vQ,.str text] h=some (.agg (vw (Af name node vQ text) (A9 ([0,0,0,0].set node vQ))),h):=by
 obtain⟨h1,eh1⟩:∃g,g=h.eh.alloc (vw Et .aQ):=⟨_,rfl⟩
 obtain⟨h2,eh2⟩:∃g,g=h1.alloc (ints [0,0,0,0]):=⟨_,rfl⟩
 obtain⟨h3,eh3⟩:∃g,g=h2.set (h.next+1) (ints ([0,0,0,0].set node vQ)):=⟨_,rfl⟩
 obtain⟨h4,eh4⟩:∃g,g=h3.set h.next (vw (Af name node vQ text) (.aF (h.next+1) 0 4 1)):=⟨_,rfl⟩
 have n0:h.eh.next=h.next:=rfl
 have n1:h1.next=h.next+1:=by rw[eh1];simp
 have f2:h2.floor=h.next:=by rw[eh2,eh1];simp
 have f3:h3.floor=h.next:=by rw[eh3];simp [f2]
 have g2:h2.get (h.next+1)=some (ints [0,0,0,0]):=by rw[eh2,vu (by omega)]
 have gz3:h3.get h.next=some (vw Et .aQ):=by rw[eh3,vA (by omega),eh2,vO (by omega),eh1,vu (by simp)]
 have g3:h3.get (h.next+1)=some (ints ([0,0,0,0].set node vQ)):=by rw[eh3,vH rfl,g2];rfl
 have g4:h4.get h.next=some (vw (Af name node vQ text) (.aF (h.next+1) 0 4 1)):=by rw[eh4,vH rfl,gz3];rfl
 have g4':h4.get (h.next+1)=some (ints ([0,0,0,0].set node vQ)):=by rw[eh4,vA (by omega),g3]
 have st3:tS h2 (h.next+1) node 1 [.int .i64 vQ] (some (ints [0,0,0,0]))=some h3:=by
  rw[uk (by omega) (by simp;omega) rfl,eh3]
  congr 2
  match node,hn with
  |0,_=>rfl
  |1,_=>rfl
  |2,_=>rfl
  |3,_=>rfl
 have st4:tS h3 h.next 0 9 [.str name,.bool false,.aF (h.next+1) 0 4 1,.int .i64 vQ,.int .i64 node,.int .i64 0,.str text,.int .i64 text.size,.int .i64 (xG text:Nat)] (some (vw Et .aQ))=some h4:=by
  rw[eh4];exact w8 (by omega) rfl rfl rfl
 have e1:h.eh.alloc [.str ⟨#[]⟩,.bool false,.aQ,.int .i64 0,.int .i64 0,.int .i64 0,.str ⟨#[]⟩,.int .i64 0,.int .i64 0]=h1:=eh1.symm
 have e2:h1.alloc (zW 4 [.int .i64 0])=h2:=eh2.symm
 have kc:=Fl h3 text ht
 have hlen:([0,0,0,0].set node vQ:List Int).length=4:=by simp
 have o:vT 1 h4 (.aF (h.next+1) 0 4 1) 4 (ints ([0,0,0,0].set node vQ)):=⟨by simp,.inr ⟨_,rfl,g4',by rw[eh4];simp;omega,by omega⟩⟩
 have s1:snap h4.get h.next 15 true (.aF (h.next+1) 0 4 1)=some (A9 ([0,0,0,0].set node vQ)):=by
  have:=o.yt (fl:=h.next) (m:=13) (t:=true) (by rw[eh4];simp;omega)
  rw[this];unfold A9;rw[hlen]
 have body:aM (aS AP.A) bD AP.f246.body (params 0 [.str name,.int .i64 node,.int .i64 vQ,.str text]) h.eh=some (.ret,[(8,.aE h.next 0)],h4):=by
  clear o s1 g4 g4' g3
  have it:((node:Nat):Int).toNat=node:=by omega
  simp (disch:=omega)only[go_sem,vq,AP.f246,n0,e1,n1,e2,it,g2,st3,kc,gz3,st4]
 refine tQ (fn:=AP.f246) (h2:=h4) (e:=[(8,.aE h.next 0)]) (vs:=[.agg (vw (Af name node vQ text) (.aF (h.next+1) 0 4 1))]) rfl rfl rfl body ?_ ?_
 · simp only[AP.f246,cO,na,mO,qC,g4,sV];rfl
 · exact Jh s1
def DI:List vN:=[eA]
def Pz:zh:=(yf DI 0 1).1
def Sl:zh:=(xx [] Pz).1
def Sn:zh:=(xx DI Sl).1
def Sy:zh:=(xx [] Sn).1
def SV:zh:=(xx DI Sy).1
theorem KY:(yf DI 0 1).2=0∧(yf DI 1 1).2=2200:=by decide+kernel
theorem IV:(xx [] Pz).2=(true,0)∧Sl.kind=1∧Sl.src=1:=by decide+kernel
theorem I0:(xx DI Sl).2=(true,0)∧Sn.kind=2∧Sn.vB.length=1:=by decide+kernel
theorem KZ:(xx [] Sn).2=(true,0)∧Sy.names=[nA]:=by decide+kernel
theorem K0:(xx DI Sy).2=(true,0)∧SV.wx=DI:=by decide+kernel
theorem Lg:(xx DI SV).2=(false,0)∧(xx DI Pz).2=(false,0):=by decide+kernel
theorem yj (G:H) (hf:G.floor≤G.next) (v:AV) (l:List vG) (sv:v.sc=true) (hn:l.length<1125899906842624) (rd:xb 9 G v l.length (vD l)) (hv:∀x∈l,xe G x∧x.2.sc=true) (x:wN) (ox:AG G x):
 ∃(y:wN) (h' A G':H) (O:Nat),aS AP.A 240 [.agg [v],.agg (vo x)] G=some (.bS [.agg (vo y),.bool (xx (l.map (·.1)) x.m).2.1,.int .i64 (xx (l.map (·.1)) x.m).2.2],h')∧y.m=(xx (l.map (·.1)) x.m).1∧h'.alloc (vo vL)=A∧h'.next=O∧A.get O=some (vo vL)∧tS A O 0 9 (vo y) (some (vo vL))=some G'∧G'.get O=some (vo y)∧Ext G G'∧AG G' y∧G'.floor=G.floor∧G.next≤O∧O<G'.next:=by
 obtain⟨y,h',k,em,a⟩:=Qa G hf v l sv hn rd hv x ox
 have lt:=a.nx
 have ga:(h'.alloc (vo vL)).get h'.next=some (vo vL):=vu rfl
 have e1:Ext h' ((h'.alloc (vo vL)).set h'.next (vo y)):=fun i c q=>by have:=h'.lt _ _ q;rw[vA (by omega),vO (by omega)];exact q
 refine⟨y,h',_,(h'.alloc (vo vL)).set h'.next (vo y),h'.next,k,em,rfl,rfl,ga,w8 (by simp;have:=a.fl;omega) rfl rfl (y5 a.ok),by rw[vH rfl,ga];rfl,fun i c q=>e1 _ _ (a.ext _ _ q),a.ok.mono e1,by simp [a.fl],lt,by simp⟩
theorem EJ (G:H) (hf:G.floor≤G.next) (m:zh) (s:P6 m):∃(A G':H) (O:Nat),G.alloc (vo vL)=A∧G.next=O∧A.get O=some (vo vL)∧tS A O 0 9 (vo (yz m)) (some (vo vL))=some G'∧G'.get O=some (vo (yz m))∧Ext G G'∧G'.floor=G.floor∧O<G'.next:=by
 have ga:(G.alloc (vo vL)).get G.next=some (vo vL):=vu rfl
 have e1:Ext G ((G.alloc (vo vL)).set G.next (vo (yz m))):=fun i c q=>by have:=G.lt _ _ q;rw[vA (by omega),vO (by omega)];exact q
 exact⟨_,(G.alloc (vo vL)).set G.next (vo (yz m)),G.next,rfl,rfl,ga,w8 (by simp;omega) rfl rfl (y5 (Au G s)),by rw[vH rfl,ga];rfl,e1,by simp,by simp⟩
theorem Jq (a b:ByteArray):br .neq (.str a) (.str b)=some (.bool (!decide (a=b))):=by
 rw[AD]
 by_cases c:a=b
 · subst c;simp
 · rw[DX c,df c]
theorem GF {v w : AV} {a b : List ByteArray} (hab : a.length = b.length) (hl : a.length < 1125899906842624) (h : H) (ra : Rd h v (xc a)) (rb : Rd h w (xc b)) : ∀ (q r p p' : List ByteArray), a = p ++ q → b = p' ++ r → p.length = p'.length →
 (∃e',Lp AP.A [0,1,5] AP.f247L0 [(0,v),(1,w),(5,.int .i64 p.length)] h=some (.exit 0,e',h)∧q=r)∨
 (∃e',Lp AP.A [0,1,5] AP.f247L0 [(0,v),(1,w),(5,.int .i64 p.length)] h=some (.ret,e',h)∧look e' 4=.bool false∧q≠r)
 | [], r, p, p', hp, hp', hpp => by
   rw[UI]at hp;subst hp
   have hr:r=[]:=UO (by rw[hp',vg]at hab;omega)
   have ln:=ra.Ck.len
   rw[wH]at ln
   refine .inl ⟨[(0,v),(1,w),(5,.int .i64 a.length),(14,.bool false)],tc ?_,hr.symm⟩
   simp (disch:=omega)only[go_sem,vq,AP.f247L0,ln]
 | x :: q, [], p, p', hp, hp', hpp => by
   rw[hp,hp']at hab;simp at hab;omega
 | x :: q, y :: r, p, p', hp, hp', hpp => by
   have hlen:a.length=p.length+(q.length+1):=by rw[hp];simp
   have ln:=ra.Ck.len
   rw[wH]at ln
   obtain⟨ad,a1,_,a3⟩:=ra.BA
   obtain⟨bd,b1,_,b3⟩:=rb.BA
   have i1:=a1 p.length ⟨by omega,by omega⟩
   have i2:=a3 h (Ext.refl h) p.length x (by rw[hp];simp)
   have j1:=b1 p.length ⟨by omega,by omega⟩
   have j2:=b3 h (Ext.refl h) p.length y (by rw[hp',hpp];simp)
   have cmp:=Jq x y
   have ih:=GF hab hl h ra rb q r (p++[x]) (p'++[y]) (by rw[hp];simp) (by rw[hp'];simp) (by simp [hpp])
   have w1:(((p++[x]).length:Nat):Int)=(p.length:Int)+1:=by simp
   rw[w1]at ih
   by_cases c:x=y
   · rw[dt c]at cmp
     have step:aM (aS AP.A) bD AP.f247L0 (ay [(0,v),(1,w),(5,.int .i64 p.length)] [0,1,5]) h=some (.normal,[(0,v),(1,w),(5,.int .i64 ((p.length:Int)+1))],h):=by
      clear ih ra rb a1 a3 b1 b3 hp hp'
      simp (disch:=omega)only[go_sem,vq,AP.f247L0,ln,i1,i2,j1,j2,cmp,Bool.not_true]
     rcases ih with ⟨e',r1,r2⟩|⟨e',r1,r2,r3⟩
     · exact .inl ⟨e',td step r1,by rw[c,r2]⟩
     · exact .inr ⟨e',td step r1,r2,fun q=>r3 (List.cons.inj q).2⟩
   · rw[df c]at cmp
     refine .inr ⟨[(4,.bool false)],tF ?_,rfl,fun q=>c (List.cons.inj q).1⟩
     clear ih ra rb a1 a3 b1 b3 hp hp'
     simp (disch:=omega)only[go_sem,vq,AP.f247L0,ln,i1,i2,j1,j2,cmp,Bool.not_false]
theorem Bx (h:H) (v w:AV) (a b:List ByteArray) (ra:Rd h v (xc a)) (rb:Rd h w (xc b)) (hl:a.length<1125899906842624) (hb:b.length<1125899906842624):aS AP.A 247 [v,w] h=some (.bool (decide (a=b)),h):=by
 have la:=ra.Ck.len
 rw[wH]at la
 have lb:=rb.Ck.len
 rw[wH]at lb
 have ra':Rd h.eh v (xc a):=ra.mono fun i c q=>q
 have rb':Rd h.eh w (xc b):=rb.mono fun i c q=>q
 by_cases c:a.length=b.length
 · rcases GF c hl h.eh ra' rb' a b [] [] rfl rfl rfl with ⟨e',r1,r2⟩|⟨e',r1,r2,r3⟩
   · have r1':Lp AP.A [0,1,5] AP.f247L0 [(0,v),(1,w),(5,.int .i64 0)] h.eh=some (.exit 0,e',h.eh):=r1
     rw[dt r2]
     refine tQ (fn:=AP.f247) (h2:=h.eh) (e:=[(4,.bool true)]) rfl rfl rfl ?_ rfl rfl
     clear ra rb ra' rb' r1 r2
     simp (disch:=omega)only[go_sem,vq,AP.f247,la,lb,c,rV,r1']
   · have r1':Lp AP.A [0,1,5] AP.f247L0 [(0,v),(1,w),(5,.int .i64 0)] h.eh=some (.ret,e',h.eh):=r1
     rw[df r3]
     refine tQ (fn:=AP.f247) (h2:=h.eh) (e:=e') (vs:=[.bool false]) rfl rfl rfl ?_ (by simp only[AP.f247,cO,na,r2];rfl) rfl
     clear ra rb ra' rb' r1 r3
     simp (disch:=omega)only[go_sem,vq,AP.f247,la,lb,c,rV,r1']
 · rw[df (fun q=>c (by rw[q]))]
   refine tQ (fn:=AP.f247) (h2:=h.eh) (e:=[(4,.bool false)]) rfl rfl rfl ?_ rfl rfl
   clear ra rb ra' rb'
   simp (disch:=omega)only[go_sem,vq,AP.f247,la,lb]
def Dh (a b:zh):Bool:=decide (a.kind=b.kind)&&(decide (a.src=b.src)&&(decide (a.dst=b.dst)&&(decide (a.root=b.root)&&(decide (a.wE=b.wE)&&(decide (a.wP=b.wP)&&(decide (a.vB=b.vB)&&(decide (a.names=b.names)&&decide (a.wx=b.wx))))))))
theorem Hy {a b:zh}:Dh a b=true↔a=b:=by
 cases a;cases b
 simp only[Dh,uL,UH,zh.mk.injEq]
theorem FJ (a:zh):Dh a a=true:=Hy.2 rfl
theorem PK (h : H) (x y : wN) (ox : AG h x) (oy : AG h y) : aS AP.A 232 [.agg (vo x), .agg (vo y)] h = some (.bool (Dh x.m y.m), h) := by
 obtain⟨h1,eh1⟩:∃g,g=h.eh.alloc (vo x):=⟨_,rfl⟩
 obtain⟨h2,eh2⟩:∃g,g=h1.alloc (vo y):=⟨_,rfl⟩
 have x2:Ext h h2:=fun i c q=>by rw[eh2,eh1];exact(((Ext.refl h.eh).alloc _).alloc _) i c q
 have n0:h.eh.next=h.next:=rfl
 have n1:h1.next=h.next+1:=by rw[eh1];simp
 have g1:h2.get h.next=some (vo x):=by rw[eh2,vO (by omega),eh1];exact vu rfl
 have g2:h2.get (h.next+1)=some (vo y):=by rw[eh2,vu (by omega)]
 have o1:=ox.mono x2
 have o2:=oy.mono x2
 have lx:(vo x).length=9:=rfl
 have ly:(vo y).length=9:=rfl
 have cx:=y5 ox
 have cy:=y5 oy
 have ex:x.fs.length=x.m.vB.length:=by rw[←ox.hf];simp
 have ee:x.es.length=x.m.wx.length:=by rw[←ox.he];simp
 have k1:=zR h2 _ _ _ _ o1.rd o2.rd (by have:=ox.zd;omega)
 have k2:=zR h2 _ _ _ _ o1.rb o2.rb (by have:=ox.zb;omega)
 have k3:=Kv h2 _ _ _ _ o1.rf o2.rf (by have:=ox.zf;omega)
 rw[ox.hf,oy.hf]at k3
 have k4:=Bx h2 _ _ _ _ o1.rn o2.rn (by have:=ox.zn;omega) (by have:=oy.zn;omega)
 have k5:=EV h2 _ _ _ _ (by have:=ox.ze;omega) o1.re o2.re o1.ve o2.ve
 rw[ox.he,oy.he]at k5
 refine tQ (fn:=AP.f232) (h2:=h2) (e:=[(4,.bool (Dh x.m y.m))]) rfl rfl rfl ?_ rfl rfl
 unfold Dh
 have a0:(vo x)[0]?=some (.int .i64 x.m.kind):=rfl
 have a1:(vo x)[1]?=some (.int .i64 x.m.src):=rfl
 have a2:(vo x)[2]?=some (.int .i64 x.m.dst):=rfl
 have a3:(vo x)[3]?=some (.int .i64 x.m.root):=rfl
 have a4:(vo x)[4]?=some x.vd:=rfl
 have a5:(vo x)[5]?=some x.vb:=rfl
 have a6:(vo x)[6]?=some x.vf:=rfl
 have a7:(vo x)[7]?=some x.vn:=rfl
 have a8:(vo x)[8]?=some x.ve:=rfl
 have b0:(vo y)[0]?=some (.int .i64 y.m.kind):=rfl
 have b1:(vo y)[1]?=some (.int .i64 y.m.src):=rfl
 have b2:(vo y)[2]?=some (.int .i64 y.m.dst):=rfl
 have b3:(vo y)[3]?=some (.int .i64 y.m.root):=rfl
 have b4:(vo y)[4]?=some y.vd:=rfl
 have b5:(vo y)[5]?=some y.vb:=rfl
 have b6:(vo y)[6]?=some y.vf:=rfl
 have b7:(vo y)[7]?=some y.vn:=rfl
 have b8:(vo y)[8]?=some y.ve:=rfl
 clear ox oy o1 o2 x2 ex ee
 generalize decide (x.m.wE=y.m.wE)=B1 at *
 generalize decide (x.m.wP=y.m.wP)=B2 at *
 generalize decide (x.m.vB=y.m.vB)=B3 at *
 generalize decide (x.m.names=y.m.names)=B4 at *
 generalize decide (x.m.wx=y.m.wx)=B5 at *
 generalize vo x=A at *
 generalize vo y=B at *
 by_cases c0:x.m.kind=y.m.kind
 · by_cases c1 : x.m.src = y.m.src
   · by_cases c2:x.m.dst=y.m.dst
     · by_cases c3:x.m.root=y.m.root
       · cases B1 with
         |false=>simp (disch:=omega)only[go_sem,vq,AP.f232,lx,ly,cx,cy,n0,←eh1,n1,←eh2,g1,g2,a0,a1,a2,a3,a4,b0,b1,b2,b3,b4,k1]
         | true =>
           cases B2 with
           |false=>simp (disch:=omega)only[go_sem,vq,AP.f232,lx,ly,cx,cy,n0,←eh1,n1,←eh2,g1,g2,a0,a1,a2,a3,a4,a5,b0,b1,b2,b3,b4,b5,k1,k2]
           | true =>
             cases B3 with
             |false=>simp (disch:=omega)only[go_sem,vq,AP.f232,lx,ly,cx,cy,n0,←eh1,n1,←eh2,g1,g2,a0,a1,a2,a3,a4,a5,a6,b0,b1,b2,b3,b4,b5,b6,k1,k2,k3]
             | true =>
               cases B4<;>cases B5<;>simp (disch:=omega)only[go_sem,vq,AP.f232,lx,ly,cx,cy,n0,←eh1,n1,←eh2,g1,g2,a0,a1,a2,a3,a4,a5,a6,a7,a8,b0,b1,b2,b3,b4,b5,b6,b7,b8,k1,k2,k3,k4,k5]
       · simp (disch:=omega)only[go_sem,vq,AP.f232,lx,ly,cx,cy,n0,←eh1,n1,←eh2,g1,g2,a0,a1,a2,a3,b0,b1,b2,b3]
     · simp (disch:=omega)only[go_sem,vq,AP.f232,lx,ly,cx,cy,n0,←eh1,n1,←eh2,g1,g2,a0,a1,a2,b0,b1,b2]
   · simp (disch:=omega)only[go_sem,vq,AP.f232,lx,ly,cx,cy,n0,←eh1,n1,←eh2,g1,g2,a0,a1,b0,b1]
 · simp (disch:=omega)only[go_sem,vq,AP.f232,lx,ly,cx,cy,n0,←eh1,n1,←eh2,g1,g2,a0,b0]
theorem GZ:AP.f242.body=.seq (at_ 0 AP.f242.body) (.seq (at_ 1 AP.f242.body) (.seq (at_ 2 AP.f242.body) (.seq (at_ 3 AP.f242.body) (.seq (at_ 4 AP.f242.body) (.seq (at_ 5 AP.f242.body) (.seq (at_ 6 AP.f242.body) (.seq (at_ 7 AP.f242.body) (.seq (at_ 8 AP.f242.body) (.seq (at_ 9 AP.f242.body) (FN 10 AP.f242.body)))))))))):=rfl
def pA:vG:=(eA,A9 [1,0,0,0])
theorem Cg (g:H):∀x∈[pA],xe g x∧x.2.sc=true:=fun x hx=>by obtain rfl:=List.mem_singleton.1 hx;exact⟨xe.ar (e:=eA) rfl (by decide) (by decide),GK [1,0,0,0]⟩
theorem Sm {g:H} {n:Nat} (hg:g.get n=some (vw eA (A9 [1,0,0,0]))):xb 9 g (.aF n 0 1 9) [pA].length (vD [pA]):=PB hg rfl
theorem Hw:[pA].map (·.1)=DI:=rfl
set_option maxHeartbeats 8000000 in
theorem G0 (h : H) : aS AP.A 242 [] h = some (.bool true, h) := by
 obtain⟨E,hE⟩:∃E,E=vw eA (A9 [1,0,0,0]):=⟨_,rfl⟩
 have lE:E.length=9:=by rw[hE];rfl
 have cE:AV.aD E=true:=by rw[hE];exact yH (GK _)
 have fE:setFrom Z9 0 E=E:=by rw[hE];rfl
 have k0:∀g,aS AP.A 246 [.str ⟨#[97]⟩,.int .i64 0,.int .i64 1,.str ⟨#[104,105]⟩] g=some (.agg E,g):=fun g=>by rw[hE];exact FK g nA Td 0 1 (by omega) (by decide)
 obtain⟨G,hG⟩:∃G,G=((h.eh.alloc E).alloc [.aQ]).set (h.next+1) [.aF h.next 0 1 9]:=⟨_,rfl⟩
 have g1:G.get h.next=some E:=by rw[hG];simp (disch:=first|omega|(simp only[ye,UD,UE,uP,Nat.reduceAdd];first|done|omega|fail)|fail)only[ye,D4,UG,UD,UE,uP,Nat.reduceAdd]
 have g2:G.get (h.next+1)=some [.aF h.next 0 1 9]:=by rw[hG];simp (disch:=first|omega|(simp only[ye,UD,UE,uP,Nat.reduceAdd];first|done|omega|fail)|fail)only[ye,D4,UG,UD,UE,uP,Nat.reduceAdd]
 have gf:G.floor=h.next:=by rw[hG];simp
 have gn:G.next=h.next+1+1:=by rw[hG];simp
 have b0:aM (aS AP.A) bD (.seq (at_ 0 AP.f242.body) (at_ 1 AP.f242.body)) (params 0 []) h.eh=some (.normal,[(1,.aE (h.next+1) 0)],G):=by
  have gg:=hG.symm
  clear hE
  simp (disch:=first|omega|(simp only[ye,UD,UE,uP,Nat.reduceAdd];first|done|omega|fail)|(simp (disch:=first|omega|(simp only[ye,UD,UE,uP,Nat.reduceAdd];first|done|omega|fail)|fail)only[ye,D4,UG,UD,UE,uP,Nat.reduceAdd];done)|fail)only[go_sem,vq,Fg,AP.f242,wI,wy,k0,lE,cE,fE,gg]
 have sv:(AV.aF h.next 0 1 9).sc=true:=rfl
 have lz:([pA].length:Nat)<1125899906842624:=by show 1<_;omega
 have lz0:(([]:List vG).length:Nat)<1125899906842624:=by show 0<_;omega
 have rdA:∀{g:H},g.get h.next=some E→xb 9 g (.aF h.next 0 1 9) [pA].length (vD [pA]):=fun hg=>Sm (by rw[←hE];exact hg)
 have rd0:∀g:H,xb 9 g .aQ ([]:List vG).length (vD []):=fun g=>⟨rfl,rfl,fun s q=>by cases q⟩
 have hv0:∀g:H,∀x∈([]:List vG),xe g x∧x.2.sc=true:=fun g x hx=>by cases hx
 have sO:=Gj DI 0 1
 have sO1:=Gj DI 1 1
 have z0:([.int .i64 0,.int .i64 0,.int .i64 0,.int .i64 0,.aQ,.aQ,.aQ,.aQ,.aQ]:List AV)=vo vL:=rfl
 have cz:AV.aD (vo vL)=true:=rfl
 have lx:∀x,(vo x).length=9:=fun x=>rfl
 have tX:∀x,List.take 9 (vo x)=vo x:=fun x=>rfl
 have k2:=Gk G _ [pA] sv lz (rdA g1) (Cg G) 0 1
 rw[Hw,KY.1]at k2
 obtain⟨A2,G2,O2,a2,n2,ga2,st2,go2,e2,f2,lt2⟩:=EJ G (by omega) _ sO
 obtain⟨Y2,hY2⟩:∃Y,Y=vo (yz (yf DI 0 1).1):=⟨_,rfl⟩
 rw[←hY2]at k2 st2 go2
 have cY2:AV.aD Y2=true:=by rw[hY2];exact y5 (Au G sO)
 have b2:aM (aS AP.A) bD (at_ 2 AP.f242.body) [(1,.aE (h.next+1) 0)] G=some (.normal,[(1,.aE (h.next+1) 0),(2,.aE O2 0),(3,.int .i64 0)],G2):=by
  clear sO sO1 hE k0 rdA rd0 hv0 e2
  generalize vo vL=Z at *
  simp (disch:=omega)only[go_sem,vq,AP.f242,wI,wy,g2,wS,k2,z0,cz,a2,n2,ga2,st2]
 have p1:=e2 _ _ g1
 have p2:=e2 _ _ g2
 obtain⟨y4,w4,A4,G4,O4,k4,m4,a4,n4,ga4,st4,go4,e4,ok4,f4,l4,l4'⟩:=yj G2 (by omega) .aQ [] rfl lz0 (rd0 _) (hv0 _) (yz (yf DI 0 1).1) (Au G2 sO)
 have m4':y4.m=Sl:=m4
 have k4':aS AP.A 240 [.agg [.aQ],.agg Y2] G2=some (.bS [.agg (vo y4),.bool (xx [] Pz).2.1,.int .i64 (xx [] Pz).2.2],w4):=by rw[hY2];exact k4
 rw[IV.1]at k4'
 have q2:=e4 _ _ go2
 have q1:=e4 _ _ p1
 have q1':=e4 _ _ p2
 have lY2:Y2.length=9:=by rw[hY2];rfl
 have tY2:List.take 9 Y2=Y2:=by rw[hY2];rfl
 have b3:aM (aS AP.A) bD (at_ 3 AP.f242.body) [(1,.aE (h.next+1) 0),(2,.aE O2 0),(3,.int .i64 0)] G2=some (.normal,[(1,.aE (h.next+1) 0),(2,.aE O2 0),(3,.int .i64 0),(4,.aE O4 0),(5,.bool true),(6,.int .i64 0)],G4):=by
  clear sO sO1 hE k0 rdA rd0 hv0 e2 e4 k4 ok4 m4 m4' lx tX hY2
  generalize vo vL=Z at *
  generalize vo y4=Y4 at *
  simp (disch:=omega)only[go_sem,vq,AP.f242,wI,wy,go2,FH,wM,lY2,tY2,UK,k4',z0,cz,a4,n4,ga4,st4]
 obtain⟨y7,w7,A7,G7,O7,k7,m7,a7,n7,ga7,st7,go7,e7,ok7,f7,l7,l7'⟩:=yj G4 (by omega) _ [pA] sv lz (rdA q1) (Cg _) y4 ok4
 rw[Hw,m4',I0.1]at k7
 have m7':y7.m=Sn:=by rw[m7,m4'];rfl
 have r1:=e7 _ _ q1
 have r1':=e7 _ _ q1'
 have r2:=e7 _ _ q2
 have r4:=e7 _ _ go4
 have lY4:=lx y4
 have tY4:=tX y4
 have b4:aM (aS AP.A) bD (at_ 4 AP.f242.body) [(1,.aE (h.next+1) 0),(2,.aE O2 0),(3,.int .i64 0),(4,.aE O4 0),(5,.bool true),(6,.int .i64 0)] G4=some (.normal,[(1,.aE (h.next+1) 0),(2,.aE O2 0),(3,.int .i64 0),(4,.aE O4 0),(5,.bool true),(6,.int .i64 0),(7,.aE O7 0),(8,.bool true),(9,.int .i64 0)],G7):=by
  clear sO sO1 hE k0 rdA rd0 hv0 e2 e4 e7 k4 ok4 ok7 m4 m4' m7 m7' lx tX hY2
  generalize vo vL=Z at *
  generalize vo y4=Y4 at *
  generalize vo y7=Y7 at *
  simp (disch:=omega)only[go_sem,vq,AP.f242,wI,wy,q1',wS,go4,FH,wM,lY4,tY4,UK,k7,z0,cz,a7,n7,ga7,st7]
 obtain⟨y10,w10,A10,G10,O10,k10,m10,a10,n10,ga10,st10,go10,e10,ok10,f10,l10,l10'⟩:=yj G7 (by omega) .aQ [] rfl lz0 (rd0 _) (hv0 _) y7 ok7
 have m10':y10.m=Sy:=by rw[m10,m7'];rfl
 rw[m7',U1,KZ.1]at k10
 have s1:=e10 _ _ r1
 have s1':=e10 _ _ r1'
 have s2:=e10 _ _ r2
 have s4:=e10 _ _ r4
 have s7:=e10 _ _ go7
 have lY7:=lx y7
 have tY7:=tX y7
 have b5:aM (aS AP.A) bD (at_ 5 AP.f242.body) [(1,.aE (h.next+1) 0),(2,.aE O2 0),(3,.int .i64 0),(4,.aE O4 0),(5,.bool true),(6,.int .i64 0),(7,.aE O7 0),(8,.bool true),(9,.int .i64 0)] G7=some (.normal,[(1,.aE (h.next+1) 0),(2,.aE O2 0),(3,.int .i64 0),(4,.aE O4 0),(5,.bool true),(6,.int .i64 0),(7,.aE O7 0),(8,.bool true),(9,.int .i64 0),(10,.aE O10 0),(11,.bool true),(12,.int .i64 0)],G10):=by
  clear sO sO1 hE k0 rdA rd0 hv0 e2 e4 e7 e10 k4 ok4 ok7 ok10 m4 m4' m7 m7' m10 m10' lx tX hY2
  generalize vo vL=Z at *
  generalize vo y7=Y7 at *
  generalize vo y10=Y10 at *
  simp (disch:=omega)only[go_sem,vq,AP.f242,wI,wy,go7,FH,wM,lY7,tY7,UK,k10,z0,cz,a10,n10,ga10,st10]
 obtain⟨y13,w13,A13,G13,O13,k13,m13,a13,n13,ga13,st13,go13,e13,ok13,f13,l13,l13'⟩:=yj G10 (by omega) _ [pA] sv lz (rdA s1) (Cg _) y10 ok10
 rw[Hw,m10',K0.1]at k13
 have m13':y13.m=SV:=by rw[m13,m10'];rfl
 have t1:=e13 _ _ s1
 have t1':=e13 _ _ s1'
 have t2:=e13 _ _ s2
 have t4:=e13 _ _ s4
 have t7:=e13 _ _ s7
 have t10:=e13 _ _ go10
 have lY10:=lx y10
 have tY10:=tX y10
 have b6:aM (aS AP.A) bD (at_ 6 AP.f242.body) [(1,.aE (h.next+1) 0),(2,.aE O2 0),(3,.int .i64 0),(4,.aE O4 0),(5,.bool true),(6,.int .i64 0),(7,.aE O7 0),(8,.bool true),(9,.int .i64 0),(10,.aE O10 0),(11,.bool true),(12,.int .i64 0)] G10=some (.normal,[(1,.aE (h.next+1) 0),(2,.aE O2 0),(3,.int .i64 0),(4,.aE O4 0),(5,.bool true),(6,.int .i64 0),(7,.aE O7 0),(8,.bool true),(9,.int .i64 0),(10,.aE O10 0),(11,.bool true),(12,.int .i64 0),(13,.aE O13 0),(14,.bool true),(15,.int .i64 0)],G13):=by
  clear sO sO1 hE k0 rdA rd0 hv0 e2 e4 e7 e10 e13 k4 ok4 ok7 ok10 ok13 m4 m4' m7 m7' m10 m10' m13 m13' lx tX hY2
  generalize vo vL=Z at *
  generalize vo y10=Y10 at *
  generalize vo y13=Y13 at *
  simp (disch:=omega)only[go_sem,vq,AP.f242,wI,wy,s1',wS,go10,FH,wM,lY10,tY10,UK,k13,z0,cz,a13,n13,ga13,st13]
 obtain⟨y16,w16,A16,G16,O16,k16,m16,a16,n16,ga16,st16,go16,e16,ok16,f16,l16,l16'⟩:=yj G13 (by omega) _ [pA] sv lz (rdA t1) (Cg _) y13 ok13
 rw[Hw,m13',Lg.1]at k16
 have u1:=e16 _ _ t1
 have u1':=e16 _ _ t1'
 have u2:=e16 _ _ t2
 have u4:=e16 _ _ t4
 have u7:=e16 _ _ t7
 have u10:=e16 _ _ t10
 have u13:=e16 _ _ go13
 have lY13:=lx y13
 have tY13:=tX y13
 have b7:aM (aS AP.A) bD (at_ 7 AP.f242.body) [(1,.aE (h.next+1) 0),(2,.aE O2 0),(3,.int .i64 0),(4,.aE O4 0),(5,.bool true),(6,.int .i64 0),(7,.aE O7 0),(8,.bool true),(9,.int .i64 0),(10,.aE O10 0),(11,.bool true),(12,.int .i64 0),(13,.aE O13 0),(14,.bool true),(15,.int .i64 0)] G13=some (.normal,[(1,.aE (h.next+1) 0),(2,.aE O2 0),(3,.int .i64 0),(4,.aE O4 0),(5,.bool true),(6,.int .i64 0),(7,.aE O7 0),(8,.bool true),(9,.int .i64 0),(10,.aE O10 0),(11,.bool true),(12,.int .i64 0),(13,.aE O13 0),(14,.bool true),(15,.int .i64 0),(17,.bool false),(18,.int .i64 0)],G16):=by
  clear sO sO1 hE k0 rdA rd0 hv0 e2 e4 e7 e10 e13 e16 k4 ok4 ok7 ok10 ok13 ok16 m4 m4' m7 m7' m10 m10' m13 m13' m16 lx tX hY2
  generalize vo vL=Z at *
  generalize vo y13=Y13 at *
  generalize vo y16=Y16 at *
  simp (disch:=omega)only[go_sem,vq,AP.f242,wI,wy,t1',wS,go13,FH,wM,lY13,tY13,UK,k16,z0,cz,a16,n16,ga16,st16]
 obtain⟨y19,w19,A19,G19,O19,k19,m19,a19,n19,ga19,st19,go19,e19,ok19,f19,l19,l19'⟩:=yj G16 (by omega) _ [pA] sv lz (rdA u1) (Cg _) (yz (yf DI 0 1).1) (Au G16 sO)
 have k19':aS AP.A 240 [.agg [.aF h.next 0 1 9],.agg Y2] G16=some (.bS [.agg (vo y19),.bool (xx DI Pz).2.1,.int .i64 (xx DI Pz).2.2],w19):=by rw[hY2];exact k19
 rw[Lg.2]at k19'
 have x1:=e19 _ _ u1
 have x1':=e19 _ _ u1'
 have x4:=e19 _ _ u4
 have x7:=e19 _ _ u7
 have x10:=e19 _ _ u10
 have x13:=e19 _ _ u13
 have b8:aM (aS AP.A) bD (at_ 8 AP.f242.body) [(1,.aE (h.next+1) 0),(2,.aE O2 0),(3,.int .i64 0),(4,.aE O4 0),(5,.bool true),(6,.int .i64 0),(7,.aE O7 0),(8,.bool true),(9,.int .i64 0),(10,.aE O10 0),(11,.bool true),(12,.int .i64 0),(13,.aE O13 0),(14,.bool true),(15,.int .i64 0),(17,.bool false),(18,.int .i64 0)] G16=some (.normal,[(1,.aE (h.next+1) 0),(3,.int .i64 0),(4,.aE O4 0),(5,.bool true),(6,.int .i64 0),(7,.aE O7 0),(8,.bool true),(9,.int .i64 0),(10,.aE O10 0),(11,.bool true),(12,.int .i64 0),(13,.aE O13 0),(14,.bool true),(15,.int .i64 0),(17,.bool false),(18,.int .i64 0),(20,.bool false),(21,.int .i64 0)],G19):=by
  clear sO sO1 hE k0 rdA rd0 hv0 e2 e4 e7 e10 e13 e16 e19 k4 ok4 ok7 ok10 ok13 ok16 ok19 m4 m4' m7 m7' m10 m10' m13 m13' m16 m19 lx tX hY2 k19
  generalize vo vL=Z at *
  generalize vo y19=Y19 at *
  simp (disch:=omega)only[go_sem,vq,AP.f242,wI,wy,u1',wS,u2,FH,wM,lY2,tY2,UK,k19',z0,cz,a19,n19,ga19,st19]
 have k22:=Gk G19 _ [pA] sv lz (rdA x1) (Cg G19) 1 1
 rw[Hw,KY.2]at k22
 obtain⟨A22,G22,O22,a22,n22,ga22,st22,go22,e22,f22,lt22⟩:=EJ G19 (by omega) _ sO1
 have v1:=e22 _ _ x1
 have v1':=e22 _ _ x1'
 have v4:=e22 _ _ x4
 have v7:=e22 _ _ x7
 have v10:=e22 _ _ x10
 have v13:=e22 _ _ x13
 have b9:aM (aS AP.A) bD (at_ 9 AP.f242.body) [(1,.aE (h.next+1) 0),(3,.int .i64 0),(4,.aE O4 0),(5,.bool true),(6,.int .i64 0),(7,.aE O7 0),(8,.bool true),(9,.int .i64 0),(10,.aE O10 0),(11,.bool true),(12,.int .i64 0),(13,.aE O13 0),(14,.bool true),(15,.int .i64 0),(17,.bool false),(18,.int .i64 0),(20,.bool false),(21,.int .i64 0)] G19=some (.normal,[(1,.aE (h.next+1) 0),(3,.int .i64 0),(4,.aE O4 0),(5,.bool true),(6,.int .i64 0),(7,.aE O7 0),(8,.bool true),(9,.int .i64 0),(10,.aE O10 0),(11,.bool true),(12,.int .i64 0),(13,.aE O13 0),(14,.bool true),(15,.int .i64 0),(17,.bool false),(18,.int .i64 0),(20,.bool false),(21,.int .i64 0),(23,.int .i64 2200)],G22):=by
  clear sO sO1 hE k0 rdA rd0 hv0 e2 e4 e7 e10 e13 e16 e19 e22 k4 ok4 ok7 ok10 ok13 ok16 ok19 m4 m4' m7 m7' m10 m10' m13 m13' m16 m19 lx tX hY2 k19
  generalize vo vL=Z at *
  generalize vo (yz (yf DI 1 1).1)=Y22 at *
  simp (disch:=omega)only[go_sem,vq,AP.f242,wI,wy,x1',wS,k22,z0,cz,a22,n22,ga22,st22]
 have E7:Ext G7 G22:=fun i c q=>e22 _ _ (e19 _ _ (e16 _ _ (e13 _ _ (e10 _ _ q))))
 have E10:Ext G10 G22:=fun i c q=>e22 _ _ (e19 _ _ (e16 _ _ (e13 _ _ q)))
 have E13:Ext G13 G22:=fun i c q=>e22 _ _ (e19 _ _ (e16 _ _ q))
 have ok7':=ok7.mono E7
 have ok10':=ok10.mono E10
 have ok13':=ok13.mono E13
 obtain⟨W,hW⟩:∃g,g=G22.alloc [.str ⟨#[97]⟩]:=⟨_,rfl⟩
 have hw:=hW.symm
 have gW:W.get G22.next=some [.str ⟨#[97]⟩]:=by rw[hW];exact vu rfl
 have xW:Ext G22 W:=by rw[hW];exact(Ext.refl G22).alloc _
 have w1:=xW _ _ v1
 have w1':=xW _ _ v1'
 have w13:=xW _ _ v13
 have kn:aS AP.A 247 [y10.vn,.aF G22.next 0 1 1] W=some (.bool true,W):=by
  have:=Bx W y10.vn (.aF G22.next 0 1 1) y10.m.names [nA] (ok10'.rn.mono fun i c q=>xW i c q) ⟨by simp only[aT,if_true,gW];rfl,fun _=>by simp⟩ (by have:=ok10.zn;omega) (by show 1<_;omega)
  rw[m10',dt KZ.2]at this;exact this
 have ke:aS AP.A 207 [y13.ve,.aF h.next 0 1 9] W=some (.bool true,W):=by
  have:=EV W y13.ve (.aF h.next 0 1 9) y13.es [pA] (by have:=ok13.ze;rw[←ok13.he,UF]at this;omega) (ok13'.re.mono fun i c q=>xW i c q) (rdA w1) (fun x hx=>(ok13'.mono xW).ve x hx) (Cg W)
  rw[ok13'.he,m13',Hw,dt K0.2]at this;exact this
 have c40:(vo y4)[0]?=some (.int .i64 1):=by show some (AV.int .i64 y4.m.kind)=_;rw[m4',IV.2.1]
 have c41:(vo y4)[1]?=some (.int .i64 1):=by show some (AV.int .i64 y4.m.src)=_;rw[m4',IV.2.2]
 have c70:(vo y7)[0]?=some (.int .i64 2):=by show some (AV.int .i64 y7.m.kind)=_;rw[m7',I0.2.1]
 have c76:(vo y7)[6]?=some y7.vf:=rfl
 have l76:ji false y7.vf=some (.int .i64 1):=by
  have:=ok7.rf.rd.len
  rw[show y7.fs.length=1 by have:=U2 List.length ok7.hf;rw[UF,m7',I0.2.2]at this;exact this]at this
  exact this
 have c107:(vo y10)[7]?=some y10.vn:=rfl
 have c138:(vo y13)[8]?=some y13.ve:=rfl
 have kc:=fun (g:H) n=>KX g n
 simp only[I]at kc
 have bF:∃hF,aM (aS AP.A) bD (FN 10 AP.f242.body) [(1,.aE (h.next+1) 0),(3,.int .i64 0),(4,.aE O4 0),(5,.bool true),(6,.int .i64 0),(7,.aE O7 0),(8,.bool true),(9,.int .i64 0),(10,.aE O10 0),(11,.bool true),(12,.int .i64 0),(13,.aE O13 0),(14,.bool true),(15,.int .i64 0),(17,.bool false),(18,.int .i64 0),(20,.bool false),(21,.int .i64 0),(23,.int .i64 2200)] G22=some (.ret,[(0,.bool true)],hF):=by
  clear sO sO1 hE k0 rdA rd0 hv0 e2 e4 e7 e10 e13 e16 e19 e22 k4 ok4 ok7 ok10 ok13 ok16 ok19 m4 m4' m7 m7' m10 m10' m13 m13' m16 m19 lx tX hY2 k19 E7 E10 E13 ok7' ok10' ok13' xW hW b0 b2 b3 b4 b5 b6 b7 b8 b9
  generalize vo vL=Z at *
  generalize vo y4=Y4 at *
  generalize vo y7=Y7 at *
  generalize vo y10=Y10 at *
  generalize vo y13=Y13 at *
  refine⟨?_, ?_⟩
  rotate_left
  simp (disch:=omega)only[go_sem,vq,AP.f242,Cy,Cz,v1',v4,v7,v10,v13,c40,c41,c70,c76,l76,c107,c138,kc,hw,gW,kn,ke,w1',w13]
  rfl
 obtain⟨hF,bF⟩:=bF
 rw[rI]at b0
 have hh:aM (aS AP.A) bD AP.f242.body (params 0 []) h.eh=some (.ret,[(0,.bool true)],hF):=by
  rw[GZ,rI]
  cases hq:aM (aS AP.A) bD (at_ 0 AP.f242.body) (params 0 []) h.eh with
  |none=>rw[hq]at b0;cases b0
  | some r =>
    obtain⟨ex,ev,hr⟩:=r
    cases ex with
    | normal =>
      rw[hq,sD]at b0
      rw[sD,rI,b0,sD,rI,b2,sD,rI,b3,sD,rI,b4,sD,rI,b5,sD,rI,b6,sD,rI,b7,sD,rI,b8,sD,rI,b9,sD]
      exact bF
    |exit i=>rw[hq]at b0;cases b0
    |ret=>rw[hq]at b0;cases b0
 exact tQ (fn:=AP.f242) (h2:=hF) (e:=[(0,.bool true)]) rfl rfl rfl hh rfl rfl
structure Uu (m:zh):Prop where
 zd:m.wE.length<20000000000000
 zb:m.wP.length<20000000000000
 zn:m.names.length<9000000000000
 zf:m.vB.length<3600000000000
 ze:m.wx.length<1353300000000
 wf:∀b∈m.vB,b.2.length<20000000000000
 we:∀e∈m.wx,e.vec.length<20000000000000
structure SF (h:H) (ov:AV) (x:xR):Prop where
 vec:Rd h x.2 (ints x.1.2)
 sc:x.2.sc=true
 id:∀j,x.2.id?=some j→j<h.next∧ov.id?≠some j
theorem SF.mono {h g:H} {ov ov':AV} {x:xR} (b:SF h ov x) (hn:h.next≤g.next) (hg:∀j,x.2.id?=some j→j<h.next→ov.id?≠some j→g.get j=h.get j) (ho:∀j,j<h.next→ov.id?≠some j→ov'.id?≠some j):SF g ov' x:=
 ⟨b.vec.Cb fun i q=>hg i q (b.id i q).1 (b.id i q).2,b.sc,fun j q=>⟨by have:=(b.id j q).1;omega,ho j (b.id j q).1 (b.id j q).2⟩⟩
def Sx (R:Nat) (g h:H):Prop:=∀i c,R<i→g.get i=some c→h.get i=some c
theorem Sx.trans {R:Nat} {a b c:H} (x:Sx R a b) (y:Sx R b c):Sx R a c:=fun i d h q=>y i d h (x i d h q)
theorem Iv (a:List UInt8):Op.bytesLess a a=false:=by
 have:=Aa a a
 rw[beq_self_eq_true a,Bool.or_true]at this;exact this
theorem Da:∀{L:List vN} {x:vN},wK (some x) L=true→∀e∈L,Op.bytesLess x.name.toList e.name.toList=true
 |[],_,_,e,h=>by cases h
 | y :: r, x, h, e, he => by
   rw[wK,uL,DA]at h
   simp only[uL]at h
   rcases u5.1 he with rfl|he
   · exact h.1.2.1
   · exact Ac h.1.2.1 (Da h.2 e he)
theorem Ae:∀{a b:List vN} {e:vN} {p:Option vN},wK p (a++e::b)=true→vJ e.name (a++e::b)=(a.length,true)
 | [], b, e, p, h => by
   show vJ e.name (e::b)=_
   rw[vJ,Iv,if_neg (by decide),beq_self_eq_true];rfl
 | x :: a, b, e, p, h => by
   have h2:wK (some x) (a++e::b)=true:=by
    have:wK p (x::(a++e::b))=true:=h
    rw[wK,uL]at this;exact this.2
   have lt:=Da h2 e (by simp)
   show vJ e.name (x::(a++e::b))=_
   rw[vJ,if_pos lt,Ae h2];rfl
theorem y9:∀{L:List vN} {p:Option vN},wK p L=true→wG (p.map (·.name)) (L.map (·.name))=true
 |[],none,_=>rfl
 |[],some _,_=>rfl
 | e :: r, none, h => by
   rw[wK,uL]at h
   have i:=y9 h.2
   have q:=h.1
   rw[Aq,uL]at q
   show((wz e.name&&true)&&wG (some e.name) (r.map (·.name)))=true
   have i':wG (some e.name) (r.map (·.name))=true:=i
   rw[i',q.1];rfl
 | e :: r, some x, h => by
   rw[wK,uL]at h
   have i:=y9 h.2
   have q:=h.1
   rw[DA,uL,uL]at q
   show((wz e.name&&Op.bytesLess x.name.toList e.name.toList)&&wG (some e.name) (r.map (·.name)))=true
   have i':wG (some e.name) (r.map (·.name))=true:=i
   rw[i',q.1,q.2.1];rfl
def yi:List Int:=[0,1,2,3,4,5,6,7]
theorem HM:∀n:Nat,n<8→yi.contains ((n:Nat):Int)=true:=by decide
theorem yI (L:List vN):vP L yi=L.map fun e=>(e.name,e.vec):=by
 unfold vP
 rw[List.filter_eq_self.2]
 intro e _
 exact HM _ (by unfold CC;omega)
def KT (L:List vN) (a b:Int):zh:=⟨2,a,b,0,[],yi,vP L yi,[],[]⟩
theorem Gh {m:zh} (ha:wL m.src=true) (hb:wL m.dst=true) (ne:m.src≠m.dst) (k:yc m=true) (l:yB m=true):zU m=true:=by
 unfold zU;rw[ha,hb,df ne,k,l];rfl
theorem I1 {L:List vN} {m:zh} (h:v9 L=true) (k:zU m=true) (a:yG L m=none):xx L m=(yh,false,0):=by
 unfold xx;rw[if_pos ⟨h,k⟩,a];rfl
variable {L:List vN} {a b:Int}
theorem xb.none {n:Nat} {h:H} {k:Nat} {cs:List AV} (r:xb n h .aQ k cs):k=0:=by
 have:=r.1
 unfold aT at this
 simp at this
 omega
theorem Gc {v w:AV} {a b:List Int} (la:a.length=4) (lb:b.length=4) (h0:H) (ra:Rd h0 v (ints a)) (rb:Rd h0 w (ints b)):∀(n i:Nat),i+n=4→∀(h:H) (ov:AV),Ext h0 h→h.floor≤h.next→h0.next≤h.next→vT 1 h ov i (ints ((wj a b).take i))→(∀j,ov.id?=some j→h0.next≤j)→
 ∃e' h' ov',Lp AP.A [0,1,6,7] AP.f166L0 [(0,v),(1,w),(6,ov),(7,.int .i64 i)] h=some (.exit 0,e',h')∧look e' 6=ov'∧vT 1 h' ov' 4 (ints (wj a b))∧h'.floor=h.floor
 | 0, i, hi, h, ov, hx, hf, hn, o, hge => by
   obtain rfl:i=4:=by omega
   have ln:=(ra.mono fun i c q=>hx i c q:Rd h v (ints a)).Ck.len
   rw[pC,la]at ln
   have jl:(wj a b).length=4:=by unfold wj;rw[List.length_zipWith];omega
   rw[uZ (by omega)]at o
   refine⟨[(0,v),(1,w),(6,ov),(7,.int .i64 4),(19,.bool false)],h,ov,tc ?_,rfl,o,rfl⟩
   simp (disch:=omega)only[go_sem,vq,AP.f166L0,ln]
 | n + 1, i, hi, h, ov, hx, hf, hn, o, hge => by
   have ln:=(ra.mono fun i c q=>hx i c q:Rd h v (ints a)).Ck.len
   rw[pC,la]at ln
   obtain⟨x,ax⟩:∃x,a[i]?=some x:=⟨a[i]'(by omega),by simp⟩
   obtain⟨y,bx⟩:∃y,b[i]?=some y:=⟨b[i]'(by omega),by simp⟩
   obtain⟨ad,a1,a2⟩:=ra.wT
   obtain⟨bd,b1,b2⟩:=rb.wT
   have a3:=a1 i ⟨by omega,by omega⟩
   have b3:=b1 i ⟨by omega,by omega⟩
   have a4:=a2 h hx i x ax
   have b4:=b2 h hx i y bx
   have jl:(wj a b).length=4:=by unfold wj;rw[List.length_zipWith];omega
   have jx:(wj a b)[i]?=some (w9 x y):=by unfold wj;rw[List.getElem?_zipWith,ax,bx]
   have tk:(wj a b).take (i+1)=(wj a b).take i++[w9 x y]:=by rw[List.take_add_one,jx];rfl
   have il:(wj a b).take i=(wj a b).take i:=rfl
   obtain⟨v',h',p1,p2,p3,p4,p5,p6⟩:=o.push hf (z:=8) (m:=1) (by omega) (by omega) [.int .i64 (w9 x y)] rfl rfl (by simp [roomy];omega)
   have e:ints ((wj a b).take i)++[.int .i64 (w9 x y)]=ints ((wj a b).take (i+1)):=by rw[tk];simp [ints,I]
   rw[e]at p2
   obtain⟨e',h2,ov',r1,r2,r3,r4⟩:=Gc la lb h0 ra rb n (i+1) (by omega) h' v' (fun j c q=>by
    have:=h0.lt _ _ q
    rw[p5 j (fun q2=>by have:=hge j q2;omega) (by omega)];exact hx j c q) (by omega) (by omega) p2 (fun j q=>by rw[p6]at q;have:=uz q;omega)
   have w1:((i+1:Nat):Int)=(i:Int)+1:=by omega
   rw[w1]at r1
   refine⟨e',h2,ov',td ?_ r1,r2,r3,by rw[r4,p3]⟩
   clear r1 r2 r3 ra rb a1 a2 b1 b2 hx o p2 e tk jx
   simp (disch:=omega)only[go_sem,vq,AP.f166L0,ln,a3,b3,a4,b4,IK,FR,p1]
theorem Gd (h:H) (v w:AV) (a b:List Int) (ra:Rd h v (ints a)) (rb:Rd h w (ints b)) (ha:xa a=true) (hb:xa b=true):aS AP.A 166 [v,w] h=some (.bS [wJ (wj a b),.int .i64 0],h):=by
 have la:a.length=4:=by unfold xa at ha;simp only[uL,UH]at ha;exact ha.1
 have lb:b.length=4:=by unfold xa at hb;simp only[uL,UH]at hb;exact hb.1
 have jl:(wj a b).length=4:=by unfold wj;rw[List.length_zipWith];omega
 have raf:Rd h.eh v (ints a):=ra.mono fun i c q=>q
 have rbf:Rd h.eh w (ints b):=rb.mono fun i c q=>q
 have k1:=FO h.eh v a raf (by omega)
 have k2:=FO h.eh w b rbf (by omega)
 rw[ha]at k1
 rw[hb]at k2
 obtain⟨e',h2,ov,r1,r2,r3,r4⟩:=Gc la lb h.eh raf rbf 4 0 rfl h.eh .aQ (Ext.refl _) (uK _) (uK _) vT.nil (fun j q=>by cases q)
 have r1':Lp AP.A [0,1,6,7] AP.f166L0 [(0,v),(1,w),(6,.aQ),(7,.int .i64 0)] h.eh=some (.exit 0,e',h2):=r1
 refine tQ (fn:=AP.f166) (h2:=h2) (e:=[(4,ov),(5,.int .i64 0)]) (vs:=[ov,.int .i64 0]) rfl rfl rfl ?_ rfl ?_
 · clear ra rb raf rbf r1 r3 ha hb
   simp (disch:=omega)only[go_sem,vq,AP.f166,k1,k2,rV,r1',r2]
 · have s:=r3.yt (fl:=h.next) (m:=13) (t:=true) (by rw[r4];exact uK _)
   have e:DV 1 4 (ints (wj a b))=wJ (wj a b):=by unfold DV wJ;rw[jl];rfl
   rw[e]at s
   show(fP (snap h2.get h.next 15 true) [ov,.int .i64 0]).bind _=_
   simp only[fP,s,uG]
   rfl
theorem EY {α:Type} {l:List α} {i:Nat} {x:α} (h:l[i]?=some x):∃p q,p.length=i∧l=p++x::q:=by
 obtain⟨hi,rfl⟩:=uF.1 h
 refine⟨l.take i,l.drop (i+1),by rw[List.length_take];omega, ?_⟩
 rw[←List.drop_eq_getElem_cons hi,List.take_append_drop]
structure Ag (G:H) (b:Nat) (v:AV) (l:List vG):Prop where
 g:G.get b=some [v]
 sv:v.sc=true
 rd:xb 9 G v l.length (vD l)
 ok:∀x∈l,xe G x∧x.2.sc=true
 may:v9 (l.map (·.1))=true
theorem Ag.mono {G g:H} {b:Nat} {v:AV} {l:List vG} (o:Ag G b v l) (e:Ext G g):Ag g b v l:=
 ⟨e _ _ o.g,o.sv,o.rd.mono fun i c q=>e i c q,fun x hx=>⟨(o.ok x hx).1.mono e,(o.ok x hx).2⟩,o.may⟩
theorem Ag.len {G:H} {b:Nat} {v:AV} {l:List vG} (o:Ag G b v l):l.length≤6:=by
 have hm:=wq o.may
 unfold wR at hm
 rw[uL,UH,UF]at hm
 exact hm.2
theorem Ag.vec {G:H} {b:Nat} {v:AV} {l:List vG} (o:Ag G b v l) {x:vG} (hx:x∈l):xa x.1.vec=true:=by
 have hm:=wq o.may
 unfold wR at hm
 rw[uL]at hm
 have:=(zA hm.1 x.1 (UR.2 ⟨x,hx,rfl⟩)).2.1
 unfold wh at this
 rw[uL]at this
 exact this.1
theorem Ag.at_ {G:H} {b:Nat} {v:AV} {l:List vG} (o:Ag G b v l):∃ad:Int→Nat→AV,(∀i:Int,0≤i∧i<l.length→fZ 9 v (.int .i64 i)=some (ad i 0)∧ft 0 (ad i 0)=some (ad i 0)∧ft 2 (ad i 0)=some (ad i 2))∧
 ∀g,Ext G g→∀(i:Nat) (x:vG),l[i]?=some x→bX false 1 (ad i 0) g=some (.str x.1.name)∧bX false 1 (ad i 2) g=some x.2∧bX true 9 (ad i 0) g=some (.agg (vw x.1 x.2)):=by
 obtain⟨ad,a1,a2,a4,a3⟩:=o.rd.at_
 refine⟨ad,fun i hi=>⟨a1 i hi,a2 i 0 0 hi,a2 i 0 2 hi⟩,fun g hg i x hx=> ?_⟩
 have hi:i<l.length:=(uF.1 hx).1
 have f:=fun k (hk:k<9)=>y3 (f:=k) zK hx hk
 have a5:=a3 g fun i c q=>hg i c q
 refine⟨a5.1 i 0 _ ⟨by omega,by omega⟩ ?_,a5.1 i 2 _ ⟨by omega,by omega⟩ ?_, ?_⟩
 · rw[wO];exact f 0 (by omega)
 · rw[wO];exact f 2 (by omega)
 · rw[a5.2 i ⟨by omega,by omega⟩,wO]
   obtain⟨p,q,rfl,rfl⟩:=EY hx
   have:vD (p++x::q)=vD p++(vw x.1 x.2++vD q):=by simp [vD,JW]
   rw[this,List.drop_append_of_le_length (by rw[xm];omega),List.drop_of_length_le (by rw[xm];omega),List.nil_append,List.take_append_of_le_length (by show 9≤9;omega),uZ (by show 9≤9;omega)]
def AH (e:vN):FP:=(e.name,e.vec)
set_option maxHeartbeats 4000000 in
theorem DP {G : H} {bA bB : Nat} {v w : AV} {l m : List vG} {r7 r8 r9 : AV} (fA : Ag G bA v l) (fB : Ag G bB w m) : ∀ (q p : List vG), l = p ++ q → ∀ (h : H) (ov : AV) (acc : List ByteArray), Ext G h → G.next ≤ h.next → h.floor = G.floor → G.floor ≤ G.next →
 vT 1 h ov acc.length (xc acc)→(∀j,ov.id?=some j→G.next≤j)→acc.length≤p.length→
 ∃ e' h' ov', Lp AP.A [2, 3, 7, 8, 9, 10, 11] AP.f226L1 [(2, .aE bA 0), (3, .aE bB 0), (7, r7), (8, r8), (9, r9), (10, ov), (11, .int .i64 p.length)] h = some (.exit 0, e', h') ∧ look e' 2 = .aE bA 0 ∧ look e' 7 = r7 ∧ look e' 8 = r8 ∧ look e' 9 = r9 ∧ look e' 10 = ov' ∧
   Ext G h'∧G.next≤h'.next∧h'.floor=G.floor∧vT 1 h' ov' (acc++wV (m.map (·.1)) (q.map fun x=>AH x.1)).length (xc (acc++wV (m.map (·.1)) (q.map fun x=>AH x.1)))∧∀j,ov'.id?=some j→G.next≤j
 | [], p, hp, h, ov, acc, low, hn, hf, fG, o, ho, ha => by
   rw[UI]at hp;subst hp
   have ln:=fA.rd.len
   have gA:=low _ _ fA.g
   refine⟨[(2,.aE bA 0),(3,.aE bB 0),(7,r7),(8,r8),(9,r9),(10,ov),(11,.int .i64 l.length),(54,.bool false)],h,ov,tc ?_,rfl,rfl,rfl,rfl,rfl,low,hn,hf,by simpa [wV]using o,ho⟩
   clear low o fA fB
   simp (disch:=omega)only[go_sem,vq,AP.f226L1,gA,ln]
 | x :: q, p, hp, h, ov, acc, low, hn, hf, fG, o, ho, ha => by
   have hlen:l.length=p.length+(q.length+1):=by rw[hp];simp
   have hx:l[p.length]?=some x:=by rw[hp];simp
   have hm:=uO hx
   have l6:=fA.len
   have ln:=fA.rd.len
   have lnB:=fB.rd.len
   have m6:=fB.len
   obtain⟨ad,a1,a2⟩:=fA.at_
   have hI:(0:Int)≤(p.length:Int)∧(p.length:Int)<l.length:=⟨by omega,by omega⟩
   obtain⟨i1,i2,i3⟩:=a1 _ hI
   obtain⟨t1,t2,_⟩:=a2 h low p.length x hx
   have gA:=low _ _ fA.g
   have gB:=low _ _ fB.g
   have fBh:=fB.mono low
   have kp:=Gp h w m x.1.name fB.sv (by omega) fBh.rd
   have w1:(((p++[x]).length:Nat):Int)=(p.length:Int)+1:=by simp
   have wa:IntKind.wrap .i64 ((p.length:Int)+1)=(p.length:Int)+1:=wi (by omega)
   have lt:(p.length:Int)<(l.length:Int):=hI.2
   rw[UL,GN]
   obtain⟨P,hP⟩:∃P,P=vJ x.1.name (m.map (·.1)):=⟨_,rfl⟩
   rw[←hP]at kp
   obtain⟨bd,c1,c2⟩:=fB.at_
   have more:yA (m.map (·.1)) (AH x.1)=true→aM (aS AP.A) bD AP.f226L1 [(2,.aE bA 0),(3,.aE bB 0),(7,r7),(8,r8),(9,r9),(10,ov),(11,.int .i64 p.length)] h=some (.normal,[(2,.aE bA 0),(3,.aE bB 0),(7,r7),(8,r8),(9,r9),(10,ov),(11,.int .i64 ((p.length:Int)+1))],h):=fun hk=>by
    unfold yA at hk
    rw[show(AH x.1).1=x.1.name from rfl,←hP,uL]at hk
    obtain⟨k1,k2⟩:=hk
    rw[uT]at k2
    cases hb:m[P.1]? with
    |none=>rw[hb]at k2;cases k2
    | some y =>
      rw[hb]at k2
      have k3:wj y.1.vec x.1.vec=y.1.vec:=of_decide_eq_true k2
      have hy:=uO hb
      have Pl:P.1<m.length:=(uF.1 hb).1
      have hJ:(0:Int)≤(P.1:Int)∧(P.1:Int)<m.length:=⟨by omega,by omega⟩
      obtain⟨j1,j2,j3⟩:=c1 _ hJ
      obtain⟨_,u2,_⟩:=c2 h low P.1 y hb
      have kj:=Gd h y.2 x.2 y.1.vec x.1.vec ((fBh.ok y hy).1.vec) ((fA.ok x hm).1.vec.mono fun i c q=>low i c q) (fB.vec hy) (fA.vec hm)
      rw[k3]at kj
      have ks:=zR h (wJ y.1.vec) y.2 y.1.vec y.1.vec (xM h _) ((fBh.ok y hy).1.vec) (fBh.ok y hy).1.vl
      rw[dt rfl]at ks
      rw[k1]at kp
      clear a1 a2 c1 c2 fA fB fBh low o k2 k3 hP hp hx hb hy hm
      generalize wJ y.1.vec=JV at *
      simp (disch:=omega)only[go_sem,vq,AP.f226L1,gA,gB,ln,dt lt,wS,i1,i2,i3,t1,t2,kp,j1,j2,j3,u2,kj,ks,wa]
   cases hk:yA (m.map (·.1)) (AH x.1)with
   | true =>
     rw[if_pos rfl]
     obtain⟨e',h',ov',r1,r2⟩:=DP (r7:=r7) (r8:=r8) (r9:=r9) fA fB q (p++[x]) (by rw[hp];simp) h ov acc low hn hf fG o ho (by simp;omega)
     rw[w1]at r1
     exact⟨e',h',ov',td (more hk) r1,r2⟩
   | false =>
     rw[if_neg (by decide)]
     obtain⟨v',h2,p1,p2,p3,p4,p5,p6⟩:=o.push (by omega) (z:=16) (m:=1) (by omega) (by omega) [.str x.1.name] rfl rfl (by simp [roomy];omega)
     have ea:xc acc++[.str x.1.name]=xc (acc++[x.1.name]):=by rw[E5];rfl
     have el:acc.length+1=(acc++[x.1.name]).length:=by simp
     rw[ea,el]at p2
     have x2:Ext G h2:=fun i c q=>by
      have lt2:=G.lt _ _ q
      rw[p5 i (fun q2=>by have:=ho i q2;omega) (by omega)];exact low i c q
     obtain⟨e',h',ov',r1,r2⟩:=DP (r7:=r7) (r8:=r8) (r9:=r9) fA fB q (p++[x]) (by rw[hp];simp) h2 v' (acc++[x.1.name]) x2 (by omega) (by omega) fG p2 (fun j q2=>by rw[p6]at q2;have:=uz q2;omega) (by simp;omega)
     rw[w1]at r1
     have e2:acc++(AH x.1).1::wV (m.map (·.1)) (q.map fun x=>AH x.1)=(acc++[x.1.name])++wV (m.map (·.1)) (q.map fun x=>AH x.1):=by simp [AH]
     rw[e2]
     refine⟨e',h',ov',td ?_ r1,r2⟩
     have sv2:=p2.sc
     have cv2:=xp sv2
     unfold yA at hk
     rw[show(AH x.1).1=x.1.name from rfl,←hP]at hk
     cases k1:P.2 with
     | false =>
       rw[k1]at kp
       clear a1 a2 c1 c2 fA fB fBh low o hP hp hx hm more r1 r2 x2 p2 p5
       simp (disch:=omega)only[go_sem,vq,AP.f226L1,gA,gB,ln,dt lt,wS,i1,i2,i3,t1,t2,kp,p1,cv2,zW,dU,wa]
     | true =>
       rw[k1]at kp hk
       have Pl:P.1<m.length:=by
        have:=Az x.1.name (m.map (·.1)) (by rw[←hP];exact k1)
        rw[←hP,UF]at this;exact this
       obtain⟨y,hb⟩:∃y,m[P.1]?=some y:=⟨_,UT Pl⟩
       rw[uT,hb]at hk
       have hk':(true&&decide (wj y.1.vec x.1.vec=y.1.vec))=false:=hk
       have k3:¬wj y.1.vec x.1.vec=y.1.vec:=of_decide_eq_false (by rw[UQ]at hk';exact hk')
       have hy:=uO hb
       have hJ:(0:Int)≤(P.1:Int)∧(P.1:Int)<m.length:=⟨by omega,by omega⟩
       obtain⟨j1,j2,j3⟩:=c1 _ hJ
       obtain⟨_,u2,_⟩:=c2 h low P.1 y hb
       have kj:=Gd h y.2 x.2 y.1.vec x.1.vec ((fBh.ok y hy).1.vec) ((fA.ok x hm).1.vec.mono fun i c q=>low i c q) (fB.vec hy) (fA.vec hm)
       have lj:(wj y.1.vec x.1.vec).length<1125899906842624:=by
        have q1:=fB.vec hy
        have q2:=fA.vec hm
        unfold xa at q1 q2
        simp only[uL,UH]at q1 q2
        unfold wj;rw[List.length_zipWith];omega
       have ks:=zR h (wJ (wj y.1.vec x.1.vec)) y.2 (wj y.1.vec x.1.vec) y.1.vec (xM h _) ((fBh.ok y hy).1.vec) lj
       rw[df k3]at ks
       clear a1 a2 c1 c2 fA fB fBh low o hP hp hx hb hy hm more r1 r2 x2 p2 p5 k3 hk hk' lj
       generalize wJ (wj y.1.vec x.1.vec)=JV at *
       simp (disch:=omega)only[go_sem,vq,AP.f226L1,gA,gB,ln,dt lt,wS,i1,i2,i3,t1,t2,kp,j1,j2,j3,u2,kj,ks,p1,cv2,zW,dU,wa]
theorem zB (f:vN→Bool):∀{L:List vN} {p:Option vN},wK p L=true→wK p (L.filter f)=true
 |[],_,_=>by simp [wK]
 | e :: r, p, h => by
   have h':=h
   rw[wK,uL]at h
   cases q:f e with
   |true=>rw[List.filter_cons,q,if_pos rfl,wK,h.1,zB f h.2];rfl
   | false =>
     rw[List.filter_cons,q,if_neg (by decide)]
     exact zB f (Ca (a:=[]) h')
def wk (LA LB:List vN):List vN:=LA.filter fun e=> !yA LB (AH e)
theorem GO (LA LB:List vN):wV LB (LA.map AH)=(wk LA LB).map (·.name):=by
 unfold wV wk
 rw[List.filter_map,U6];rfl
theorem Gs {LA:List vN} (h:v9 LA=true):∀F:List vN,(∀e∈F,e∈LA)→yQ LA (F.map (·.name))=F
 |[],_=>rfl
 | e :: F, hF => by
   have hm:=wq h
   unfold wR at hm
   rw[uL]at hm
   obtain⟨a,b,rfl⟩:=List.append_of_mem (hF e (by simp))
   rw[UL,FI,Gs h F fun x hx=>hF x (by simp [hx]),Ae hm.1]
   simp
theorem ES:∀W:List ByteArray,yQ [] W=[]
 |[]=>rfl
 |s::W=>by rw[FI,ES W];rfl
def IG (W:List ByteArray):zh:=⟨3,1,0,0,[],[],[],W,[]⟩
def Tc (F:List vN):zh:=⟨4,0,1,0,[],[],[],[],F⟩
theorem Kj {L:List vN} (h:v9 L=true):zU (KT L 0 1)=true:=by
 have hm:=wq h
 unfold wR at hm
 rw[uL,UH]at hm
 refine Gh rfl rfl (by show(0:Int)≠1;decide) ?_ rfl
 unfold yc
 rw[show(KT L 0 1).kind=2 from rfl,if_neg (by decide:¬(2:Int)=0),if_neg (by decide:¬(2:Int)=1),if_pos rfl]
 show(decide (1≤yi.length)&&(yx yi&&(wG none ((vP L yi).map (·.1))&&(decide ((vP L yi).length≤6)&&(vP L yi).all fun b=>xa b.2))))=true
 have e1:(vP L yi).map (·.1)=L.map (·.name):=by rw[yI,U6];rfl
 have e2:(vP L yi).length≤6:=by rw[yI,UF];exact hm.2
 have e3:((vP L yi).all fun b=>xa b.2)=true:=by
  rw[yI,List.all_map,UY]
  intro e he
  have:=(zA hm.1 e he).2.1
  unfold wh at this
  rw[uL]at this
  exact this.1
 have e4:wG none (L.map (·.name))=true:=y9 (p:=none) hm.1
 rw[e1,e4,dt e2,e3];decide
theorem Px {L:List vN} {a b:Int} (h:v9 L=true):P6 (KT L a b):=by
 have hm:=wq h
 unfold wR at hm
 rw[uL,UH]at hm
 refine⟨by show(0:Nat)<_;omega,by show yi.length<_;decide,by show(vP L yi).length<_;rw[yI,UF];omega,by show(0:Nat)<_;omega,by show(0:Nat)<_;omega,fun s h=>(by cases h),fun t ht=> ?_,fun s h=>(by cases h)⟩
 have ht':t∈vP L yi:=ht
 rw[yI]at ht'
 obtain⟨e,he,rfl⟩:=UR.1 ht'
 obtain⟨q1,q2,_⟩:=zA hm.1 e he
 unfold wz at q1
 unfold wh xa at q2
 simp only[uL,UH]at q1 q2
 exact⟨by show e.name.size<_;omega,by show e.vec.length<_;omega⟩
theorem Gg {LA LB:List vN} (h:v9 LA=true) (ne:wk LA LB≠[]):zU (IG ((wk LA LB).map (·.name)))=true:=by
 have hm:=wq h
 unfold wR at hm
 rw[uL,UH]at hm
 refine Gh rfl rfl (by show(1:Int)≠0;decide) ?_ rfl
 unfold yc
 rw[show(IG ((wk LA LB).map (·.name))).kind=3 from rfl,if_neg (by decide:¬(3:Int)=0),if_neg (by decide:¬(3:Int)=1),if_neg (by decide:¬(3:Int)=2),if_pos rfl]
 show(wG none ((wk LA LB).map (·.name))&&(decide (1≤((wk LA LB).map (·.name)).length)&&decide (((wk LA LB).map (·.name)).length≤6)))=true
 have e4:wG none ((wk LA LB).map (·.name))=true:=y9 (p:=none) (zB _ hm.1)
 have e5:(wk LA LB).length≤LA.length:=List.length_filter_le _ _
 have e6:=U5.2 ne
 rw[e4,UF,dt (by omega),dt (by omega)];rfl
theorem PT {LA LB:List vN} (hA:v9 LA=true) (hB:v9 LB=true):xx LB (KT LA 0 1)=if wk LA LB=[]then(yh,false,0)else(IG ((wk LA LB).map (·.name)),true,0):=by
 have e:wV LB (vP LA yi)=(wk LA LB).map (·.name):=by rw[yI];exact GO LA LB
 unfold xx
 rw[if_pos ⟨hB,Kj hA⟩]
 unfold yG
 rw[show(KT LA 0 1).kind=2 from rfl,if_neg (by decide:¬(2:Int)=0),if_neg (by decide:¬(2:Int)=1),if_pos rfl,show(KT LA 0 1).vB=vP LA yi from rfl,e]
 by_cases c:wk LA LB=[]
 · rw[if_pos c,c];rfl
 · rw[if_neg c,if_neg (by simpa using c)];rfl
theorem PU {LA LB:List vN} (hA:v9 LA=true) (ne:wk LA LB≠[]):xx LA (IG ((wk LA LB).map (·.name)))=(Tc (wk LA LB),true,0):=by
 have e:yQ LA ((wk LA LB).map (·.name))=wk LA LB:=Gs hA _ fun e he=>(List.mem_filter.1 he).1
 unfold xx
 rw[if_pos ⟨hA,Gg hA ne⟩]
 unfold yG
 rw[show(IG ((wk LA LB).map (·.name))).kind=3 from rfl,if_neg (by decide:¬(3:Int)=0),if_neg (by decide:¬(3:Int)=1),if_neg (by decide:¬(3:Int)=2),if_pos rfl,show(IG ((wk LA LB).map (·.name))).names=(wk LA LB).map (·.name)from rfl,e,if_neg ne];rfl
theorem PV {LA LB:List vN} (hA:v9 LA=true) (ne:wk LA LB≠[]):xx [] (IG ((wk LA LB).map (·.name)))=(yh,false,0):=by
 refine I1 J3 (Gg hA ne) ?_
 unfold yG
 rw[show(IG ((wk LA LB).map (·.name))).kind=3 from rfl,if_neg (by decide:¬(3:Int)=0),if_neg (by decide:¬(3:Int)=1),if_neg (by decide:¬(3:Int)=2),if_pos rfl,ES,if_pos rfl]
set_option maxHeartbeats 4000000 in
theorem EO {G:H} {bA O:Nat} {v ov:AV} {l:List vG} {y:wN} {r7:AV} {F:List vN} (fA:Ag G bA v l) (gO:G.get O=some (vo y)) (oy:AG G y) (ey:y.m.wx=F) (ro:Rd G ov (xc (F.map (·.name)))) (hF:∀e∈F,e∈l.map (·.1)) (F6:F.length≤6):∀(q p:List vN),F=p++q→
 ∃e',Lp AP.A [2,7,10,16,19] AP.f226L0 [(2,.aE bA 0),(7,r7),(10,ov),(16,.aE O 0),(19,.int .i64 p.length)] G=some (.exit 2,e',G)∧look e' 7=r7
 | [], p, hp => by
   rw[UI]at hp;subst hp
   have ln:=ro.Ck.len
   rw[wH,UF]at ln
   refine⟨[(2,.aE bA 0),(7,r7),(10,ov),(16,.aE O 0),(19,.int .i64 F.length),(163,.bool false)],tc ?_,rfl⟩
   clear fA oy gO ro
   simp (disch:=omega)only[go_sem,vq,AP.f226L0,ln]
 | e :: q, p, hp => by
   have hlen:F.length=p.length+(q.length+1):=by rw[hp];simp
   have hx:F[p.length]?=some e:=by rw[hp];simp
   have ln:=ro.Ck.len
   rw[wH,UF]at ln
   have hI:(0:Int)≤(p.length:Int)∧(p.length:Int)<(F.length:Int):=⟨by omega,by omega⟩
   have lt:=hI.2
   obtain⟨nd,n1,n2,n4,n3⟩:=ro.Ck.at_
   have nI:(0:Int)≤(p.length:Int)∧(p.length:Int)<((xc (F.map (·.name))).length:Int):=by rw[wH,UF];exact hI
   have i1:=n1 _ nI
   have i2:bX false 1 (nd p.length 0) G=some (.str e.name):=(n3 G fun _ _ q=>q).1 p.length 0 _ nI (by
    rw[wO,U4,UZ]
    show(xc (F.map (·.name)))[p.length]?=_
    unfold xc
    rw[uT,uT,hx];rfl)
   have hm:=wq fA.may
   unfold wR at hm
   rw[uL]at hm
   obtain⟨a,b,hab⟩:=List.append_of_mem (hF e (uO hx))
   have kp:=Gp G v l e.name fA.sv (by have:=fA.len;omega) fA.rd
   have ps:vJ e.name (l.map (·.1))=(a.length,true):=by rw[hab];exact Ae (p:=none) (by rw[←hab];exact hm.1)
   rw[ps]at kp
   have la:(l.map (·.1))[a.length]?=some e:=by rw[hab];simp
   rw[uT]at la
   obtain⟨z,hz,ez⟩:∃z,l[a.length]?=some z∧z.1=e:=by
    cases q:l[a.length]? with
    |none=>rw[q]at la;cases la
    |some z=>rw[q]at la;exact⟨z,rfl,uz la⟩
   obtain⟨ad,a1,a2⟩:=fA.at_
   have al:a.length<l.length:=(uF.1 hz).1
   obtain⟨j1,_,_⟩:=a1 a.length ⟨by omega,by omega⟩
   obtain⟨_,_,t3⟩:=a2 G (Ext.refl G) a.length z hz
   have hes:(y.es.map (·.1))[p.length]?=some e:=by rw[oy.he,ey];exact hx
   rw[uT]at hes
   obtain⟨u,hu,eu⟩:∃u,y.es[p.length]?=some u∧u.1=e:=by
    cases q:y.es[p.length]? with
    |none=>rw[q]at hes;cases hes
    |some u=>rw[q]at hes;exact⟨u,rfl,uz hes⟩
   obtain⟨ed,m1,m2,m4,m3⟩:=oy.re.at_
   have ul:p.length<y.es.length:=(uF.1 hu).1
   have uI:(0:Int)≤(p.length:Int)∧(p.length:Int)<(y.es.length:Int):=⟨by omega,by omega⟩
   have o1:=m1 _ uI
   have o2:bX true 9 (ed p.length 0) G=some (.agg (vw u.1 u.2)):=by
    rw[(m3 G fun _ _ q=>q).2 _ uI,wO]
    obtain⟨p',q',hl',hq'⟩:=EY hu
    have:vD y.es=vD p'++(vw u.1 u.2++vD q'):=by rw[hq'];simp [vD,JW]
    rw[this,←hl',List.drop_append_of_le_length (by rw[xm];omega),List.drop_of_length_le (by rw[xm];omega),List.nil_append,List.take_append_of_le_length (by show 9≤9;omega),uZ (by show 9≤9;omega)]
   have um:=oy.ve u (uO hu)
   have zm:=fA.ok z (uO hz)
   have ks:=Gx G u.1 z.1 u.2 z.2 um.2 zm.2 um.1 zm.1
   rw[eu,ez,(zg e e).2 rfl]at ks
   rw[eu]at o2
   rw[ez]at t3
   have gA:=fA.g
   have e8:(vo y)[8]?=some y.ve:=rfl
   obtain⟨e',r1,r2⟩:=EO (r7:=r7) fA gO oy ey ro hF F6 q (p++[e]) (by rw[hp];simp)
   have w1:(((p++[e]).length:Nat):Int)=(p.length:Int)+1:=by simp
   rw[w1]at r1
   have wa:IntKind.wrap .i64 ((p.length:Int)+1)=(p.length:Int)+1:=wi (by omega)
   refine⟨e',td ?_ r1,r2⟩
   clear r1 r2 fA oy ro n1 n2 n3 n4 a1 a2 m1 m2 m3 m4 hx hes hu hz hab la um zm hm ps
   generalize vo y=Y at *
   generalize vw e u.2=E1 at *
   generalize vw e z.2=E2 at *
   simp (disch:=omega)only[go_sem,vq,AP.f226L0,ln,dt lt,gA,wS,i1,i2,kp,gO,e8,o1,o2,j1,t3,ks,wa]
theorem DO:AP.f226.body=.seq (at_ 0 AP.f226.body) (.seq (at_ 1 AP.f226.body) (.seq (at_ 2 AP.f226.body) (.seq (at_ 3 AP.f226.body) (.seq (at_ 4 AP.f226.body) (.seq (at_ 5 AP.f226.body) (.seq (at_ 6 AP.f226.body) (.seq (at_ 7 AP.f226.body) (.seq (at_ 8 AP.f226.body) (.seq (at_ 9 AP.f226.body) (.seq (at_ 10 AP.f226.body) (.seq (at_ 11 AP.f226.body) (.seq (at_ 12 AP.f226.body) (FN 13 AP.f226.body))))))))))))):=rfl
set_option maxHeartbeats 8000000 in
theorem IZ (h : H) (v w : AV) (l m : List vG) (sv : v.sc = true) (sw : w.sc = true) (hn : l.length < 1125899906842624) (hm : m.length < 1125899906842624) (rd : xb 9 h v l.length (vD l)) (rw_ : xb 9 h w m.length (vD m)) (hv : ∀ x ∈ l, xe h x ∧ x.2.sc = true) (hw : ∀ x ∈ m, xe h x ∧ x.2.sc = true) :
 aS AP.A 226 [.agg [v],.agg [w]] h=some (.bool true,h):=by
 obtain⟨h1,eh1⟩:∃g,g=h.eh.alloc [v]:=⟨_,rfl⟩
 obtain⟨h2,eh2⟩:∃g,g=h1.alloc [w]:=⟨_,rfl⟩
 have n0:h.eh.next=h.next:=rfl
 have n1:h1.next=h.next+1:=by rw[eh1];simp
 have n2:h2.next=h.next+2:=by rw[eh2];simp [n1]
 have f2:h2.floor=h.next:=by rw[eh2,eh1];simp
 have x2:Ext h h2:=fun i c q=>by rw[eh2,eh1];exact(((Ext.refl h.eh).alloc _).alloc _) i c q
 have gA:h2.get h.next=some [v]:=by rw[eh2,vO (by omega),eh1];exact vu rfl
 have gB:h2.get (h.next+1)=some [w]:=by rw[eh2,vu (by omega)]
 have k0:∀g,aS AP.A 242 [] g=some (.bool true,g):=G0
 have rdA:=rd.mono fun i c q=>x2 i c q
 have rdB:=rw_.mono fun i c q=>x2 i c q
 have hvA:∀z∈l,xe h2 z∧z.2.sc=true:=fun z hz=>⟨(hv z hz).1.mono x2,(hv z hz).2⟩
 have hvB:∀z∈m,xe h2 z∧z.2.sc=true:=fun z hz=>⟨(hw z hz).1.mono x2,(hw z hz).2⟩
 have kA:=DD h2 v l sv hn rdA hvA
 have kB:=DD h2 w m sw hm rdB hvB
 have b0:aM (aS AP.A) bD (at_ 0 AP.f226.body) (params 0 [.agg [v],.agg [w]]) h.eh=some (.normal,[(2,.aE h.next 0),(3,.aE (h.next+1) 0)],h2):=by
  have z:=eh2.symm
  clear rd hv rw_ hw x2 rdA rdB hvA hvB
  simp (disch:=omega)only[go_sem,vq,AP.f226,wy,sv,sw,n0,←eh1,n1,z]
 have b1:aM (aS AP.A) bD (at_ 1 AP.f226.body) [(2,.aE h.next 0),(3,.aE (h.next+1) 0)] h2=some (.normal,[(2,.aE h.next 0),(3,.aE (h.next+1) 0)],h2):=by
  clear rd hv rw_ hw x2 rdA rdB hvA hvB
  simp (disch:=omega)only[go_sem,vq,AP.f226,wI,wy,k0]
 by_cases hf:v9 (l.map (·.1))=true∧v9 (m.map (·.1))=true
 case neg=>
  refine tQ (fn:=AP.f226) (h2:=h2) (e:=[(4,.bool true)]) rfl rfl rfl ?_ rfl rfl
  rw[DO,rI,b0,sD,rI,b1,sD]
  clear rd hv rw_ hw x2 rdA rdB hvA hvB b0 b1
  cases c1:v9 (l.map (·.1))with
  | false =>
    rw[c1]at kA
    clear hf c1
    simp (disch:=omega)only[go_sem,vq,AP.f226,wI,wy,gA,gB,wS,kA,kB]
  | true =>
    have c2:v9 (m.map (·.1))=false:=by
     cases q:v9 (m.map (·.1))with
     |false=>rfl
     |true=>exact absurd ⟨c1,q⟩ hf
    rw[c1]at kA
    rw[c2]at kB
    clear hf c1 c2
    simp (disch:=omega)only[go_sem,vq,AP.f226,wI,wy,gA,gB,wS,kA,kB]
 obtain⟨cA,cB⟩:=hf
 rw[cA]at kA
 rw[cB]at kB
 have fA:Ag h2 h.next v l:=⟨gA,sv,rdA,hvA,cA⟩
 have fB:Ag h2 (h.next+1) w m:=⟨gB,sw,rdB,hvB,cB⟩
 have b2:aM (aS AP.A) bD (at_ 2 AP.f226.body) [(2,.aE h.next 0),(3,.aE (h.next+1) 0)] h2=some (.normal,[(2,.aE h.next 0),(3,.aE (h.next+1) 0)],h2):=by
  clear rd hv rw_ hw x2 rdA rdB hvA hvB b0 b1 cA cB fA fB
  simp (disch:=omega)only[go_sem,vq,AP.f226,wI,wy,gA,gB,wS,kA,kB]
 obtain⟨LA,hLA⟩:∃L,L=l.map (·.1):=⟨_,rfl⟩
 obtain⟨LB,hLB⟩:∃L,L=m.map (·.1):=⟨_,rfl⟩
 have cA':v9 LA=true:=by rw[hLA];exact cA
 have cB':v9 LB=true:=by rw[hLB];exact cB
 obtain⟨G3,hG3⟩:∃g,g=h2.alloc (ints yi):=⟨_,rfl⟩
 obtain⟨K,hK⟩:∃K,K=h2.next:=⟨_,rfl⟩
 have e3:Ext h2 G3:=by rw[hG3];exact(Ext.refl h2).alloc _
 have n3:G3.next=K+1:=by rw[hG3,hK];simp
 have f3:G3.floor=h.next:=by rw[hG3];simp;omega
 have gK:G3.get K=some (ints yi):=by rw[hG3];exact vu hK
 have fA3:=fA.mono e3
 have k3:=G6 G3 v (.aF K 0 8 1) l yi sv hn fA3.rd fA3.ok (Rd.obj gK rfl) (by decide)
 unfold Ll at k3
 rw[if_pos (by rw[cA];decide),←hLA]at k3
 obtain⟨BV,hBV⟩:∃BV,BV=BK (vP LA yi):=⟨_,rfl⟩
 rw[←hBV]at k3
 have sB:BV.sc=true:=by rw[hBV];exact Cq _ _ _
 have cBV:=xp sB
 have b3:aM (aS AP.A) bD (at_ 3 AP.f226.body) [(2,.aE h.next 0),(3,.aE (h.next+1) 0)] h2=some (.normal,[(2,.aE h.next 0),(3,.aE (h.next+1) 0),(5,BV)],G3):=by
  have z:h2.alloc [.int .i64 0,.int .i64 1,.int .i64 2,.int .i64 3,.int .i64 4,.int .i64 5,.int .i64 6,.int .i64 7]=G3:=hG3.symm
  have hK':=hK.symm
  have p3:=e3 _ _ gA
  clear rd hv rw_ hw x2 rdA rdB hvA hvB b0 b1 b2 cA cB fA fB e3 fA3 hG3 hK hBV
  simp (disch:=omega)only[go_sem,vq,AP.f226,wI,wy,gA,p3,wS,zW,dU,z,hK',k3]
 obtain⟨G4,hG4⟩:∃g,g=G3.alloc (ints yi):=⟨_,rfl⟩
 have e4:Ext G3 G4:=by rw[hG4];exact(Ext.refl G3).alloc _
 have n4:G4.next=K+2:=by rw[hG4];simp [n3]
 have f4:G4.floor=h.next:=by rw[hG4];simp [f3]
 have gK4:G4.get (K+1)=some (ints yi):=by rw[hG4];exact vu n3.symm
 obtain⟨x,hx⟩:∃y:wN,y={yz (KT LA 0 1)with vb:=.aF (K+1) 0 8 1}:=⟨_,rfl⟩
 have ox:AG G4 x:=by
  have o:=Au G4 (Px (a:=0) (b:=1) cA')
  rw[hx]
  exact⟨o.rd,Rd.obj (l:=yi) gK4 rfl,o.rf,o.hf,o.rn,o.re,o.he,o.ve,o.vf,⟨o.sc.1,rfl,o.sc.2.2⟩,o.zd,o.zb,o.zf,o.zn,o.ze,o.zs⟩
 have ex:x.m=KT LA 0 1:=by rw[hx];rfl
 have fB4:=fB.mono fun i c q=>e4 _ _ (e3 _ _ q)
 obtain⟨y7,w7,A7,G7,O7,k7,m7,a7,n7,ga7,st7,go7,e7,ok7,f7,l7,l7'⟩:=yj G4 (by omega) w m sw hm fB4.rd fB4.ok x ox
 rw[←hLB,ex,PT cA' cB']at k7 m7
 obtain⟨R,hR⟩:∃R:zh×Bool×Int,R=(if wk LA LB=[]then(yh,false,0)else(IG ((wk LA LB).map (·.name)),true,0)):=⟨_,rfl⟩
 rw[←hR]at k7 m7
 have b4:aM (aS AP.A) bD (at_ 4 AP.f226.body) [(2,.aE h.next 0),(3,.aE (h.next+1) 0),(5,BV)] G3=some (.normal,[(2,.aE h.next 0),(3,.aE (h.next+1) 0),(7,.aE O7 0),(8,.bool R.2.1),(9,.int .i64 R.2.2)],G7):=by
  have z:G3.alloc [.int .i64 0,.int .i64 1,.int .i64 2,.int .i64 3,.int .i64 4,.int .i64 5,.int .i64 6,.int .i64 7]=G4:=hG4.symm
  have eC:vo x=[.int .i64 2,.int .i64 0,.int .i64 1,.int .i64 0,.aQ,.aF (K+1) 0 8 1,BV,.aQ,.aQ]:=by rw[hx,hBV];rfl
  rw[eC]at k7
  have p3:=e3 _ _ gB
  have p4:=e4 _ _ p3
  have az:w7.alloc [.int .i64 0,.int .i64 0,.int .i64 0,.int .i64 0,.aQ,.aQ,.aQ,.aQ,.aQ]=A7:=a7
  have gz:A7.get O7=some [.int .i64 0,.int .i64 0,.int .i64 0,.int .i64 0,.aQ,.aQ,.aQ,.aQ,.aQ]:=ga7
  have sz:tS A7 O7 0 9 (vo y7) (some [.int .i64 0,.int .i64 0,.int .i64 0,.int .i64 0,.aQ,.aQ,.aQ,.aQ,.aQ])=some G7:=st7
  clear rd hv rw_ hw x2 rdA rdB hvA hvB b0 b1 b2 b3 cA cB fA fB e3 e4 fA3 fB4 hG3 hG4 hK hBV hx ox ex m7 eC e7 ok7 hR a7 ga7 st7
  generalize R.2.1=RB at *
  generalize R.2.2=RE at *
  generalize vo y7=Y7 at *
  simp (disch:=omega)only[go_sem,vq,AP.f226,wI,wy,p3,p4,wS,zW,dU,z,n3,cBV,sB,k7,az,n7,gz,sz]
 have E7:Ext h2 G7:=fun i c q=>e7 _ _ (e4 _ _ (e3 _ _ q))
 have n27:h2.next≤G7.next:=by omega
 have f27:G7.floor=h.next:=by omega
 have fA7:=fA.mono E7
 have fB7:=fB.mono E7
 obtain⟨e',G8,ov,r1,r2,r7,r8,r9,r10,x8,nx8,fx8,o8,_⟩:=DP (r7:=.aE O7 0) (r8:=.bool R.2.1) (r9:=.int .i64 R.2.2) fA7 fB7 l [] rfl G7 .aQ [] (Ext.refl _) (uK _) rfl (by omega) vT.nil (fun j q=>by cases q) (uK _)
 have r1':Lp AP.A [2,3,7,8,9,10,11] AP.f226L1 [(2,.aE h.next 0),(3,.aE (h.next+1) 0),(7,.aE O7 0),(8,.bool R.2.1),(9,.int .i64 R.2.2),(10,.aQ),(11,.int .i64 0)] G7=some (.exit 0,e',G8):=r1
 have eW:([]:List ByteArray)++wV (m.map (·.1)) (l.map fun x=>AH x.1)=(wk LA LB).map (·.name):=by
  rw[List.nil_append,←GO,hLA,hLB,U6];rfl
 rw[eW]at o8
 obtain⟨W,hW⟩:∃W,W=(wk LA LB).map (·.name):=⟨_,rfl⟩
 rw[←hW]at o8 hR
 have b56:aM (aS AP.A) bD (.seq (at_ 5 AP.f226.body) (at_ 6 AP.f226.body)) [(2,.aE h.next 0),(3,.aE (h.next+1) 0),(7,.aE O7 0),(8,.bool R.2.1),(9,.int .i64 R.2.2)] G7=some (.normal,[(2,.aE h.next 0),(7,.aE O7 0),(8,.bool R.2.1),(9,.int .i64 R.2.2),(10,ov)],G8):=by
  clear rd hv rw_ hw x2 rdA rdB hvA hvB b0 b1 b2 b3 b4 cA cB fA fB e3 e4 fA3 fB4 hG3 hG4 hK hBV hx ox ex m7 e7 ok7 hR E7 fA7 fB7 r1 x8 o8 eW hW
  generalize R.2.1=RB at *
  generalize R.2.2=RE at *
  simp (disch:=omega)only[go_sem,vq,AP.f226,wI,wy,rV,r1',r2,r7,r8,r9,r10]
 have ok8:=ok7.mono x8
 have go8:=x8 _ _ go7
 have fA8:=fA7.mono x8
 have lo:=o8.rd.len
 have ro:Rd G8 ov (xc W):=by have:=o8.rd;exact⟨by rw[wH];exact this.1,this.2.2⟩
 have kn:=fun (g:H) n=>KX g n
 simp only[I]at kn
 have c7:(vo y7)[7]?=some y7.vn:=rfl
 have W6:W.length≤6:=by
  have e5:(wk LA LB).length≤LA.length:=List.length_filter_le _ _
  have e6:=fA.len
  rw[hW,UF];rw[hLA,UF]at e5;rw[←hLA]at e5;omega
 have u1:((!false)==false)=false:=rfl
 have u2:((!true)==true)=false:=rfl
 have u3:(!(false==false))=false:=rfl
 have u4:(!(true==true))=false:=rfl
 have z0:([.int .i64 0,.int .i64 0,.int .i64 0,.int .i64 0,.aQ,.aQ,.aQ,.aQ,.aQ]:List AV)=vo vL:=rfl
 have cz:AV.aD (vo vL)=true:=rfl
 have fz:ei (vo vL) []=some (vo vL):=rfl
 have ly:=IH y7
 have ty:List.take 9 (vo y7)=vo y7:=rfl
 by_cases cW:wk LA LB=[]
 · rw[if_pos cW]at hR
   have W0:W=[]:=by rw[hW,cW];rfl
   rw[W0]at lo ro
   rw[hR]at m7 b4 b56
   have m7':y7.m=yh:=m7
   have kt:=Bx G8 y7.vn ov y7.m.names [] ok8.rn ro (by rw[m7'];show 0<_;omega) (by show 0<_;omega)
   rw[m7',dt (show yh.names=[]from rfl)]at kt
   have ks:=PK G8 y7 vL ok8 (D3 G8)
   rw[m7',PX,FJ]at ks
   have lo':ji false ov=some (.int .i64 0):=lo
   refine tQ (fn:=AP.f226) (h2:=G8) (e:=[(4,.bool true)]) rfl rfl rfl ?_ rfl rfl
   rw[DO,rI,b0,sD,rI,b1,sD,rI,b2,sD,rI,b3,sD,rI,b4,sD]
   refine Jb b56 ?_
   clear rd hv rw_ hw x2 rdA rdB hvA hvB b0 b1 b2 b3 b4 cA cB fA fB e3 e4 fA3 fB4 hG3 hG4 hK hBV hx ox ex m7 e7 ok7 hR E7 fA7 fB7 r1 x8 o8 eW hW b56 ok8 fA8 lo ro kA kB
   generalize vo vL=Z at *
   generalize vo y7=Y7 at *
   simp (disch:=omega)only[go_sem,vq,AP.f226,wI,wy,kn,lo',go8,c7,kt,u1,u2,u3,u4,FH,wM,ly,ty,UK,z0,fz,ks]
 · rw[if_neg cW]at hR
   rw[hR]at m7 b4 b56
   have m7':y7.m=IG W:=m7
   have W0:0<W.length:=by rw[hW,UF];exact U5.2 cW
   have kt:=Bx G8 y7.vn ov y7.m.names W ok8.rn ro (by rw[m7'];show W.length<_;omega) (by omega)
   rw[m7',dt (show(IG W).names=W from rfl)]at kt
   have ltW:(0:Int)<(W.length:Int):=by omega
   have b7:aM (aS AP.A) bD (.seq (at_ 7 AP.f226.body) (at_ 8 AP.f226.body)) [(2,.aE h.next 0),(7,.aE O7 0),(8,.bool true),(9,.int .i64 0),(10,ov)] G8=some (.normal,[(2,.aE h.next 0),(7,.aE O7 0),(10,ov)],G8):=by
    clear rd hv rw_ hw x2 rdA rdB hvA hvB b0 b1 b2 b3 b4 cA cB fA fB e3 e4 fA3 fB4 hG3 hG4 hK hBV hx ox ex m7 e7 ok7 hR E7 fA7 fB7 r1 x8 o8 eW hW b56 ok8 fA8 ro kA kB
    generalize vo y7=Y7 at *
    simp (disch:=omega)only[go_sem,vq,AP.f226,wI,wy,kn,lo,dt ltW,go8,c7,kt,u1,u2,u3,u4]
   obtain⟨y16,w16,A16,G16,O16,k16,m16,a16,n16,ga16,st16,go16,e16,ok16,f16,l16,l16'⟩:=yj G8 (by omega) v l sv hn fA8.rd fA8.ok y7 ok8
   rw[←hLA,m7',hW,PU cA' cW]at k16 m16
   have m16':y16.m=Tc (wk LA LB):=m16
   have pA:=fA8.g
   have b9:aM (aS AP.A) bD (at_ 9 AP.f226.body) [(2,.aE h.next 0),(7,.aE O7 0),(10,ov)] G8=some (.normal,[(2,.aE h.next 0),(7,.aE O7 0),(10,ov),(16,.aE O16 0),(17,.bool true),(18,.int .i64 0)],G16):=by
    clear rd hv rw_ hw x2 rdA rdB hvA hvB b0 b1 b2 b3 b4 cA cB fA fB e3 e4 fA3 fB4 hG3 hG4 hK hBV hx ox ex m7 e7 ok7 hR E7 fA7 fB7 r1 x8 o8 eW hW b56 ok8 fA8 ro kA kB b7 m16 m16' ok16 e16 m7'
    generalize vo vL=Z at *
    generalize vo y7=Y7 at *
    generalize vo y16=Y16 at *
    simp (disch:=omega)only[go_sem,vq,AP.f226,wI,wy,pA,wS,go8,FH,wM,ly,ty,UK,k16,z0,cz,a16,n16,ga16,st16]
   have go7':=e16 _ _ go8
   have fA16:=fA8.mono e16
   have eF:(wk LA LB).length=W.length:=by rw[hW,UF]
   have l8:ji false y16.ve=some (.int .i64 W.length):=by
    have:=ok16.re.len
    have q:y16.es.length=W.length:=by have q:=U2 List.length ok16.he;rw[UF,m16']at q;rw[q];exact eF
    rw[q]at this;exact this
   have d8:(vo y16)[8]?=some y16.ve:=rfl
   have d1:(vo y16)[1]?=some (.int .i64 0):=by show some (AV.int .i64 y16.m.src)=_;rw[m16'];rfl
   have d2:(vo y16)[2]?=some (.int .i64 1):=by show some (AV.int .i64 y16.m.dst)=_;rw[m16'];rfl
   have g1:(vo y7)[1]?=some (.int .i64 1):=by show some (AV.int .i64 y7.m.src)=_;rw[m7'];rfl
   have g2:(vo y7)[2]?=some (.int .i64 0):=by show some (AV.int .i64 y7.m.dst)=_;rw[m7'];rfl
   have b10:aM (aS AP.A) bD (at_ 10 AP.f226.body) [(2,.aE h.next 0),(7,.aE O7 0),(10,ov),(16,.aE O16 0),(17,.bool true),(18,.int .i64 0)] G16=some (.normal,[(2,.aE h.next 0),(7,.aE O7 0),(10,ov),(16,.aE O16 0)],G16):=by
    have nf:decide ((W.length:Int)≠(W.length:Int))=false:=by simp
    have nf2:((W.length:Int) !=(W.length:Int))=false:=by simp
    clear rd hv rw_ hw x2 rdA rdB hvA hvB b0 b1 b2 b3 b4 cA cB fA fB e3 e4 fA3 fB4 hG3 hG4 hK hBV hx ox ex m7 e7 ok7 hR E7 fA7 fB7 r1 x8 o8 eW hW b56 ok8 fA8 ro kA kB b7 m16 m16' ok16 e16 m7' b9 fA16
    generalize vo y7=Y7 at *
    generalize vo y16=Y16 at *
    simp (disch:=omega)only[go_sem,vq,AP.f226,wI,wy,kn,go16,go7',d8,l8,lo,d1,d2,g1,g2,nf,nf2]
   obtain⟨e2,s1,s2⟩:=EO (r7:=.aE O7 0) (F:=wk LA LB) fA16 go16 ok16 (by rw[m16'];rfl) (by rw[←hW];exact ro.mono fun i c q=>e16 i c q) (fun e he=>by rw[←hLA];exact(List.mem_filter.1 he).1) (by omega) (wk LA LB) [] rfl
   have s1':Lp AP.A [2,7,10,16,19] AP.f226L0 [(2,.aE h.next 0),(7,.aE O7 0),(10,ov),(16,.aE O16 0),(19,.int .i64 0)] G16=some (.exit 2,e2,G16):=s1
   have b11:aM (aS AP.A) bD (at_ 11 AP.f226.body) [(2,.aE h.next 0),(7,.aE O7 0),(10,ov),(16,.aE O16 0)] G16=some (.normal,[(7,.aE O7 0)],G16):=by
    clear rd hv rw_ hw x2 rdA rdB hvA hvB b0 b1 b2 b3 b4 cA cB fA fB e3 e4 fA3 fB4 hG3 hG4 hK hBV hx ox ex m7 e7 ok7 hR E7 fA7 fB7 r1 x8 o8 eW hW b56 ok8 fA8 ro kA kB b7 m16 m16' ok16 e16 m7' b9 fA16 b10 s1
    simp (disch:=omega)only[go_sem,vq,AP.f226,wI,wy,rV,s1',s2]
   obtain⟨y22,w22,A22,G22,O22,k22,m22,a22,n22,ga22,st22,go22,e22,ok22,f22,l22_,l22'⟩:=yj G16 (by omega) .aQ [] rfl (by show 0<_;omega) ⟨rfl,rfl,fun s q=>by cases q⟩ (fun z hz=>by cases hz) y7 (ok8.mono e16)
   rw[U1,m7',hW,PV cA' cW]at k22
   have b12:aM (aS AP.A) bD (at_ 12 AP.f226.body) [(7,.aE O7 0)] G16=some (.normal,[(23,.bool false),(24,.int .i64 0)],G22):=by
    clear rd hv rw_ hw x2 rdA rdB hvA hvB b0 b1 b2 b3 b4 cA cB fA fB e3 e4 fA3 fB4 hG3 hG4 hK hBV hx ox ex m7 e7 ok7 hR E7 fA7 fB7 r1 x8 o8 eW hW b56 ok8 fA8 ro kA kB b7 m16 m16' ok16 e16 m7' b9 fA16 b10 s1 b11 m22 e22 ok22
    generalize vo vL=Z at *
    generalize vo y7=Y7 at *
    generalize vo y22=Y22 at *
    simp (disch:=omega)only[go_sem,vq,AP.f226,wI,wy,go7',FH,wM,ly,ty,UK,k22,z0,cz,a22,n22,ga22,st22]
   have b13:aM (aS AP.A) bD (FN 13 AP.f226.body) [(23,.bool false),(24,.int .i64 0)] G22=some (.ret,[(4,.bool true)],G22):=by
    clear rd hv rw_ hw x2 rdA rdB hvA hvB b0 b1 b2 b3 b4 cA cB fA fB e3 e4 fA3 fB4 hG3 hG4 hK hBV hx ox ex m7 e7 ok7 hR E7 fA7 fB7 r1 x8 o8 eW hW b56 ok8 fA8 ro kA kB b7 m16 m16' ok16 e16 m7' b9 fA16 b10 s1 b11 m22 e22 ok22 b12
    simp (disch:=omega)only[go_sem,vq,AP.f226,Cy,Cz,kn]
   refine tQ (fn:=AP.f226) (h2:=G22) (e:=[(4,.bool true)]) rfl rfl rfl ?_ rfl rfl
   rw[DO,rI,b0,sD,rI,b1,sD,rI,b2,sD,rI,b3,sD,rI,b4,sD]
   refine Jb b56 (Jb b7 ?_)
   rw[rI,b9,sD,rI,b10,sD,rI,b11,sD,rI,b12,sD]
   exact b13
theorem CE (r:List (Ty×List AV)) (h:r.map (·.1)=[Fz,Fz]) (hp:∀x∈r,Sh reachBytes x.1 x.2):aS AP.A 226 (r.map jW) H.empty=some (.bool true,H.empty):=by
 obtain⟨x,y,rfl,h1,h2⟩:=SU h hp
 obtain⟨v,l,rfl,hv,rd,ok,hl⟩:=Jc h1
 obtain⟨w,m,rfl,hw,rw_,okw,hm⟩:=Jc h2
 exact IZ H.empty v w l m hv hw (by omega) (by omega) (rd _) (rw_ _) (fun x hx=>⟨(ok x hx).2.1 _,(ok x hx).1⟩) (fun x hx=>⟨(okw x hx).2.1 _,(okw x hx).1⟩)
end Ab
