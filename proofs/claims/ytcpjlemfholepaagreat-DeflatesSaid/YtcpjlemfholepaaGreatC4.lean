/- Part C4. -/
import Derived.Test.YtcpjlemfholepaaGreatC3
set_option linter.unusedSimpArgs false
set_option linter.unusedVariables false
set_option maxRecDepth 100000
namespace Ab
open Go
theorem EA {w:Nat}:∀(m:Nat) (h:H) (bs:List Nat) (ov:AV),(bs.length+m)%8=0→m<8→Wr h w bs ov→bs.length+m<1000→
 ∃e' h' ov',Lp AP.A [0] AP.f174L0 [(0,.aD w 0)] h=some (.exit 0,e',h')∧Wr h' w (bs++List.replicate m 0) ov'∧Ej h w ov h' ov'
 | 0, h, bs, ov, hm, h8, wr, hb => by
   have gw:=wr.get
   have c:((bs.length%8:Nat):Int)=0:=by omega
   have rm:bj .rem (.int .i64 (bs.length:Int)) (.int .i64 8)=some (.int .i64 0):=by
    have:=MB (a:=bs.length) (n:=8) (by omega)
    rw[c]at this;exact this
   refine⟨[(0,.aD w 0),(7,.bool false)],h,ov,tM ?_,by simpa using wr,Ej.refl h w ov⟩
   simp (disch:=omega)only[go_sem,vT,AP.f174L0,gw,rm]
 | m + 1, h, bs, ov, hm, h8, wr, hb => by
   have gw:=wr.get
   have rm:bj .rem (.int .i64 (bs.length:Int)) (.int .i64 8)=some (.int .i64 ((bs.length%8:Nat):Int)):=MB (a:=bs.length) (n:=8) (by omega)
   have c:¬((bs.length%8:Nat):Int)=0:=by omega
   obtain⟨h1,o1,k1,wr1,f1⟩:=NA wr (b:=0) (by omega) (by omega)
   have k1':aR AP.A 57 [.aD w 0,.int .i64 0] h=_:=k1
   obtain⟨e',h',ov',r1,r2,r3⟩:=EA m h1 (bs++[0]) o1 (by rw[vI,Ye];omega) (by omega) wr1 (by rw[vI,Ye];omega)
   have e:bs++List.replicate (m+1) 0=bs++[0]++List.replicate m 0:=by rw[List.replicate_succ,XV];rfl
   rw[e]
   refine⟨e',h',ov',tN ?_ r1,r2,f1.trans r3⟩
   clear r1 r2 r3 wr wr1
   generalize ((bs.length%8:Nat):Int)=q at *
   simp (disch:=omega)only[go_sem,vT,AP.f174L0,gw,rm,c,k1']
theorem Ol {h:H} {w:Nat} {bs:List Nat} {ov:AV} (wr:Wr h w bs ov) (m:Nat) (hm:(bs.length+m)%8=0) (h8:m<8) (hb:bs.length+m<1000):
 ∃h' ov',aR AP.A 174 [.aD w 0] h=some (.bM [],h')∧Wr h' w (bs++List.replicate m 0) ov'∧Ej h w ov h' ov':=by
 obtain⟨e',h',ov',r1,r2,r3⟩:=EA m h bs ov hm h8 wr hb
 obtain⟨e2,he⟩:∃e2,aL (aR AP.A) bq AP.f174.body (params 0 [.aD w 0]) h=some (.normal,e2,h'):=by
  refine⟨?_, ?_⟩
  rotate_left
  · simp (disch:=omega)only[go_sem,vT,AP.f174,sG,r1]
    rfl
 exact⟨h',ov',wF (fn:=AP.f174) (e:=e2) (vs:=[]) rfl rfl rfl he rfl,r2,r3⟩
theorem H0 {h:H} (hf:h.floor≤h.next):WX h (h.alloc [.aP,.int .i64 0]) h.next [] .aP:=by
 refine⟨⟨by rw[vZ rfl];rfl,wz.nil,by simpa using hf,by simp;omega,by simp [AV.id?],fun b hb=>by simp [wD,yk]at hb⟩,(Ext.refl _).alloc _,vm _,by simp,fun j hj=>by simp [AV.id?]at hj⟩
def xb (n:Nat):List Nat:=wc 1 3++(List.replicate 5 0++(wc n 16++wc (65535-n) 16))
def xG (s:ByteArray):ByteArray:=bytesOf (wD (xb s.size))++s
theorem Be (s:ByteArray):(xG s).size=s.size+5:=by
 unfold xG
 rw[ByteArray.size_append,xf,yT]
 simp [xb,wc,wm];omega
theorem My (h:H) (s:ByteArray) (hs:s.size≤300):aR AP.A 170 [.str s] h=some (.bM [.str (xG s),.int .i64 0],h):=by
 obtain⟨h1,eh1⟩:∃g,g=h.dN.alloc [.aP,.int .i64 0]:=⟨_,rfl⟩
 have x0:=H0 (h:=h.dN) (by simp)
 rw[←eh1]at x0
 obtain⟨h2,o2,k2,w2,f2⟩:=Aj x0.wr 1 3 (by omega) (by omega) (by simp)
 obtain⟨h3,o3,k3,w3,f3⟩:=Ol w2 5 (by simp [wc,wm]) (by omega) (by simp [wc,wm])
 obtain⟨h4,o4,k4,w4,f4⟩:=Aj w3 s.size 16 (by omega) (by omega) (by simp [wc,wm])
 obtain⟨h5,o5,k5,w5,f5⟩:=Aj w4 (65535-s.size) 16 (by omega) (by omega) (by simp [wc,wm])
 have k6:=H2 w5
 have e:[]++wc 1 3++List.replicate 5 0++wc s.size 16++wc (65535-s.size) 16=xb s.size:=by
  unfold xb;simp only[Yr,XV]
 rw[e]at k6
 have hn:h.dN.next=h.next:=rfl
 have k2':aR AP.A 33 [.aD h.next 0,.int .i64 1,.int .i64 3] h1=some (.int .i64 0,h2):=k2
 have k4':aR AP.A 33 [.aD h.next 0,.int .i64 s.size,.int .i64 16] h3=some (.int .i64 0,h4):=k4
 have k5':aR AP.A 33 [.aD h.next 0,.int .i64 (65535-(s.size:Int)),.int .i64 16] h4=some (.int .i64 0,h5):=by
  have e:((65535-s.size:Nat):Int)=65535-(s.size:Int):=by omega
  rw[e]at k5;exact k5
 have bz:(bytesOf (wD (xb s.size))).size=5:=by
  have:=Be s
  unfold xG at this
  rw[ByteArray.size_append]at this;omega
 have ad:bj .add (.str (bytesOf (wD (xb s.size)))) (.str s)=some (.str (xG s)):=H9 (by omega)
 rw[hn]at k3 k6
 refine uz (fn:=AP.f170) (h2:=h5) (e:=[(2,.str (xG s)),(3,.int .i64 0)]) rfl rfl rfl ?_ rfl rfl
 clear x0 w2 w3 w4 w5 f2 f3 f4 f5 k2 k4 k5 e bz
 generalize bytesOf (wD (xb s.size))=SB at *
 generalize xG s=ST at *
 simp (disch:=omega)only[go_sem,vT,AP.f170,hn,←eh1,k2',k3,k4',k5',k6,ad]
def xM:List Int:=List.replicate 30 5
theorem Ck:wh wy 15=0:=by decide+kernel
theorem Du:wh xM 15=2048:=by decide+kernel
theorem xJ:wy.length=288:=by decide+kernel
theorem zS:∀y∈wy,1≤y∧y<16:=by
 have:wy.all (fun y=>decide (1≤y∧y<16))=true:=by decide+kernel
 intro y hy
 simpa using List.all_eq_true.1 this y hy
theorem II:∀y∈xM,1≤y∧y<16:=fun y hy=>by have:=X7 hy;omega
theorem xS:Dm wy:=⟨by rw[Ck];omega,fun y hy=>by have:=zS y hy;omega⟩
theorem zR:Dm xM:=⟨by rw[Du];omega,fun y hy=>by have:=II y hy;omega⟩
theorem BR {l:List Int} (b:Dm l) (hr:∀y∈l,1≤y∧y<16) {s:Nat} (hs:s<l.length):B9 (vO l) s:=by
 refine HE b.left b.O6 hs ?_
 rw[XN,XQ hs]
 exact(hr _ (X4 hs)).1
theorem Dv {t:Tok} (o:y6 t):HF (vO wy) (vO xM) t:=by
 refine Nz (ts:=[]) o (fun h=> ?_) (fun h=> ?_) (fun h=> ?_)
 · rcases o with ⟨_,b,c⟩|⟨a,_⟩
   · exact BR xS zS (by rw[xJ];omega)
   · omega
 · rcases o with ⟨a,_⟩|⟨a,b,_⟩
   · exact absurd a h
   · have:=zj (k:=t.len.toNat) (by omega) (by omega)
     exact BR xS zS (by rw[xJ];omega)
 · rcases o with ⟨a,_⟩|⟨a,b,c,d⟩
   · exact absurd a h
   · have:=zh (k:=t.wB.toNat) (by omega) (by omega)
     have l:xM.length=30:=by simp [xM]
     exact BR zR II (by rw[l];omega)
def xh (ts:List Tok):List Nat:=wc 3 3++(w9 (vO wy) (vO xM) ts++vY (vO wy) 256)
theorem Ka (h:H) (v:AV) (ts:List Tok) (H4:Ds ts=true) (hn:ts.length≤300) (tok:∀t∈ts,y6 t) (rd:yC 3 h v ts.length (wJ ts)):aR AP.A 171 [v] h=some (.bM [.str (bytesOf (wD (xh ts))),.int .i64 0],h):=by
 have rd0:yC 3 h.dN v ts.length (wJ ts):=rd.mono fun i c q=>q
 have k1:=Ph h.dN v ts (by omega) rd0
 rw[H4]at k1
 obtain⟨h1,eh1⟩:∃g,g=h.dN.alloc [.aP,.int .i64 0]:=⟨_,rfl⟩
 have x0:=H0 (h:=h.dN) (by simp)
 rw[←eh1]at x0
 obtain⟨h2,o2,k2,w2,f2⟩:=Aj x0.wr 3 3 (by omega) (by omega) (by simp)
 have x2:=x0.step w2 f2
 have kf:=IJ h2
 have kc:=CQ h2 (wP wy) wy (by rw[xJ];omega) (by rw[xJ];omega) (yu h2 wy) (.inl (by rw[yF (by rw[xJ];omega) (by rw[xJ];omega) xS.O6 xS.left,if_pos Ck]))
 have k5:=KZ h2
 have l5:xM.length=30:=by simp [xM]
 have kc5:=CQ h2 (wP xM) xM (by omega) (by omega) (yu h2 xM) (.inr (by rw[yF (by omega) (by omega) zR.O6 zR.left,if_neg (by rw[Du];omega)]))
 obtain⟨h3,o3,k3,x3⟩:=Oi (by omega) h.dN rd0 (yI h.dN wy) (yI h.dN xM) (fun t ht=>Dv (tok t ht)) (BR xS zS (by rw[xJ];omega)) h.dN.next _ h2 o2 x2 (by simp [wc,wm];omega)
 have k6:=H2 x3.wr
 have e:[]++wc 3 3++(w9 (vO wy) (vO xM) ts++vY (vO wy) 256)=xh ts:=by unfold xh;rw[Yr]
 rw[e]at k6
 have hn':h.dN.next=h.next:=rfl
 have k2':aR AP.A 33 [.aD h.next 0,.int .i64 3,.int .i64 3] h1=some (.int .i64 0,h2):=k2
 rw[hn']at k3 k6
 change aR AP.A 23 [] h2=some (wP xM,h2)at k5
 refine uz (fn:=AP.f171) (h2:=h3) (e:=[(2,.str (bytesOf (wD (xh ts)))),(3,.int .i64 0)]) rfl rfl rfl ?_ rfl rfl
 clear x0 w2 f2 x2 x3 k2 e rd rd0
 generalize bytesOf (wD (xh ts))=SB at *
 generalize wP wy=I1 at *
 generalize wP xM=I2 at *
 generalize zG wy=C1 at *
 generalize zG xM=C2 at *
 simp (disch:=omega)only[go_sem,vT,AP.f171,hn',k1,←eh1,k2',kf,kc,k5,kc5,k3,k6]
theorem zL {bs:List Nat}:(bytesOf (wD bs)).size=(bs.length+7)/8:=by rw[xf,yT]
def shorter (a b:ByteArray):ByteArray:=if a.size<b.size then a else b
def Ek (s:ByteArray) (la lb Lc:List Int):ByteArray:=bytesOf (wD (wX (tokens s) la lb Lc))
def A6 (s:ByteArray):ByteArray:=bytesOf (wD (xh (tokens s)))
def wL (s:ByteArray) (la lb Lc:List Int):ByteArray:=shorter (Ek s la lb Lc) (shorter (A6 s) (xG s))
theorem CG (s:ByteArray) (hs:s.size≤300):(tokens s).length≤300∧(∀t∈tokens s,y6 t)∧wo 0 (tokens s)=true∧yj (tokens s) []=preB s s.size:=by
 obtain⟨t1,t2,t3,t4⟩:=AY s hs s.size 0 (by omega) (by omega)
 exact⟨by unfold tokens;omega,t2,t3,t4⟩
theorem EU (h:H) (s:ByteArray) (hs:s.size≤300) {KA KB KC:Nat} {la lb Lc:List Int} (ok:Bh (tokens s) KA KB KC la lb Lc):aR AP.A 163 [.str s] h=some (.bM [.str (wL s la lb Lc),.int .i64 0],h):=by
 have k1:=JO h.dN s (by omega)
 rw[if_neg (by omega)]at k1
 obtain⟨t1,t2,t3,t4⟩:=CG s hs
 have rd:yC 3 h.dN (Aw (tokens s)) (tokens s).length (wJ (tokens s)):=Fv (by rw[Ha])
 have k2:=My h.dN s hs
 have k3:=Ka h.dN (Aw (tokens s)) (tokens s) (Cj s hs) t1 t2 rd
 have k4:=J6 h.dN (Aw (tokens s)) (tokens s) KA KB KC la lb Lc ok rd
 change aR AP.A 171 [Aw (tokens s)] h.dN=some (.bM [.str (A6 s),.int .i64 0],h.dN)at k3
 change aR AP.A 13 [Aw (tokens s)] h.dN=some (.bM [.str (Ek s la lb Lc),.int .i64 0],h.dN)at k4
 refine uz (fn:=AP.f163) (h2:=h.dN) (e:=[(2,.str (wL s la lb Lc)),(3,.int .i64 0)]) rfl rfl rfl ?_ rfl rfl
 unfold wL shorter
 clear rd ok t1 t2 t3 t4
 generalize A6 s=F at *
 generalize xG s=S at *
 generalize Ek s la lb Lc=D at *
 by_cases c1:F.size<S.size
 · have c1':(F.size:Int)<S.size:=by omega
   rw[if_pos c1]
   by_cases c2:D.size<F.size
   · have c2':(D.size:Int)<F.size:=by omega
     rw[if_pos c2]
     simp (disch:=omega)only[go_sem,vT,AP.f163,k1,k2,k3,k4,XS c1',XS c2']
   · have c2':¬(D.size:Int)<F.size:=by omega
     rw[if_neg c2]
     simp (disch:=omega)only[go_sem,vT,AP.f163,k1,k2,k3,k4,XS c1',XP c2']
 · have c1':¬(F.size:Int)<S.size:=by omega
   rw[if_neg c1]
   by_cases c2:D.size<S.size
   · have c2':(D.size:Int)<S.size:=by omega
     rw[if_pos c2]
     simp (disch:=omega)only[go_sem,vT,AP.f163,k1,k2,k3,k4,XP c1',XS c2']
   · have c2':¬(D.size:Int)<S.size:=by omega
     rw[if_neg c2]
     simp (disch:=omega)only[go_sem,vT,AP.f163,k1,k2,k3,k4,XP c1',XP c2']
theorem OK (ts:List Tok):∀b∈xh ts,b≤1:=by
 intro b h
 unfold xh at h
 simp only[Ya]at h
 rcases h with h|h|h
 · exact yY _ _ _ b h
 · obtain⟨y,_,hy⟩:=List.mem_flatMap.1 h
   exact Ei _ _ y b hy
 · exact zf _ _ b h
theorem JP {E D : List (Int × Int)} : ∀ T : List Tok, (∀ x ∈ T, HF E D x) → T.length ≤ (w9 E D T).length
 |[],_=>by simp
 | x :: T, h => by
   have:=JP (E:=E) (D:=D) T fun z hz=>h z (by simp [hz])
   have o:=h x (by simp)
   have one:1≤(wH E D x).length:=by
    rcases o with ⟨h1,h2,h3⟩|⟨h1,h2,h3,h4,h5,h6⟩
    · obtain⟨n,v,_,q1,q2,q3,q4⟩:=h3.bits
      rw[wH,if_pos h1,q4,xc];omega
    · obtain⟨n,v,_,q1,q2,q3,q4⟩:=h5.bits
      rw[wH,if_neg (by omega),q4,vI,xc];omega
   unfold w9 at *
   rw[XW,vI,XO];omega
theorem I5 {s:ByteArray} (hs:s.size≤300) {most:Int} (hm1:(s.size:Int)≤most) (hm2:most≤8192):wT (A6 s) most=.ok (preB s s.size,(A6 s).size):=by
 obtain⟨t1,t2,t3,t4⟩:=CG s hs
 have hb:=F9 (xh (tokens s)) (OK _)
 have psz:(A6 s).size=((xh (tokens s)).length+7)/8:=zL
 change Bf (A6 s) 0 (xh (tokens s))at hb
 generalize A6 s=T at *
 have hb':Bf T 0 (wc 3 3++(w9 (vO wy) (vO xM) (tokens s)++vY (vO wy) 256)):=hb
 obtain⟨h1,h2⟩:=hb'.app
 have pl:(wc 3 3).length=3:=rfl
 rw[pl,vr]at h2
 have MK:∀x∈tokens s,HF (vO wy) (vO xM) x:=fun x hx=>Dv (t2 x hx)
 have g:=JP (tokens s) MK
 have h2l:=h2.1
 rw[vI]at h2l
 have cod:=Cg (most:=most) xS zR (BR xS zS (by rw[xJ];omega)) (tokens s) (8* T.size+1) 3 [] h2 MK t3 (by rw[t4,yH];exact hm1) (by omega)
 have fl:3+(w9 (vO wy) (vO xM) (tokens s)++vY (vO wy) 256).length=(xh (tokens s)).length:=by
  unfold xh;rw[@vI _ (wc 3 3),pl]
 rw[fl,t4]at cod
 have v0:vP T 0 1=1:=by
  have b0:=h1.2 0 (by rw[pl];omega)
  have e0:(wc 3 3).getD 0 0=1:=by decide
  rw[e0]at b0
  simp [vP,b0]
 have v1:vP T 1 2=1:=by
  have b1:=h1.2 1 (by rw[pl];omega)
  have b2:=h1.2 2 (by rw[pl];omega)
  have e1:(wc 3 3).getD 1 0=1:=by decide
  have e2:(wc 3 3).getD 2 0=0:=by decide
  rw[e1]at b1
  rw[e2]at b2
  simp only[vr]at b1 b2
  simp [vP,b1,b2]
 have sz:3≤8* T.size:=by have:=h1.1;rw[pl]at this;omega
 unfold wT
 rw[if_neg (by omega)]
 have bl:xC T most 0 []=.ok (true,(xh (tokens s)).length,preB s s.size):=by
  unfold xC
  simp only[vr]
  rw[if_pos sz,v1]
  simp only[Nat.reduceEqDiff,vJ,if_true,reduceIte]
  have cod':xy T most wy (List.replicate 30 5) (8* T.size+1) 3 []=.ok ((xh (tokens s)).length,preB s s.size):=cod
  rw[cod']
  simp [v0]
 rw[wY,bl]
 simp only[if_true,psz]
theorem FB (a b:ByteArray):shorter a b=a∨shorter a b=b:=by
 unfold shorter;split
 · exact .inl rfl
 · exact .inr rfl
theorem MT {g:H} {w id n b:Nat} {P:List Nat} {x:Nat} (hb:b≤1) (hw:g.get w=some [.aE id 0 (n/8+1) 1,.int .i64 n]) (hi:g.get id=some (yM P)) (hl:P.length=n/8+1) (hx:P[n/8]?=some x) (hx8:x<256) (hne:id≠w) (hf:g.floor≤w) (hf2:g.floor≤id) (hn:n<1000000):
 ∃e',aL (aR AP.A) bq (Lv 1 AP.f347.body) [(0,.aD w 0),(1,.int .i64 b)] g=some (.normal,e',(g.set id (yM (P.set (n/8) (x|||b* 2^(n%8))))).set w [.aE id 0 (n/8+1) 1,.int .i64 ((n:Int)+1)]):=by
 have c8:b* 2^(n%8)<256:=by
  have h1:2^(n%8)≤2^7:=XY (by omega) (by omega)
  have h2:b* 2^(n%8)≤1* 2^7:=Yx hb h1
  omega
 have s1:=Ll hb (show n%8<8 by omega)
 have o1:=Ik hx8 c8
 have w1:=Vw (n:=b* 2^(n%8)) c8
 have rm:=MB (a:=n) (n:=8) (by omega)
 have rm':bj .rem (.int .i64 (n:Int)) (.int .i64 8)=some (.int .i64 ((n%8:Nat):Int)):=rm
 have w2:IntKind.wrap .i64 (((n/8+1:Nat):Int)-1)=((n/8:Nat):Int):=by rw[wi (by omega)];omega
 have bl:=MU P
 have gx:=Oy hx
 have st:=Ss P (n/8) (x|||b* 2^(n%8))
 have sgn:((n/8:Nat):Int).toNat=n/8:=by omega
 have gw2:(g.set id (yM (P.set (n/8) (x|||b* 2^(n%8))))).get w=some [.aE id 0 (n/8+1) 1,.int .i64 n]:=by rw[vN (fun q=>hne q.symm),hw]
 generalize yM P=BP at *
 generalize b* 2^(n%8)=Y at *
 generalize (x|||Y)=Z at *
 generalize yM (P.set (n/8) Z)=BZ at *
 refine⟨?_, ?_⟩
 rotate_left
 simp (disch:=first|omega|(simp only[xk,XO,XR,vr,Nat.reduceAdd];first|done|omega|fail)|(simp (disch:=first|omega|(simp only[xk,XO,XR,vr,Nat.reduceAdd];first|done|omega|fail)|fail)only[xk,Bb,XU,XO,XR,vr,Nat.reduceAdd];done)|fail)only[go_sem,vT,Ba,AP.f347,hw,hi,s1,o1,w1,rm',w2,bl,hl,gx,st,sgn,gw2]
 rfl
theorem Pg {h : H} {w b : Nat} {bs : List Nat} {ov : AV} (wr : Wr h w bs ov) (hb : b ≤ 1) (hn : bs.length < 1000000) :
 ∃h' ov',aR AP.A 347 [.aD w 0,.int .i64 b] h=some (.bM [],h')∧Wr h' w (bs++[b]) ov'∧Ej h w ov h' ov':=by
 obtain⟨gw,ow,fl,H5,ne,FW⟩:=wr
 obtain⟨n,en⟩:∃n,n=bs.length:=⟨_,rfl⟩
 rw[←en]at gw hn
 have pl:=yT bs
 rw[←en]at pl
 have pa:=DJ bs b
 rw[←en]at pa
 obtain⟨P,eP⟩:∃P,P=wD bs:=⟨_,rfl⟩
 rw[←eP]at ow FW pa pl
 have wlt:=h.lt _ _ gw
 obtain ⟨g, ov', id, P', x, s1, hw, hi, hl, hx, hid, hne, hf, hf2, hflx, hP, hk, hx8, hids, hbt⟩ : ∃ g ov' id P' x, aL (aR AP.A) bq (at_ 0 AP.f347.body) [(0, .aD w 0), (1, .int .i64 b)] h = some (.normal, [(0, .aD w 0), (1, .int .i64 b)], g) ∧ g.get w = some [.aE id 0 (n / 8 + 1) 1, .int .i64 n] ∧ g.get id = some (yM P') ∧ P'.length = n / 8 + 1 ∧ P'[n / 8]? = some x ∧ ov' = AV.aE id 0 (n / 8 + 1) 1 ∧ id ≠ w ∧ g.floor = h.floor ∧ h.floor ≤ id ∧ h.next ≤ g.next ∧ wZ P n b = P'.set (n / 8) (x ||| b * 2 ^ (n % 8)) ∧ (∀ i, i < h.next → i ≠ w → ov.id? ≠ some i → g.get i = h.get i) ∧ x < 256 ∧ (ov.id? = some id ∨ h.next ≤ id) ∧ JR P' := by
  have rm:bj .rem (.int .i64 (n:Int)) (.int .i64 8)=some (.int .i64 ((n%8:Nat):Int)):=MB (a:=n) (n:=8) (by omega)
  by_cases c:n%8=0
  · have cz:((n%8:Nat):Int)=0:=by omega
    obtain⟨v',h',p1,p2,p3,p4,p5,p6⟩:=ow.push H5 (z:=1) (m:=1) (by omega) (by omega) [.int .u8 0] rfl rfl (xP (by omega))
    have gw1:h'.get w=some [ov,.int .i64 n]:=by rw[p5 w ne wlt,gw]
    have e1:=p2.1
    rcases p2.2 with ⟨_,q⟩|⟨id,q1,q2,q3,q4⟩
    · omega
    · have hk:P.length+1=n/8+1:=by omega
      rw[hk]at q1
      have qid:id=h.next+1:=by rw[q1]at p6;exact u6 p6
      refine⟨h'.set w [v',.int .i64 n],v',id,P++[0],0, ?_, ?_, ?_, ?_, ?_,q1,by omega,by simp [p3],by omega, ?_, ?_, ?_,by omega,.inr (by omega), ?_⟩
      · rw[q1]
        rw[q1]at p1
        have fl':h'.floor≤w:=by omega
        simp (disch:=omega)only[go_sem,vT,AP.f347,xR,gw,gw1,rm,cz,p1,fl',v9,vN]
      · rw[v9 rfl,gw1,q1];rfl
      · rw[vN (by omega),q2,Bl];rfl
      · simp;omega
      · rw[X0 (by omega),show n/8-P.length=0 by omega];rfl
      · simp;omega
      · unfold wZ;rw[if_pos c];dsimp only;rw[XN,X0 (by omega),show n/8-P.length=0 by omega];rfl
      · intro i hi hiw hio
        rw[vN hiw,p5 i hio hi]
      · intro y hy
        rcases Ya.1 hy with q|q
        · exact FW y q
        · simp at q;omega
  · have cz:¬((n%8:Nat):Int)=0:=by omega
    rcases ow.2 with ⟨_,q⟩|⟨id,q1,q2,q3,q4⟩
    · omega
    · have hk:P.length=n/8+1:=by omega
      rw[hk]at q1
      obtain⟨x,hx⟩:∃x,P[n/8]?=some x:=⟨_,XQ (by omega)⟩
      have hneq:id≠w:=fun q=>ne (by rw[q1,q];rfl)
      refine⟨h,ov,id,P,x, ?_,by rw[gw,q1],q2,hk,hx,q1,hneq,rfl,q3,vm _, ?_,fun _ _ _ _=>rfl,FW x (vq hx),.inl (by rw[q1];rfl),FW⟩
      · simp (disch:=first|omega|(simp only[xk,XO,XR,vr,Nat.reduceAdd];first|done|omega|fail)|(simp (disch:=first|omega|(simp only[xk,XO,XR,vr,Nat.reduceAdd];first|done|omega|fail)|fail)only[xk,Bb,XU,XO,XR,vr,Nat.reduceAdd];done)|fail)only[go_sem,vT,Ba,AP.f347,gw,rm,cz]
      · unfold wZ;rw[if_neg c];dsimp only;rw[XN,hx];rfl
 obtain⟨e',s2⟩:=MT hb hw hi hl hx hx8 hne (by omega) (by omega) hn
 have cs:aR AP.A 347 [.aD w 0,.int .i64 b] h=some (.bM [],(g.set id (yM (P'.set (n/8) (x|||b* 2^(n%8))))).set w [.aE id 0 (n/8+1) 1,.int .i64 ((n:Int)+1)]):=by
  refine wF (fn:=AP.f347) (e:=e') (vs:=[]) rfl rfl rfl ?_ rfl
  have hb:AP.f347.body=.seq (at_ 0 AP.f347.body) (Lv 1 AP.f347.body):=rfl
  rw[hb,se]
  have s1':aL (aR AP.A) bq (at_ 0 AP.f347.body) (params 0 [.aD w 0,.int .i64 b]) h=some (.normal,[(0,.aD w 0),(1,.int .i64 b)],g):=s1
  rw[s1',sZ,s2]
 rw[←hP]at cs
 have ol:(wZ P n b).length=n/8+1:=by rw[hP,X6,hl]
 refine⟨_,ov',cs,⟨?_, ?_, ?_, ?_, ?_, ?_⟩, ?_, ?_, ?_, ?_⟩
 · rw[v9 rfl,vN hne.symm,hw,hid,vI,←en];rfl
 · rw[pa,hid]
   exact⟨by simp [yM,ol],.inr ⟨id,by rw[ol],by rw[vN hne,v9 rfl,hi];rfl,by simpa [hf]using hf2,by omega⟩⟩
 · simpa [hf]using fl
 · simp;omega
 · rw[hid];exact fun q=>hne (u6 q)
 · rw[pa];exact BG hb FW
 · simp [hf]
 · simpa using hflx
 · intro i hi1 hi2 hi3
   have:i≠id:=by
    rcases hids with q|q
    · intro q2;exact hi3 (by rw[q,q2])
    · omega
   rw[vN hi2,vN this,hk i hi1 hi2 hi3]
 · intro j hj
   rw[hid]at hj
   obtain rfl:=u6 hj
   exact hids
theorem Nh {h:H} {w:Nat} {ov:AV} {v n up N:Nat} (gw:h.get w=some [ov,.int .i64 N]) (hn:n≤up) (hu:up≤16) (hv:v<2^n) (hb:N+n≤65536):aR AP.A 346 [.aD w 0,.int .i64 v,.int .i64 n,.int .i64 up] h=some (.bool true,h):=by
 have hp:2^n≤2^16:=XY (by omega) (by omega)
 have s1:pF .shl .i64 1 (n:Int)=some (.int .i64 ((2^n:Nat):Int)):=by
  have:=ym (a:=1) (s:=n) (by omega) (by omega)
  rwa [Nat.one_mul]at this
 refine tZ (fn:=AP.f346) (e:=[(8,.bool true)]) (vs:=[.bool true]) rfl rfl rfl ?_ rfl
 have c1:(0:Int)≤(n:Int):=by omega
 have c2:(n:Int)≤(up:Int):=by omega
 have c3:(0:Int)≤(v:Int):=by omega
 have c4:(v:Int)<((2^n:Nat):Int):=by omega
 have c5:(N:Int)+(n:Int)≤65536:=by omega
 generalize 2^n=M at *
 simp (disch:=omega)only[go_sem,vT,AP.f346,s1,gw,c1,c2,c3,c4,c5]
theorem GU (w v n:Nat) (hv:v<65536) (hn:n≤16):∀(m i:Nat) (h:H) (bs:List Nat) (ov:AV),i+m=n→Wr h w bs ov→bs.length+m<1000000→
 ∃e' h' ov',Lp AP.A [0,1,17,18] AP.f335L0 [(0,.aD w 0),(1,.int .i64 v),(17,.int .i64 n),(18,.int .i64 i)] h=some (.exit 1,e',h')∧Wr h' w (bs++Cx v i m) ov'∧Ej h w ov h' ov'
 | 0, i, h, bs, ov, hi, wr, hb => by
   obtain rfl:i=n:=by omega
   refine⟨[(0,.aD w 0),(1,.int .i64 v),(17,.int .i64 i),(18,.int .i64 i),(19,.bool false)],h,ov,tM ?_,by simpa [Cx]using wr,Ej.refl h w ov⟩
   simp (disch:=omega)only[go_sem,vT,AP.f335L0]
 | m + 1, i, h, bs, ov, hi, wr, hb => by
   have q:=Nat.div_le_self v (2^i)
   obtain⟨h1,o1,k1,wr1,f1⟩:=Pg wr (b:=v/2^i%2) (by omega) (by omega)
   obtain⟨e',h',ov',r1,r2,r3⟩:=GU w v n hv hn m (i+1) h1 _ o1 (by omega) wr1 (by simp;omega)
   have n1:((i+1:Nat):Int)=(i:Int)+1:=by omega
   have s1:=Dg (a:=v) (s:=i) (by omega)
   have a1:=CJ (n:=v/2^i) (by omega)
   rw[XV]at r2
   refine⟨e',h',ov',tN ?_ r1,r2,f1.trans r3⟩
   rw[n1]
   simp (disch:=omega)only[go_sem,vT,AP.f335L0,s1,a1,k1]
theorem zI {h:H} {w:Nat} {bs:List Nat} {ov:AV} (wr:Wr h w bs ov) (v n:Nat) (hn:n≤16) (hv:v<2^n) (hb:bs.length+n≤65536):
 ∃h' ov',aR AP.A 335 [.aD w 0,.int .i64 v,.int .i64 n] h=some (.int .i64 0,h')∧Wr h' w (bs++wc v n) ov'∧Ej h w ov h' ov':=by
 have hp:2^n≤2^16:=XY (by omega) hn
 obtain⟨e',h',ov',r1,r2,r3⟩:=GU w v n (by omega) hn n 0 h bs ov (by omega) wr (by omega)
 have r1':Lp AP.A [0,1,17,18] AP.f335L0 [(0,.aD w 0),(1,.int .i64 v),(17,.int .i64 n),(18,.int .i64 0)] h=some (.exit 1,e',h'):=r1
 clear r1
 have k:=Nh (up:=16) wr.get hn (by omega) hv hb
 refine⟨h',ov',tZ (fn:=AP.f335) (e:=[(6,.int .i64 0)]) (vs:=[.int .i64 0]) rfl rfl rfl ?_ rfl,r2,r3⟩
 have k':aR AP.A 346 [.aD w 0,.int .i64 v,.int .i64 n,.int .i64 16] h=some (.bool true,h):=k
 simp (disch:=omega)only[go_sem,vT,AP.f335,sG,r1',k']
theorem Fm (w v:Nat) (A:List AV) (hA:A[1]?=some (.int .i64 v)) (hA2:A.length=2) (c:Nat) (hv:v<65536):∀(m:Nat) (h:H) (bs:List Nat) (ov:AV),m≤15→Wr h w bs ov→bs.length+m<1000000→h.get c=some A→c≠w→ov.id?≠some c→
 ∃e' h' ov',Lp AP.A [0,3,5] AP.f352L0 [(0,.aD w 0),(3,.aD c 0),(5,.int .i64 ((m:Int)-1))] h=some (.exit 1,e',h')∧Wr h' w (bs++yQ v m) ov'∧Ej h w ov h' ov'
 | 0, h, bs, ov, hm, wr, hb, hc, hcw, hco => by
   refine⟨[(0,.aD w 0),(3,.aD c 0),(5,.int .i64 (-1)),(26,.bool false)],h,ov,tM ?_,by simpa [yQ]using wr,Ej.refl h w ov⟩
   simp (disch:=omega)only[go_sem,vT,AP.f352L0]
 | m + 1, h, bs, ov, hm, wr, hb, hc, hcw, hco => by
   have q:=Nat.div_le_self v (2^m)
   obtain⟨h1,o1,k1,wr1,f1⟩:=Pg wr (b:=v/2^m%2) (by omega) (by omega)
   have hcl:=h.lt _ _ hc
   obtain⟨e',h',ov',r1,r2,r3⟩:=Fm w v A hA hA2 c hv m h1 _ o1 (by omega) wr1 (by simp;omega) (by rw[f1.wV c hcl hcw hco,hc]) hcw (fun q=>by
    rcases f1.ids c q with q|q
    · exact hco q
    · omega)
   have n1:((m+1:Nat):Int)-1=(m:Int):=by omega
   have s1:=Dg (a:=v) (s:=m) (by omega)
   have a1:=CJ (n:=v/2^m) (by omega)
   rw[XV]at r2
   refine⟨e',h',ov',tN ?_ r1,r2,f1.trans r3⟩
   rw[n1]
   simp (disch:=omega)only[go_sem,vT,AP.f352L0,s1,a1,k1,hc,hA,hA2]
theorem Ld {h:H} {w:Nat} {bs:List Nat} {ov:AV} (wr:Wr h w bs ov) (v n:Nat) (hn0:1≤n) (hn:n≤15) (hv:v<2^n) (hb:bs.length+n≤65536):
 ∃h' ov',aR AP.A 352 [.aD w 0,.agg [.int .i64 n,.int .i64 v]] h=some (.int .i64 0,h')∧Wr h' w (bs++yQ v n) ov'∧Ej h w ov h' ov':=by
 have hp:2^n≤2^15:=XY (by omega) hn
 obtain⟨g,eg⟩:∃g,g=h.alloc [.int .i64 n,.int .i64 v]:=⟨_,rfl⟩
 have hw:=h.lt _ _ wr.get
 have frA:∀i,i<h.next→g.get i=h.get i:=fun i hi=>by rw[eg,vW (by omega)]
 have wr1:Wr g w bs ov:=⟨by rw[frA w hw,wr.get],wr.own.mono (by rw[eg];simp) (fun i q=>frA i (wr.own.lt q).2),by rw[eg];simpa using wr.fl,by rw[eg];have:=wr.H5;simp;omega,wr.ne,wr.FW⟩
 have gc:g.get h.next=some [.int .i64 n,.int .i64 v]:=by rw[eg,vZ rfl]
 obtain⟨e',h',ov',r1,r2,r3⟩:=Fm w v _ rfl rfl h.next (by omega) n g bs ov hn wr1 (by omega) gc (by omega) (fun q=>by have:=(wr.own.lt q).2;omega)
 have k:aR AP.A 346 [.aD w 0,.int .i64 v,.int .i64 n,.int .i64 15] g=some (.bool true,g):=Nh (up:=15) wr1.get hn (by omega) hv hb
 refine⟨h',ov',tZ (fn:=AP.f352) (e:=[(4,.int .i64 0)]) (vs:=[.int .i64 0]) rfl rfl rfl ?_ rfl,r2,⟨by rw[r3.floor,eg];simp,by have:=r3.next;rw[eg]at this;simp at this;omega,fun i h1 h2 h3=>by rw[r3.wV i (by rw[eg];simp;omega) h2 h3,frA i h1],fun j hj=>by
  rcases r3.ids j hj with q|q
  · exact .inl q
  · rw[eg]at q;simp at q;exact .inr (by omega)⟩⟩
 have c1:¬(n:Int)<1:=by omega
 simp (disch:=omega)only[go_sem,vT,AP.f352,sG,←eg,r1,c1,gc,k]
theorem Lf {h:H} {w:Nat} {bs:List Nat} {ov:AV} (wr:Wr h w bs ov):aR AP.A 336 [.aD w 0] h=some (.str (bytesOf (wD bs)),h):=by
 have gw:=wr.get
 have b:=CK wr.own
 refine tZ (fn:=AP.f336) (e:=[(2,.str (bytesOf (wD bs)))]) (vs:=[.str (bytesOf (wD bs))]) rfl rfl rfl ?_ rfl
 simp (disch:=omega)only[go_sem,vT,AP.f336,gw,b]
theorem Jq (bs : List Nat) : ∀ m : Nat, (bs.length + m) % 8 = 0 → m < 8 → wD (bs ++ List.replicate m 0) = wD bs := by
 have step:∀(k:Nat) (cs:List Nat),k+cs.length%8≤8→(0<k→cs.length%8≠0)→wD (cs++List.replicate k 0)=wD cs:=by
  intro k
  induction k with
  |zero=>intro cs _ _;simp
  | succ k ih =>
    intro cs h1 h2
    have hne:=h2 (by omega)
    have e:cs++List.replicate (k+1) 0=(cs++[0])++List.replicate k 0:=by simp [List.replicate_succ]
    have l1:(cs++[0]).length=cs.length+1:=by simp
    have z:wD (cs++[0])=wD cs:=by
     rw[DJ]
     unfold wZ
     rw[if_neg hne]
     dsimp only
     rw[Nat.zero_mul,Nat.or_zero]
     have hl:=yT cs
     have hlt:cs.length/8<(wD cs).length:=by omega
     rw[XN,XQ hlt]
     exact List.set_getElem_self hlt
    rw[e]
    by_cases c:k=0
    · subst c;simpa using z
    · rw[ih (cs++[0]) (by rw[l1];omega) (fun _=>by rw[l1];omega),z]
 intro m hm h8
 refine step m bs (by omega) (fun h=>by omega)
theorem NJ {h:H} {w:Nat} {bs:List Nat} {ov:AV} (wr:Wr h w bs ov) (m:Nat) (hm:(bs.length+m)%8=0) (h8:m<8) (hb:bs.length+m<1000):
 ∃h',aR AP.A 334 [.aD w 0] h=some (.int .i64 0,h')∧Wr h' w (bs++List.replicate m 0) ov∧Ej h w ov h' ov:=by
 have gw:=wr.get
 have pz:=Jq bs m hm h8
 have pl:=yT bs
 have ln:=wr.own.rd.len
 have e8:(8:Int)* ((wD bs).length:Nat)=((bs.length+m:Nat):Int):=by omega
 have fl:=wr.fl
 refine⟨h.set w [ov,.int .i64 (bs.length+m:Nat)],tZ (fn:=AP.f334) (e:=[(2,.int .i64 0)]) (vs:=[.int .i64 0]) rfl rfl rfl ?_ rfl,⟨by rw[v9 rfl,gw];simp, ?_,by simpa using fl,by simpa using wr.H5,wr.ne,by rw[pz];exact wr.FW⟩,⟨by simp,by simp,fun i _ h2 _=>vN h2,fun j hj=>.inl hj⟩⟩
 · have mb:((bs.length+m:Nat):Int)<1000:=by omega
   generalize ((bs.length+m:Nat):Int)=M at *
   have M0:0≤M:=by omega
   clear pz
   simp (disch:=omega)only[go_sem,vT,AP.f334,gw,ln,e8,fl]
 · rw[pz];exact wr.own.mono (by simp) fun j hj=>vN (fun q=>wr.ne (by rw[hj,q]))
theorem KL {h:H} (hf:h.floor=h.next) (k:Nat) (hk:k<4):∃h' ov',aR AP.A 333 [.int .i64 k] h=some (.aD h.next 0,h')∧WX h h' h.next (wc 1 1++wc k 2) ov'∧h'.floor=h.floor:=by
 have x0:=H0 (h:=h) (by omega)
 obtain⟨h1,o1,k1,w1,f1⟩:=zI x0.wr 1 1 (by omega) (by omega) (by simp)
 have x1:=x0.step w1 f1
 obtain⟨h2,o2,k2,w2,f2⟩:=zI x1.wr k 2 (by omega) (by omega) (by simp [wc,wm])
 have x2:=x1.step w2 f2
 have kn:aR AP.A 345 [] h=some (.aD h.next 0,h.alloc [.aP,.int .i64 0]):=by
  refine tZ (fn:=AP.f345) (e:=[(0,.aD h.next 0)]) (vs:=[.aD h.next 0]) rfl rfl rfl ?_ rfl
  simp (disch:=omega)only[go_sem,vT,AP.f345]
 refine⟨h2,o2,tZ (fn:=AP.f333) (e:=[(2,.aD h.next 0)]) (vs:=[.aD h.next 0]) rfl rfl rfl ?_ rfl, ?_,by rw[f2.floor,f1.floor];simp⟩
 · clear x0 x1 x2
   have k1':aR AP.A 335 [.aD h.next 0,.int .i64 1,.int .i64 1] (h.alloc [.aP,.int .i64 0])=some (.int .i64 0,h1):=k1
   have k2':aR AP.A 335 [.aD h.next 0,.int .i64 k,.int .i64 2] h1=some (.int .i64 0,h2):=k2
   simp (disch:=omega)only[go_sem,vT,AP.f333,kn,k1',k2']
 · simpa using x2
theorem QL {F:Nat→Option (Nat×Nat)} {k to:Nat} (h:wk (F to)≤k):zr F k to=to:=by
 cases to with
 |zero=>rfl
 |succ t=>rw[zr,if_pos h]
theorem GB {F : Nat → Option (Nat × Nat)} {fk : Nat} (hF : ∀ (g : H) (s : Nat), s < 1000000 → aR AP.A fk [.int .i64 s] g = some (zO (F s), g)) (k to : Nat) (hk : k < 1000000) (hto : to < 1000) (hl : wk (F to) ≤ k) (g : H) (id : Nat) (hf : g.floor ≤ id) (hg : g.get id = some [.int .i64 0, .int .i64 0, .int .i64 0]) : ∀ n : Nat, n < 1000 → (∀ s, to ≤ s → s ≤ to + n → ∃ a b, F s = some (a, b) ∧ a < 1000000) →
 (zr F k (to+n)=to∧Lp AP.A [0,2,3,8,9] AP.f361L0 [(0,.int .i64 k),(2,.int .i64 to),(3,.fn fk [] []),(8,.aD id 0),(9,.int .i64 (to+n:Nat))] g=some (.exit 0,[(0,.int .i64 k),(2,.int .i64 to),(3,.fn fk [] []),(8,.aD id 0),(9,.int .i64 to),(16,.bool false)],g))∨
 (zr F k (to+n)≠to∧Lp AP.A [0,2,3,8,9] AP.f361L0 [(0,.int .i64 k),(2,.int .i64 to),(3,.fn fk [] []),(8,.aD id 0),(9,.int .i64 (to+n:Nat))] g=some (.ret,[(8,.aD id 0)],g.set id [.int .i64 (zr F k (to+n):Nat),.int .i64 (xq (F (zr F k (to+n))):Nat),.int .i64 ((k-wk (F (zr F k (to+n))):Nat):Int)]))
 | 0, _, _ => by
   refine .inl ⟨QL hl,tM ?_⟩
   simp (disch:=omega)only[go_sem,vT,AP.f361L0]
 | n + 1, hn, hs => by
   obtain⟨a,b,hab,ha⟩:=hs (to+(n+1)) (by omega) (by omega)
   have kk:=fun g=>hF g (to+(n+1)) (by omega)
   rw[hab]at kk
   simp only[I,zO]at kk
   have la:wk (F (to+(n+1)))=a:=by rw[hab];rfl
   have lb:xq (F (to+(n+1)))=b:=by rw[hab];rfl
   have c0:(to:Int)<((to+(n+1):Nat):Int):=by omega
   have ed:zr F k (to+(n+1))=if a≤k then to+(n+1)else zr F k (to+n):=by rw[←vk,zr,←la];rfl
   by_cases c1:a≤k
   · rw[if_pos c1]at ed
     rw[ed,la,lb]
     refine .inr ⟨by omega,uh ?_⟩
     have n1:((k-a:Nat):Int)=(k:Int)-(a:Int):=by omega
     have c2:(a:Int)≤(k:Int):=by omega
     have sb:((to+(n+1):Nat):Int)<1000000:=by omega
     rw[n1]
     generalize ((to+(n+1):Nat):Int)=s at *
     clear hs hF
     simp (disch:=first|omega|(simp only[xk,XO,XR,vr,Nat.reduceAdd];first|done|omega|fail)|(simp (disch:=first|omega|(simp only[xk,XO,XR,vr,Nat.reduceAdd];first|done|omega|fail)|fail)only[xk,Bb,XU,XO,XR,vr,Nat.reduceAdd];done)|fail)only[go_sem,vT,Ba,AP.f361L0,c0,kk,c2,hg]
   · rw[if_neg c1]at ed
     rw[ed]
     have n1:((to+(n+1):Nat):Int)-1=((to+n:Nat):Int):=by omega
     have c2:¬(a:Int)≤(k:Int):=by omega
     have st:aL (aR AP.A) bq AP.f361L0 (ay [(0,.int .i64 k),(2,.int .i64 to),(3,.fn fk [] []),(8,.aD id 0),(9,.int .i64 (to+(n+1):Nat))] [0,2,3,8,9]) g=some (.normal,[(0,.int .i64 k),(2,.int .i64 to),(3,.fn fk [] []),(8,.aD id 0),(9,.int .i64 (to+n:Nat))],g):=by
      rw[←n1]
      have sb:((to+(n+1):Nat):Int)<1000000:=by omega
      have sb0:0≤((to+(n+1):Nat):Int):=by omega
      clear n1
      generalize ((to+(n+1):Nat):Int)=s at *
      clear hs hF
      simp (disch:=first|omega|(simp only[xk,XO,XR,vr,Nat.reduceAdd];first|done|omega|fail)|(simp (disch:=first|omega|(simp only[xk,XO,XR,vr,Nat.reduceAdd];first|done|omega|fail)|fail)only[xk,Bb,XU,XO,XR,vr,Nat.reduceAdd];done)|fail)only[go_sem,vT,Ba,AP.f361L0,c0,kk,c2,hg]
     rcases GB hF k to hk hto hl g id hf hg n (by omega) (fun s h1 h2=>hs s h1 (by omega))with ⟨e,L⟩|⟨e,L⟩
     · exact .inl ⟨e,tN st L⟩
     · exact .inr ⟨e,tN st L⟩
theorem Nu {F:Nat→Option (Nat×Nat)} {fk:Nat} (hF:∀(g:H) (s:Nat),s<1000000→aR AP.A fk [.int .i64 s] g=some (zO (F s),g)) (k to n:Nat) (hk:k<1000000) (hto:to<1000) (hl:wk (F to)≤k) (hn:n<1000) (hs:∀s,to≤s→s≤to+n→∃a b,F s=some (a,b)∧a<1000000) (hz:zr F k (to+n)=to→xq (F to)=0∧k=wk (F to)) (h:H):
 aR AP.A 361 [.int .i64 k,.int .i64 (to+n:Nat),.int .i64 to,.fn fk [] []] h=some (.agg [.int .i64 (zr F k (to+n):Nat),.int .i64 (xq (F (zr F k (to+n))):Nat),.int .i64 ((k-wk (F (zr F k (to+n))):Nat):Int)],h):=by
 rcases GB hF k to hk hto hl (h.dN.alloc [.int .i64 0,.int .i64 0,.int .i64 0]) h.next (by simp) (by rw[vZ (by simp)]) n hn hs with ⟨e,L⟩|⟨e,L⟩
 · obtain⟨z1,z2⟩:=hz e
   rw[e,z1,←z2,YB]
   refine uz (fn:=AP.f361) (h2:=(h.dN.alloc [.int .i64 0,.int .i64 0,.int .i64 0]).set h.next [.int .i64 to,.int .i64 0,.int .i64 0]) (e:=[(8,.aD h.next 0)]) (vs:=[.agg [.int .i64 to,.int .i64 0,.int .i64 0]]) rfl rfl rfl ?_ ?_ ?_
   · clear hs hF
     simp (disch:=first|omega|(simp only[xk,XO,XR,vr,Nat.reduceAdd];first|done|omega|fail)|(simp (disch:=first|omega|(simp only[xk,XO,XR,vr,Nat.reduceAdd];first|done|omega|fail)|fail)only[xk,Bb,XU,XO,XR,vr,Nat.reduceAdd];done)|fail)only[go_sem,vT,Ba,AP.f361,sG,L]
   · simp (disch:=first|omega|(simp only[xk,XO,XR,vr,Nat.reduceAdd];first|done|omega|fail)|(simp (disch:=first|omega|(simp only[xk,XO,XR,vr,Nat.reduceAdd];first|done|omega|fail)|fail)only[xk,Bb,XU,XO,XR,vr,Nat.reduceAdd];done)|fail)only[go_sem,vT,Ba,AP.f361,cw,nC];rfl
   · rfl
 · generalize zr F k (to+n)=S at *
   generalize xq (F S)=B at *
   generalize k-wk (F S)=V at *
   refine uz (fn:=AP.f361) (h2:=(h.dN.alloc [.int .i64 0,.int .i64 0,.int .i64 0]).set h.next [.int .i64 S,.int .i64 B,.int .i64 V]) (e:=[(8,.aD h.next 0)]) (vs:=[.agg [.int .i64 S,.int .i64 B,.int .i64 V]]) rfl rfl rfl ?_ ?_ ?_
   · clear hs hF
     simp (disch:=first|omega|(simp only[xk,XO,XR,vr,Nat.reduceAdd];first|done|omega|fail)|(simp (disch:=first|omega|(simp only[xk,XO,XR,vr,Nat.reduceAdd];first|done|omega|fail)|fail)only[xk,Bb,XU,XO,XR,vr,Nat.reduceAdd];done)|fail)only[go_sem,vT,Ba,AP.f361,sG,L]
   · simp (disch:=first|omega|(simp only[xk,XO,XR,vr,Nat.reduceAdd];first|done|omega|fail)|(simp (disch:=first|omega|(simp only[xk,XO,XR,vr,Nat.reduceAdd];first|done|omega|fail)|fail)only[xk,Bb,XU,XO,XR,vr,Nat.reduceAdd];done)|fail)only[go_sem,vT,Ba,AP.f361,cw,nC];rfl
   · rfl
theorem R6 (h:H) (k:Nat) (h1:3≤k) (h2:k≤258):aR AP.A 355 [.int .i64 k] h=some (.bM [.agg [.int .i64 (xF k:Nat),.int .i64 (za k:Nat),.int .i64 (zC k:Nat)],.int .i64 0],h):=by
 by_cases c:k=258
 · subst c
   have e1:xF 258=285:=by decide
   have e2:za 258=0:=by decide
   have e3:zC 258=0:=by decide
   rw[e1,e2,e3]
   refine uz (fn:=AP.f355) (h2:=(h.dN.alloc [.int .i64 0,.int .i64 0,.int .i64 0]).set h.next [.int .i64 285,.int .i64 0,.int .i64 0]) (e:=[(2,.aD h.next 0),(3,.int .i64 0)]) (vs:=[.agg [.int .i64 285,.int .i64 0,.int .i64 0],.int .i64 0]) rfl rfl rfl ?_ ?_ ?_
   · have a1:¬((258:Nat):Int)<3:=by omega
     have a2:¬(258:Int)<((258:Nat):Int):=by omega
     have a3:(((258:Nat):Int)==258)=true:=by decide
     generalize ((258:Nat):Int)=K at *
     simp (disch:=first|omega|(simp only[xk,XO,XR,vr,Nat.reduceAdd];first|done|omega|fail)|(simp (disch:=first|omega|(simp only[xk,XO,XR,vr,Nat.reduceAdd];first|done|omega|fail)|fail)only[xk,Bb,XU,XO,XR,vr,Nat.reduceAdd];done)|fail)only[go_sem,vT,Ba,AP.f355,a1,a2,a3]
   · simp (disch:=first|omega|(simp only[xk,XO,XR,vr,Nat.reduceAdd];first|done|omega|fail)|(simp (disch:=first|omega|(simp only[xk,XO,XR,vr,Nat.reduceAdd];first|done|omega|fail)|fail)only[xk,Bb,XU,XO,XR,vr,Nat.reduceAdd];done)|fail)only[go_sem,vT,Ba,AP.f355,cw,nC];rfl
   · rfl
 · have e:zr lenOf k 285=zr lenOf k 284:=by
    rw[zr,if_neg]
    have:wk (lenOf (284+1))=258:=rfl
    omega
   have sp:=zj h1 h2
   have hz:zr lenOf k (257+27)=257→xq (lenOf 257)=0∧k=wk (lenOf 257):=fun q=>by
    have q':xF k=257:=e.trans q
    rw[q']at sp
    have b1:xq (lenOf 257)=0:=rfl
    have l1:wk (lenOf 257)=3:=rfl
    rw[l1,b1]at sp
    exact⟨rfl,by rw[l1];omega⟩
   have r:=Nu (F:=lenOf) (fk:=74) (fun g s hs=>K6 g s hs) k 257 27 (by omega) (by omega) (show wk (lenOf 257)≤k from h1) (by omega) (fun s q1 q2=>by
    obtain⟨a,b,hab⟩:=A9 q1 (by omega)
    have:=BB hab
    exact⟨a,b,hab,by omega⟩) hz (h.dN.alloc [.int .i64 0,.int .i64 0,.int .i64 0])
   have el:zr lenOf k (257+27)=xF k:=e.symm
   rw[el]at r
   have r':aR AP.A 361 [.int .i64 k,.int .i64 284,.int .i64 257,.fn 74 [] []] (h.dN.alloc [.int .i64 0,.int .i64 0,.int .i64 0])=some (.agg [.int .i64 (xF k:Nat),.int .i64 (za k:Nat),.int .i64 (zC k:Nat)],h.dN.alloc [.int .i64 0,.int .i64 0,.int .i64 0]):=r
   clear r
   generalize xF k=S at *
   generalize za k=B at *
   generalize zC k=V at *
   refine uz (fn:=AP.f355) (h2:=(h.dN.alloc [.int .i64 0,.int .i64 0,.int .i64 0]).set h.next [.int .i64 S,.int .i64 B,.int .i64 V]) (e:=[(2,.aD h.next 0),(3,.int .i64 0)]) (vs:=[.agg [.int .i64 S,.int .i64 B,.int .i64 V],.int .i64 0]) rfl rfl rfl ?_ ?_ ?_
   · have a1:¬(k:Int)<3:=by omega
     have a2:¬(258:Int)<(k:Int):=by omega
     have a3:((k:Int)==258)=false:=by simp;omega
     clear sp hz
     simp (disch:=first|omega|(simp only[xk,XO,XR,vr,Nat.reduceAdd];first|done|omega|fail)|(simp (disch:=first|omega|(simp only[xk,XO,XR,vr,Nat.reduceAdd];first|done|omega|fail)|fail)only[xk,Bb,XU,XO,XR,vr,Nat.reduceAdd];done)|fail)only[go_sem,vT,Ba,AP.f355,a1,a2,a3,r']
   · simp (disch:=first|omega|(simp only[xk,XO,XR,vr,Nat.reduceAdd];first|done|omega|fail)|(simp (disch:=first|omega|(simp only[xk,XO,XR,vr,Nat.reduceAdd];first|done|omega|fail)|fail)only[xk,Bb,XU,XO,XR,vr,Nat.reduceAdd];done)|fail)only[go_sem,vT,Ba,AP.f355,cw,nC];rfl
   · rfl
theorem O4 (h:H) (k:Nat) (h1:1≤k) (h2:k≤32768):aR AP.A 356 [.int .i64 k] h=some (.bM [.agg [.int .i64 (xN k:Nat),.int .i64 (zg k:Nat),.int .i64 (zH k:Nat)],.int .i64 0],h):=by
 have sp:=zh h1 h2
 have hz:zr wu k (0+29)=0→xq (wu 0)=0∧k=wk (wu 0):=fun q=>by
  have q':xN k=0:=q
  rw[q']at sp
  have b1:xq (wu 0)=0:=rfl
  have l1:wk (wu 0)=1:=rfl
  rw[l1,b1]at sp
  exact⟨rfl,by rw[l1];omega⟩
 have r:=Nu (F:=wu) (fk:=75) (fun g s hs=>IB g s hs) k 0 29 (by omega) (by omega) (show wk (wu 0)≤k from h1) (by omega) (fun s q1 q2=>by
  obtain⟨a,b,hab⟩:=Ar (s:=s) (by omega)
  have:=AG hab
  exact⟨a,b,hab,by omega⟩) hz (h.dN.alloc [.int .i64 0,.int .i64 0,.int .i64 0])
 have r':aR AP.A 361 [.int .i64 k,.int .i64 29,.int .i64 0,.fn 75 [] []] (h.dN.alloc [.int .i64 0,.int .i64 0,.int .i64 0])=some (.agg [.int .i64 (xN k:Nat),.int .i64 (zg k:Nat),.int .i64 (zH k:Nat)],h.dN.alloc [.int .i64 0,.int .i64 0,.int .i64 0]):=r
 clear r
 generalize xN k=S at *
 generalize zg k=B at *
 generalize zH k=V at *
 refine uz (fn:=AP.f356) (h2:=(h.dN.alloc [.int .i64 0,.int .i64 0,.int .i64 0]).set h.next [.int .i64 S,.int .i64 B,.int .i64 V]) (e:=[(2,.aD h.next 0),(3,.int .i64 0)]) (vs:=[.agg [.int .i64 S,.int .i64 B,.int .i64 V],.int .i64 0]) rfl rfl rfl ?_ ?_ ?_
 · have a1:¬(k:Int)<1:=by omega
   have a2:¬(32768:Int)<(k:Int):=by omega
   clear sp hz
   simp (disch:=first|omega|(simp only[xk,XO,XR,vr,Nat.reduceAdd];first|done|omega|fail)|(simp (disch:=first|omega|(simp only[xk,XO,XR,vr,Nat.reduceAdd];first|done|omega|fail)|fail)only[xk,Bb,XU,XO,XR,vr,Nat.reduceAdd];done)|fail)only[go_sem,vT,Ba,AP.f356,a1,a2,r']
 · simp (disch:=first|omega|(simp only[xk,XO,XR,vr,Nat.reduceAdd];first|done|omega|fail)|(simp (disch:=first|omega|(simp only[xk,XO,XR,vr,Nat.reduceAdd];first|done|omega|fail)|fail)only[xk,Bb,XU,XO,XR,vr,Nat.reduceAdd];done)|fail)only[go_sem,vT,Ba,AP.f356,cw,nC];rfl
 · rfl
theorem JL (h:H) (x d:Int):aR AP.A 349 [.agg [.int .i64 x,.int .i64 0,.int .i64 d]] h=some (.bM [.agg [.int .i64 x,.int .i64 0,.int .i64 0],.agg [.int .i64 0,.int .i64 0,.int .i64 0],.bool false],h):=by
 refine uz (fn:=AP.f349) (h2:=(((((h.dN.alloc [.int .i64 x,.int .i64 0,.int .i64 d]).alloc [.int .i64 0,.int .i64 0,.int .i64 0]).alloc [.int .i64 0,.int .i64 0,.int .i64 0]).set (h.next+1) [.int .i64 x,.int .i64 0,.int .i64 0]).set (h.next+2) [.int .i64 0,.int .i64 0,.int .i64 0])) (e:=[(2,.aD (h.next+1) 0),(3,.aD (h.next+2) 0),(4,.bool false)]) (vs:=[.agg [.int .i64 x,.int .i64 0,.int .i64 0],.agg [.int .i64 0,.int .i64 0,.int .i64 0],.bool false]) rfl rfl rfl ?_ ?_ ?_
 · simp (disch:=first|omega|(simp only[xk,XO,XR,vr,Nat.reduceAdd];first|done|omega|fail)|(simp (disch:=first|omega|(simp only[xk,XO,XR,vr,Nat.reduceAdd];first|done|omega|fail)|fail)only[xk,Bb,XU,XO,XR,vr,Nat.reduceAdd];done)|fail)only[go_sem,vT,Ba,AP.f349]
 · simp (disch:=first|omega|(simp only[xk,XO,XR,vr,Nat.reduceAdd];first|done|omega|fail)|(simp (disch:=first|omega|(simp only[xk,XO,XR,vr,Nat.reduceAdd];first|done|omega|fail)|fail)only[xk,Bb,XU,XO,XR,vr,Nat.reduceAdd];done)|fail)only[go_sem,vT,Ba,AP.f349,cw,nC];rfl
 · rfl
theorem G7 (h:H) (k d:Nat) (h1:3≤k) (h2:k≤258) (d1:1≤d) (d2:d≤32768):aR AP.A 349 [.agg [.int .i64 0,.int .i64 k,.int .i64 d]] h=some (.bM [.agg [.int .i64 (xF k:Nat),.int .i64 (za k:Nat),.int .i64 (zC k:Nat)],.agg [.int .i64 (xN d:Nat),.int .i64 (zg d:Nat),.int .i64 (zH d:Nat)],.bool true],h):=by
 have k1:=fun g=>R6 g k h1 h2
 have k2:=fun g=>O4 g d d1 d2
 have c0:((k:Int)==0)=false:=by simp;omega
 generalize xF k=S at *
 generalize za k=B at *
 generalize zC k=V at *
 generalize xN d=S' at *
 generalize zg d=B' at *
 generalize zH d=V' at *
 obtain⟨g,eg⟩:∃g,g=((((((((h.dN.alloc [.int .i64 0,.int .i64 k,.int .i64 d]).alloc [.int .i64 0,.int .i64 0,.int .i64 0]).alloc [.int .i64 0,.int .i64 0,.int .i64 0]).alloc [.int .i64 0,.int .i64 0,.int .i64 0]).set (h.next+3) [.int .i64 S,.int .i64 B,.int .i64 V]).alloc [.int .i64 0,.int .i64 0,.int .i64 0]).set (h.next+4) [.int .i64 S',.int .i64 B',.int .i64 V']).set (h.next+1) [.int .i64 S,.int .i64 B,.int .i64 V]).set (h.next+2) [.int .i64 S',.int .i64 B',.int .i64 V']:=⟨_,rfl⟩
 refine uz (fn:=AP.f349) (h2:=g) (e:=[(2,.aD (h.next+1) 0),(3,.aD (h.next+2) 0),(4,.bool true)]) (vs:=[.agg [.int .i64 S,.int .i64 B,.int .i64 V],.agg [.int .i64 S',.int .i64 B',.int .i64 V'],.bool true]) rfl rfl rfl ?_ ?_ ?_
 · rw[eg]
   simp (disch:=first|omega|(simp only[xk,XO,XR,vr,Nat.reduceAdd];first|done|omega|fail)|(simp (disch:=first|omega|(simp only[xk,XO,XR,vr,Nat.reduceAdd];first|done|omega|fail)|fail)only[xk,Bb,XU,XO,XR,vr,Nat.reduceAdd];done)|fail)only[go_sem,vT,Ba,AP.f349,c0,k1,k2]
 · rw[eg]
   simp (disch:=first|omega|(simp only[xk,XO,XR,vr,Nat.reduceAdd];first|done|omega|fail)|(simp (disch:=first|omega|(simp only[xk,XO,XR,vr,Nat.reduceAdd];first|done|omega|fail)|fail)only[xk,Bb,XU,XO,XR,vr,Nat.reduceAdd];done)|fail)only[go_sem,vT,Ba,AP.f349,cw,nC];rfl
 · rfl
theorem Ky {h0 h:H} {w:Nat} {bs:List Nat} {ov lv:AV} {E:List (Int×Int)} (rl:yC 2 h0 lv E.length (E.flatMap wU)) (x:WX h0 h w bs ov) (s b v:Nat) (o:B9 E s) (hb:b≤16) (hv:v<2^b) (hl:bs.length+31≤65536):
 ∃h' ov',aR AP.A 350 [.aD w 0,lv,.agg [.int .i64 s,.int .i64 b,.int .i64 v]] h=some (.bM [],h')∧WX h0 h' w (bs++(vY E s++wc v b)) ov'∧h.next≤h'.next∧(∀i,i<h.next→i≠w→ov.id?≠some i→h'.get i=h.get i)∧(∀j,ov'.id?=some j→ov.id?=some j∨h.next≤j):=by
 obtain⟨g,eg⟩:∃g,g=h.alloc [.int .i64 s,.int .i64 b,.int .i64 v]:=⟨_,rfl⟩
 have x1:WX h0 g w bs ov:=x.turn (by rw[eg];simp) (by rw[eg];simp) fun i hi=>by rw[eg,vW (by omega)]
 have gg:g.get h.next=some [.int .i64 s,.int .i64 b,.int .i64 v]:=by rw[eg,vZ rfl]
 have hw:=h.lt _ _ x.wr.get
 have hon:ov.id?≠some h.next:=fun q=>by have:=(x.wr.own.lt q).2;omega
 obtain⟨le,l1,l2⟩:=rl.GP
 obtain⟨n,c,q0,q1,q2,q3,q4⟩:=o.bits
 have e1:=l1 s ⟨by omega,by have:=o.lt;omega⟩
 have e2:=l2 g x1.ext _ _ q0
 obtain⟨h2,o2,k1,k2,k3⟩:=Ld x1.wr c n q1 q2 q3 (by omega)
 have x2:=x1.step k2 k3
 have g2:h2.get h.next=some [.int .i64 s,.int .i64 b,.int .i64 v]:=(k3.wV h.next (by rw[eg];simp) (by omega) hon).trans gg
 obtain⟨h3,o3,k4,k5,k6⟩:=zI x2.wr v b hb hv (by simp [xc];omega)
 have x3:=x2.step k5 k6
 refine⟨h3,o3,wF (fn:=AP.f350) (e:=[]) (vs:=[]) rfl rfl rfl ?_ rfl,by rw[q4,←XV];exact x3, ?_,fun i hi hiw hio=> ?_,fun j hj=> ?_⟩
 · clear rl l1 l2 x x1 x2 x3 k2 k3 k5 k6 q4
   simp (disch:=omega)only[go_sem,vT,AP.f350,←eg,gg,e1,e2,k1,g2,k4]
 · have a1:=k3.next
   have a2:=k6.next
   rw[eg]at a1;simp at a1;omega
 · have a1:=k3.next
   have e:g.get i=h.get i:=by rw[eg,vW (by omega)]
   have gn:g.next=h.next+1:=by rw[eg];simp
   rw[k6.wV i (by omega) hiw (fun q=>by
    rcases k3.ids i q with z|z
    · exact hio z
    · omega),k3.wV i (by omega) hiw hio,e]
 · have gn:g.next=h.next+1:=by rw[eg];simp
   rcases k6.ids j hj with z|z
   · rcases k3.ids j z with y|y
     · exact .inl y
     · exact .inr (by omega)
   · have:=k3.next;exact .inr (by omega)
theorem Mu {v lv dv:AV} {ts:List Tok} {E D:List (Int×Int)} (hn:ts.length<1000000) (h0:H) (rd:yC 3 h0 v ts.length (wJ ts)) (rl:yC 2 h0 lv E.length (E.flatMap wU)) (rx:yC 2 h0 dv D.length (D.flatMap wU)) (w i:Nat) (t:Tok) (ht:ts[i]?=some t) (o:HF E D t) (tk:y6 t) (tl:t.len≠0→t.lit=0) (h:H) (bs:List Nat) (ov:AV) (x:WX h0 h w bs ov) (hb:bs.length+48≤65000):
 ∃h' ov',aL (aR AP.A) bq AP.f339L0 (ay [(0,.aD w 0),(2,lv),(3,dv),(14,v),(15,.int .i64 ts.length),(16,.int .i64 i)] [0,2,3,14,15,16]) h=some (.normal,[(0,.aD w 0),(2,lv),(3,dv),(14,v),(15,.int .i64 ts.length),(16,.int .i64 (i+1:Nat))],h')∧WX h0 h' w (bs++wH E D t) ov':=by
 obtain⟨ad,a1,a2,a3⟩:=rd.HZ
 have hi:i<ts.length:=(vh.1 ht).1
 have hI:(0:Int)≤(i:Int)∧(i:Int)<ts.length:=⟨by omega,by omega⟩
 have b1:=a1 _ hI
 obtain⟨_,_,_,b2⟩:=a3 h x.ext _ _ ht
 have n1:((i+1:Nat):Int)=(i:Int)+1:=by omega
 have ci:(i:Int)<(ts.length:Int):=hI.2
 have step:∀(S B V S' B' V':Nat) (cp:Bool),(∀g:H,aR AP.A 349 [.agg [.int .i64 t.lit,.int .i64 t.len,.int .i64 t.wB]] g=some (.bM [.agg [.int .i64 S,.int .i64 B,.int .i64 V],.agg [.int .i64 S',.int .i64 B',.int .i64 V'],.bool cp],g))→B9 E S→B≤5→V<2^B→(cp=true→B9 D S'∧B'≤13∧V'<2^B')→
  ∃h' ov',aL (aR AP.A) bq AP.f339L0 (ay [(0,.aD w 0),(2,lv),(3,dv),(14,v),(15,.int .i64 ts.length),(16,.int .i64 i)] [0,2,3,14,15,16]) h=some (.normal,[(0,.aD w 0),(2,lv),(3,dv),(14,v),(15,.int .i64 ts.length),(16,.int .i64 (i+1:Nat))],h')∧WX h0 h' w (bs++((vY E S++wc V B)++if cp=true then vY D S'++wc V' B' else [])) ov':=by
  intro S B V S' B' V' cp ks oS hB hV hcp
  obtain⟨g1,eg1⟩:∃g,g=(h.alloc [.int .i64 0,.int .i64 0,.int .i64 0]).set h.next [.int .i64 t.lit,.int .i64 t.len,.int .i64 t.wB]:=⟨_,rfl⟩
  obtain⟨g2,eg2⟩:∃g,g=(((g1.alloc [.int .i64 0,.int .i64 0,.int .i64 0]).alloc [.int .i64 0,.int .i64 0,.int .i64 0]).set g1.next [.int .i64 S,.int .i64 B,.int .i64 V]).set (g1.next+1) [.int .i64 S',.int .i64 B',.int .i64 V']:=⟨_,rfl⟩
  have n1':g1.next=h.next+1:=by rw[eg1];simp
  have n2':g2.next=h.next+3:=by rw[eg2];simp;omega
  have fl1:h.floor≤h.next:=x.wr.H5
  have flg:g1.floor≤g1.next:=by rw[n1',eg1];simp;omega
  have gt1:g1.get h.next=some [.int .i64 t.lit,.int .i64 t.len,.int .i64 t.wB]:=by rw[eg1,v9 rfl,vZ rfl];rfl
  have gk1:∀j,j<h.next→g1.get j=h.get j:=fun j hj=>by rw[eg1,vN (by omega),vW (by omega)]
  have gk2:∀j,j<h.next→g2.get j=h.get j:=fun j hj=>by rw[eg2,vN (by omega),vN (by omega),vW (by simp;omega),vW (by omega),gk1 j hj]
  have x2:WX h0 g2 w bs ov:=x.turn (by rw[eg2,eg1];simp) (by omega) gk2
  have ga:g2.get g1.next=some [.int .i64 S,.int .i64 B,.int .i64 V]:=by rw[eg2,vN (by omega),v9 rfl,vW (by simp),vZ rfl];rfl
  have gb:g2.get (g1.next+1)=some [.int .i64 S',.int .i64 B',.int .i64 V']:=by rw[eg2,v9 rfl,vN (by omega),vZ (by simp)];rfl
  have hA:((g1.alloc [.int .i64 0,.int .i64 0,.int .i64 0]).alloc [.int .i64 0,.int .i64 0,.int .i64 0]).get g1.next=some [.int .i64 0,.int .i64 0,.int .i64 0]:=by rw[vW (by simp),vZ rfl]
  have hB:(((g1.alloc [.int .i64 0,.int .i64 0,.int .i64 0]).alloc [.int .i64 0,.int .i64 0,.int .i64 0]).set g1.next [.int .i64 S,.int .i64 B,.int .i64 V]).get (g1.next+1)=some [.int .i64 0,.int .i64 0,.int .i64 0]:=by rw[vN (by omega),vZ (by simp)]
  have hw:=h.lt _ _ x.wr.get
  have hov:∀j,h.next≤j→ov.id?≠some j:=fun j hj q=>by have:=(x.wr.own.lt q).2;omega
  obtain⟨h3,o3,k3,x3,nx3,kp3,id3⟩:=Ky rl x2 S B V oS (by omega) hV (by omega)
  have gb3:h3.get (g1.next+1)=some [.int .i64 S',.int .i64 B',.int .i64 V']:=(kp3 _ (by omega) (by omega) (hov _ (by omega))).trans gb
  have cl:(vY E S++wc V B).length≤20:=by
   obtain⟨n,c,q0,q1,q2,q3,q4⟩:=oS.bits
   rw[q4];simp [xc,wc,wm];omega
  cases cp with
  | false =>
    refine⟨h3,o3, ?_,by simpa using x3⟩
    rw[n1]
    clear rd rl rx a1 a2 a3 x x2 x3 kp3 id3 gk1 gk2 hov hcp
    simp (disch:=omega)only[go_sem,vT,AP.f339L0,ci,b1,b2,←eg1,gt1,ks,hA,hB,←eg2,ga,k3,Oo,vu,Yz,X9]
  | true =>
    obtain⟨oS',hB',hV'⟩:=hcp rfl
    obtain⟨h4,o4,k4,x4,_,_,_⟩:=Ky rx x3 S' B' V' oS' (by omega) hV' (by rw[vI];omega)
    refine⟨h4,o4, ?_,by rw[if_pos rfl,←XV];exact x4⟩
    rw[n1]
    clear rd rl rx a1 a2 a3 x x2 x3 x4 kp3 id3 gk1 gk2 hov hcp
    simp (disch:=omega)only[go_sem,vT,AP.f339L0,ci,b1,b2,←eg1,gt1,ks,hA,hB,←eg2,ga,k3,gb3,k4,Oo,vu,Yz,X9]
 rcases o with ⟨c0,h2,h3⟩|⟨h1,h2,h3,h4,h5,h6⟩
 · obtain⟨y,hy⟩:∃y:Nat,t.lit=y:=XT h2
   have yt:t.lit.toNat=y:=by omega
   rw[yt]at h3
   obtain⟨h',ov',k,xx⟩:=step y 0 0 0 0 0 false (fun g=>by
    rw[hy,c0];exact JL g y t.wB) h3 (by omega) (by omega) (fun q=>by cases q)
   refine⟨h',ov',k, ?_⟩
   rw[wH,if_pos c0,yt]
   simpa [wc,Cx]using xx
 · obtain⟨L,hL⟩:∃y:Nat,t.len=y:=XT (by omega)
   obtain⟨K,hK⟩:∃y:Nat,t.wB=y:=XT (by omega)
   have Lt:t.len.toNat=L:=by omega
   have Kt:t.wB.toNat=K:=by omega
   rw[Lt]at h5
   rw[Kt]at h6
   have lb:=Eu (k:=L) (by omega) (by omega)
   have db:=Er (k:=K) (by omega) (by omega)
   obtain⟨h',ov',k,xx⟩:=step (xF L) (za L) (zC L) (xN K) (zg K) (zH K) true (fun g=>by
    rw[tl (by omega),hL,hK];exact G7 g L K (by omega) (by omega) (by omega) (by omega)) h5 lb.1 lb.2 (fun _=>⟨h6,db.1,db.2⟩)
   refine⟨h',ov',k, ?_⟩
   rw[wH,if_neg (by omega),Lt,Kt]
   simpa [XV]using xx
theorem GX {v lv dv:AV} {ts:List Tok} {E D:List (Int×Int)} (hn:ts.length<1000000) (h0:H) (rd:yC 3 h0 v ts.length (wJ ts)) (rl:yC 2 h0 lv E.length (E.flatMap wU)) (rx:yC 2 h0 dv D.length (D.flatMap wU)) (ok:∀t∈ts,HF E D t∧y6 t∧(t.len≠0→t.lit=0)) (w:Nat):∀(q p:List Tok) (bs:List Nat) (h:H) (ov:AV),ts=p++q→WX h0 h w bs ov→bs.length+48* q.length≤65000→
 ∃h' ov',Lp AP.A [0,2,3,14,15,16] AP.f339L0 [(0,.aD w 0),(2,lv),(3,dv),(14,v),(15,.int .i64 ts.length),(16,.int .i64 p.length)] h=some (.exit 0,[(0,.aD w 0),(2,lv),(3,dv),(14,v),(15,.int .i64 ts.length),(16,.int .i64 ts.length),(17,.bool false)],h')∧WX h0 h' w (bs++w9 E D q) ov'
 | [], p, bs, h, ov, hp, x, hb => by
   rw[XZ]at hp;subst hp
   refine⟨h,ov,tM ?_,by simpa [w9]using x⟩
   simp (disch:=omega)only[go_sem,vT,AP.f339L0]
 | t :: q, p, bs, h, ov, hp, x, hb => by
   have ht:ts[p.length]?=some t:=by rw[hp];simp
   obtain⟨o1,o2,o3⟩:=ok t (by rw[hp];simp)
   obtain⟨h1,ov1,k1,x1⟩:=Mu hn h0 rd rl rx w p.length t ht o1 o2 o3 h bs ov x (by simp only[XO]at hb;omega)
   have bl:=BQ o1
   obtain⟨h',ov',L,x2⟩:=GX hn h0 rd rl rx ok w q (p++[t]) _ h1 ov1 (by rw[hp];simp) x1 (by simp only[XO,vI]at hb ⊢;omega)
   have e3:(p++[t]).length=p.length+1:=by simp
   rw[e3]at L
   refine⟨h',ov',tN k1 L, ?_⟩
   have:w9 E D (t::q)=wH E D t++w9 E D q:=by simp [w9]
   rw[this,←XV];exact x2
theorem Lg {v lv dv:AV} {ts:List Tok} {E D:List (Int×Int)} (hn:ts.length<1000000) (h0:H) (rd:yC 3 h0 v ts.length (wJ ts)) (rl:yC 2 h0 lv E.length (E.flatMap wU)) (rx:yC 2 h0 dv D.length (D.flatMap wU)) (ok:∀t∈ts,HF E D t∧y6 t∧(t.len≠0→t.lit=0)) (o256:B9 E 256) (w:Nat) (bs:List Nat) (h:H) (ov:AV) (x:WX h0 h w bs ov) (hb:bs.length+48* ts.length≤65000):
 ∃h',aR AP.A 339 [.aD w 0,v,lv,dv] h=some (.str (bytesOf (wD (bs++(w9 E D ts++vY E 256)))),h'):=by
 have ln:=rd.len
 obtain⟨h1,o1,L,x1⟩:=GX hn h0 rd rl rx ok w ts [] bs h ov rfl x hb
 have L':Lp AP.A [0,2,3,14,15,16] AP.f339L0 [(0,.aD w 0),(2,lv),(3,dv),(14,v),(15,.int .i64 ts.length),(16,.int .i64 0)] h=_:=L
 have bl:=DR (E:=E) (D:=D) (ts:=ts) fun t ht=>(ok t ht).1
 obtain⟨h2,o2,k2,x2,_⟩:=Ky rl x1 256 0 0 o256 (by omega) (by omega) (by rw[vI];omega)
 have k3:=Lf x2.wr
 have e:bs++w9 E D ts++(vY E 256++wc 0 0)=bs++(w9 E D ts++vY E 256):=by simp [wc,Cx]
 rw[e]at k3
 have k2':aR AP.A 350 [.aD w 0,lv,.agg [.int .i64 256,.int .i64 0,.int .i64 0]] h1=some (.bM [],h2):=k2
 refine⟨h2,tZ (fn:=AP.f339) (e:=[(8,.str (bytesOf (wD (bs++(w9 E D ts++vY E 256)))))]) (vs:=[.str (bytesOf (wD (bs++(w9 E D ts++vY E 256))))]) rfl rfl rfl ?_ rfl⟩
 clear x1 x2 rd rl rx ok x
 generalize bytesOf (wD (bs++(w9 E D ts++vY E 256)))=TX at *
 simp (disch:=omega)only[go_sem,vT,AP.f339,ln,sG,L',k2',k3]
theorem Cs (c:ah) (e:Env) (h:H) (x y:X):ai c e h (.mn [x,y])=dc h (mG (x.ev e) (y.ev e)):=by
 show(fZ mG (x.ev e) [y.ev e]).bind _=_
 simp only[fZ]
 cases mG (x.ev e) (y.ev e)<;>rfl
def HA (a b:Int):Int:=if b<a then b else a
theorem AZ (k:IntKind) (a b:Int):mG (.int k a) (.int k b)=some (.int k (HA a b)):=rfl
structure Tx (hb h:H) (x:Nat) (ov:AV) (out:List Nat):Prop where
 ext:Ext hb h
 fl:h.floor=hb.next
 MJ:h.floor≤h.next
 gx:h.get x=some [ov]
 lx:hb.next≤x
 own:wz 1 h ov out.length (yM out)
 nx:ov.id?≠some x
 FW:JR out
theorem Tx.push {hb h:H} {x:Nat} {ov:AV} {out:List Nat} (v:Tx hb h x ov out) (b:Nat) (hb8:b<256) (hl:out.length<100000):∃h1 v1,kM (h.alloc [.int .u8 b]) 1 1 ov (.aE h.next 0 1 1)=some (v1,h1)∧v1.sc=true∧v1.cells=[v1]∧h1.get x=some [ov]∧h1.floor≤x∧Tx hb (h1.set x [v1]) x v1 (out++[b])∧h.next≤(h1.set x [v1]).next∧∀i,i<h.next→i≠x→ov.id?≠some i→(h1.set x [v1]).get i=h.get i:=by
 obtain⟨v1,h1,p1,p2,p3,p4,p5,p6⟩:=v.own.push v.MJ (z:=1) (m:=1) (by omega) (by omega) [.int .u8 b] rfl rfl (xP (by omega))
 have lx:=h.lt _ _ v.gx
 have fl:=v.fl
 have vlx:=v.lx
 have g1:h1.get x=some [ov]:=by rw[p5 x v.nx lx,v.gx]
 refine⟨h1,v1,p1,p2.sc,p2.cells,g1,by omega,⟨fun i c hi=> ?_,by simp;omega,by simp;have:=v.MJ;omega,by rw[v9 rfl,g1];rfl,v.lx, ?_, ?_,fun y hy=> ?_⟩,by simp;omega,fun i h1' h2 h3=>by rw[vN h2,p5 i h3 h1']⟩
 · have l1:=hb.lt _ _ hi
   have e:=v.ext i c hi
   have l2:=h.lt _ _ e
   rw[vN (by omega),p5 i (fun q=>by have:=(v.own.lt q).1;omega) l2,e]
 · rw[Bl,vI]
   exact p2.mono (by simp) fun j hj=>by
    rw[p6]at hj
    have:=u6 hj
    rw[vN (by omega)]
 · rw[p6];intro q;have:=u6 q;omega
 · rcases Ya.1 hy with q|q
   · exact v.FW y q
   · simp at q;omega
theorem GR {hb : H} {x c L D : Nat} {l0 : AV} (hL : L ≤ 258) (hD1 : 1 ≤ D) : ∀ (m j : Nat) (out : List Nat) (h : H) (ov : AV), j + m = L → D ≤ out.length → out.length + m ≤ 10000 → Tx hb h x ov out → h.get c = some [l0, .int .i64 L, .int .i64 D] → c ≠ x → ov.id? ≠ some c →
 ∃h' ov',Lp AP.A [0,3,82,83] AP.f353L0 [(0,.aD x 0),(3,.aD c 0),(82,.int .i64 L),(83,.int .i64 j)] h=some (.exit 0,[(0,.aD x 0),(3,.aD c 0),(82,.int .i64 L),(83,.int .i64 L),(84,.bool false)],h')∧Tx hb h' x ov' (Hr D m out)∧h.next≤h'.next
 | 0, j, out, h, ov, hj, hDo, hs, v, gc, hcx, hoc => by
   obtain rfl:j=L:=by omega
   refine⟨h,ov,tM ?_,v,vm _⟩
   simp (disch:=omega)only[go_sem,vT,AP.f353L0]
 | m + 1, j, out, h, ov, hj, hDo, hs, v, gc, hcx, hoc => by
   have cj:(j:Int)<(L:Int):=by omega
   have gx:=v.gx
   have lc:=h.lt _ _ gc
   obtain⟨y,hy⟩:∃y,out[out.length-D]?=some y:=⟨_,XQ (by omega)⟩
   have gy:=Oy hy
   have gd:out.getD (out.length-D) 0=y:=by rw[XN,hy];rfl
   have y8:=v.FW y (vq hy)
   obtain⟨h1,v1,p1,p2,p3,p4,p5,t1,n1,k1⟩:=v.push y y8 (by omega)
   obtain ⟨h', ov', L', t2, n2⟩ := GR hL hD1 m (j + 1) (out ++ [y]) (h1.set x [v1]) v1 (by omega) (by simp; omega) (by simp; omega) t1 (by rw [k1 c lc hcx hoc, gc]) hcx (fun q => by
    have:=t1.own.lt q
    have e:=t1.nx
    have:(h1.set x [v1]).get c=h.get c:=k1 c lc hcx hoc
    have q2:=t1.own.2
    rcases q2 with ⟨q3,_⟩|⟨i2,q3,q4,_⟩
    · rw[q3]at q;cases q
    · rw [q3] at q
      obtain rfl:=u6 q
      rw[this,gc]at q4
      have:=Yh List.length (u6 q4)
      have q5:=u6 q4
      cases hbo:yM (out++[y])with
      |nil=>rw[hbo]at q5;cases q5
      | cons a r =>
        cases hout:out with
        |nil=>rw[hout]at hDo;simp at hDo;omega
        | cons o r2 =>
          have hl:(yM (out++[y])).length=3:=by rw[←q5];rfl
          have e2:(yM (out++[y]))[1]?=some (.int .i64 L):=by rw[←q5];rfl
          have e3:∃z:Nat,(yM (out++[y]))[1]?=some (.int .u8 z):=by
           simp only[yM,vx]
           rw[MU]at hl
           rw[XQ (by omega)]
           exact⟨_,rfl⟩
          obtain⟨z,e3⟩:=e3
          rw[e2]at e3
          cases u6 e3)
   have e1:((j+1:Nat):Int)=(j:Int)+1:=by omega
   have e2:(out.length:Int)-(D:Int)=((out.length-D:Nat):Int):=by omega
   have bl:=MU out
   rw[Hr,gd]
   refine⟨h',ov',tN ?_ L',t2,by omega⟩
   rw[e1]
   rcases v.own.2 with ⟨_,q⟩|⟨id,q1,q2,q3,q4⟩
   · omega
   subst q1
   have ib:cN (.int .i64 ((out.length:Int)-(D:Int))) out.length=some (out.length-D):=by
    rw[e2]
    have:((out.length-D:Nat):Int)<out.length:=by omega
    simp [cN,nR,this]
   have dl:(D:Int)≤100000:=by omega
   clear v t1 t2 L' k1 hoc e2
   generalize yM out=BO at *
   simp (disch:=omega)only[go_sem,vT,AP.f353L0,cj,gx,gc,Bi,ib,q2,gy,bl,p1,p2,p3,p4,p5]
def KF (out:List Nat) (t:Tok):Option (List Nat):=match wS out.length t with
 |none=>none
 |some s'=>if 8192<s' then none else some (wK out t)
theorem R7 {hb h : H} {x : Nat} {ov : AV} {out : List Nat} (v : Tx hb h x ov out) (t : Tok) (hl : out.length ≤ 8192) :
 ∃h' ov',aR AP.A 353 [.aD x 0,.agg [.int .i64 t.lit,.int .i64 t.len,.int .i64 t.wB]] h=some (.bool (KF out t).isSome,h')∧Tx hb h' x ov' ((KF out t).getD out)∧h.next≤h'.next:=by
 obtain⟨g,eg⟩:∃g,g=h.alloc [.int .i64 t.lit,.int .i64 t.len,.int .i64 t.wB]:=⟨_,rfl⟩
 have lx:=h.lt _ _ v.gx
 have gn:g.next=h.next+1:=by rw[eg];simp
 have gk:∀i,i<h.next→g.get i=h.get i:=fun i hi=>by rw[eg,vW (by omega)]
 have gc:g.get h.next=some [.int .i64 t.lit,.int .i64 t.len,.int .i64 t.wB]:=by rw[eg,vZ rfl]
 have v1:Tx hb g x ov out:=⟨fun i c hi=>by
  have e:=v.ext i c hi
  have:=h.lt _ _ e
  rw[gk i this,e],by rw[eg];simpa using v.fl,by rw[gn,eg];have:=v.MJ;simp;omega,by rw[gk x lx,v.gx],v.lx,v.own.mono (by rw[eg];simp) fun i hi=>gk i (v.own.lt hi).2,v.nx,v.FW⟩
 have gx:=v1.gx
 have hov:ov.id?≠some h.next:=fun q=>by have:=(v.own.lt q).2;omega
 have ln:jc false ov=some (.int .i64 out.length):=v.own.rd.len
 unfold KF wS
 by_cases c0:t.len=0
 · rw [if_pos c0]
   rw[c0]at eg gc
   rw[c0]
   by_cases c1:t.lit<0∨255<t.lit∨t.wB≠0
   · rw [if_pos c1]
     refine⟨g,ov,tZ (fn:=AP.f353) (e:=[(4,.bool false)]) (vs:=[.bool false]) rfl rfl rfl ?_ rfl,v1,by omega⟩
     clear v v1
     by_cases d1:t.lit<0
     · simp (disch:=omega)only[go_sem,vT,AP.f353,←eg,gc,d1]
     · by_cases d2:255<t.lit
       · simp (disch:=omega)only[go_sem,vT,AP.f353,←eg,gc,d1,d2]
       · have d3:(t.wB !=0)=true:=by simp;omega
         simp (disch:=omega)only[go_sem,vT,AP.f353,←eg,gc,d1,d2,d3]
   · rw[if_neg c1]
     have d1:¬t.lit<0:=by omega
     have d2:¬255<t.lit:=by omega
     have d3:(t.wB !=0)=false:=by simp;omega
     by_cases c2:(8192:Int)<(out.length:Int)+1
     · simp only[if_pos c2]
       refine⟨g,ov,tZ (fn:=AP.f353) (e:=[(4,.bool false)]) (vs:=[.bool false]) rfl rfl rfl ?_ rfl,v1,by omega⟩
       have d4:(8192:Int)≤(out.length:Int):=by omega
       clear v v1
       simp (disch:=omega)only[go_sem,vT,AP.f353,←eg,gc,d1,d2,d3,gx,ln,d4]
     · simp only[if_neg c2]
       obtain⟨b,hb8⟩:∃b:Nat,t.lit=b:=XT (by omega)
       obtain⟨h1,w1,p1,p2,p3,p4,p5,t1,n1,k1⟩:=v1.push b (by omega) (by omega)
       have eo:wK out t=out++[b]:=by unfold wK;rw[if_pos c0,hb8];rfl
       refine⟨h1.set x [w1],w1,tZ (fn:=AP.f353) (e:=[(4,.bool true)]) (vs:=[.bool true]) rfl rfl rfl ?_ rfl,by simp only[Option.getD_some];rw[eo];exact t1,by omega⟩
       have d4:¬(8192:Int)≤(out.length:Int):=by omega
       rw[hb8]at gc d1 d2 eg ⊢
       have wb1:IntKind.wrap .u8 (b:Int)=b:=Vw (by omega)
       clear v v1 t1 k1
       simp (disch:=omega)only[go_sem,vT,AP.f353,←eg,gc,d1,d2,d3,gx,ln,d4,wb1,p1,p2,p3,p4,p5]
 · rw [if_neg c0]
   have cb:(t.len==0)=false:=by simp;omega
   by_cases c1:t.len<3∨258<t.len∨t.wB<1∨32768<t.wB∨(out.length:Int)<t.wB∨t.lit≠0
   · rw [if_pos c1]
     refine⟨g,ov,tZ (fn:=AP.f353) (e:=[(4,.bool false)]) (vs:=[.bool false]) rfl rfl rfl ?_ rfl,v1,by omega⟩
     clear v v1
     by_cases d1:t.lit=0
     · have d1':(t.lit !=0)=false:=by simp [d1]
       by_cases d2:t.len<3
       · simp (disch:=omega)only[go_sem,vT,AP.f353,←eg,gc,cb,d1',d2]
       · by_cases d3:258<t.len
         · simp (disch:=omega)only[go_sem,vT,AP.f353,←eg,gc,cb,d1',d2,d3]
         · by_cases d4:t.wB<1
           · simp (disch:=omega)only[go_sem,vT,AP.f353,←eg,gc,cb,d1',d2,d3,d4]
           · have d5:HA out.length 32768<t.wB:=by unfold HA;split<;>omega
             simp (disch:=omega)only[go_sem,vT,AP.f353,←eg,gc,cb,d1',d2,d3,d4,gx,ln,Cs,AZ,d5]
     · have d1':(t.lit !=0)=true:=by simp [d1]
       simp (disch:=omega)only[go_sem,vT,AP.f353,←eg,gc,cb,d1']
   · rw [if_neg c1]
     have d1:(t.lit !=0)=false:=by simp;omega
     have d2:¬t.len<3:=by omega
     have d3:¬258<t.len:=by omega
     have d4:¬t.wB<1:=by omega
     have d5:¬HA out.length 32768<t.wB:=by unfold HA;split<;>omega
     by_cases c2:(8192:Int)<(out.length:Int)+t.len
     · simp only[if_pos c2]
       refine⟨g,ov,tZ (fn:=AP.f353) (e:=[(4,.bool false)]) (vs:=[.bool false]) rfl rfl rfl ?_ rfl,v1,by omega⟩
       have sb:t.len≤258:=by omega
       have sb2:0≤t.len:=by omega
       clear v v1
       simp (disch:=omega)only[go_sem,vT,AP.f353,←eg,gc,cb,d1,d2,d3,d4,gx,ln,Cs,AZ,d5,c2]
     · simp only[if_neg c2]
       obtain⟨L,hL⟩:∃y:Nat,t.len=y:=XT (by omega)
       obtain⟨D,hD⟩:∃y:Nat,t.wB=y:=XT (by omega)
       rw[hL,hD]at gc eg
       obtain⟨h',ov',L1,t2,n2⟩:=GR (hb:=hb) (c:=h.next) (l0:=.int .i64 t.lit) (L:=L) (D:=D) (by omega) (by omega) L 0 out g ov (by omega) (by omega) (by omega) v1 gc (by omega) hov
       have L1':Lp AP.A [0,3,82,83] AP.f353L0 [(0,.aD x 0),(3,.aD h.next 0),(82,.int .i64 L),(83,.int .i64 0)] g=_:=L1
       have eo:wK out t=Hr D L out:=by
        unfold wK;rw[if_neg c0,hL,hD];rfl
       refine⟨h',ov',tZ (fn:=AP.f353) (e:=[(4,.bool true)]) (vs:=[.bool true]) rfl rfl rfl ?_ rfl,by simp only[Option.getD_some];rw[eo];exact t2,by omega⟩
       rw[hL]at cb d2 d3 c2 ⊢
       rw[hD]at d4 d5 ⊢
       have sb:L≤258:=by omega
       clear v v1 t2 L1
       simp (disch:=omega)only[go_sem,vT,AP.f353,←eg,gc,cb,d1,d2,d3,d4,gx,ln,Cs,AZ,d5,c2,sG,L1']
theorem Ci {out:List Nat} {t:Tok} {s':Int} (h:wS out.length t=some s'):((wK out t).length:Int)=s':=by
 unfold wS at h
 unfold wK
 by_cases c:t.len=0
 · rw[if_pos c]at h ⊢
   split at h
   · cases h
   · have:=u6 h;simp;omega
 · rw[if_neg c]at h ⊢
   split at h
   · cases h
   · have:=u6 h;rw[CU];omega
theorem KX : ∀ (ts : List Tok) (out : List Nat), wo out.length ts = true → out.length ≤ 8192 → (yj ts out).length ≤ 8192
 |[],_,_,h=>h
 | t :: r, out, hm, _ => by
   unfold wo at hm
   cases e:wS out.length t with
   |none=>rw[e]at hm;cases hm
   | some s' =>
     rw[e]at hm
     have l:=Ci e
     by_cases c:8192<s'
     · simp only[if_pos c]at hm;cases hm
     · simp only[if_neg c]at hm
       rw[←l]at hm
       exact KX r (wK out t) hm (by omega)
theorem J7 {ts:List Tok} {t:ByteArray} (h:yK ts=some t):t.size≤8192:=by
 unfold yK at h
 split at h
 · rename_i c
   rw[←u6 h,xf]
   exact KX ts [] c (by simp)
 · cases h
theorem Ib {hb : H} {x : Nat} {v : AV} {ts : List Tok} (hn : ts.length < 1000000) (rd : yC 3 hb v ts.length (wJ ts)) : ∀ (q p : List Tok) (out : List Nat) (h : H) (ov : AV), ts = p ++ q → Tx hb h x ov out → out.length ≤ 8192 →
 (wo out.length q=true→∃h' ov' e',Lp AP.A [5,10,11,12] AP.f343L0 [(5,.fn 353 [.aD x 0] []),(10,v),(11,.int .i64 ts.length),(12,.int .i64 p.length)] h=some (.exit 0,e',h')∧Tx hb h' x ov' (yj q out)∧(yj q out).length≤8192)∧
 (wo out.length q=false→∃h',Lp AP.A [5,10,11,12] AP.f343L0 [(5,.fn 353 [.aD x 0] []),(10,v),(11,.int .i64 ts.length),(12,.int .i64 p.length)] h=some (.ret,[(4,.bool false)],h'))
 | [], p, out, h, ov, hp, t, hl => by
   rw[XZ]at hp;subst hp
   refine⟨fun _=>⟨h,ov,[(5,.fn 353 [.aD x 0] []),(10,v),(11,.int .i64 ts.length),(12,.int .i64 ts.length),(13,.bool false)],tM ?_,t,hl⟩,fun q=>by cases q⟩
   simp (disch:=omega)only[go_sem,vT,AP.f343L0]
 | k :: q, p, out, h, ov, hp, t, hl => by
   have hlen:ts.length=p.length+(q.length+1):=by rw[hp];simp
   have hk:ts[p.length]?=some k:=by rw[hp];simp
   obtain⟨ad,a1,a2,a3⟩:=rd.HZ
   have b1:=a1 p.length ⟨by omega,by omega⟩
   obtain⟨_,_,_,b2⟩:=a3 h t.ext _ _ hk
   have c1:((p.length:Nat):Int)<ts.length:=by omega
   obtain⟨g,eg⟩:∃g,g=(h.alloc [.int .i64 0,.int .i64 0,.int .i64 0]).set h.next [.int .i64 k.lit,.int .i64 k.len,.int .i64 k.wB]:=⟨_,rfl⟩
   have gg:g.get h.next=some [.int .i64 k.lit,.int .i64 k.len,.int .i64 k.wB]:=by rw[eg,v9 rfl,vZ rfl];rfl
   have gn:g.next=h.next+1:=by rw[eg];simp
   have gk:∀i,i<h.next→g.get i=h.get i:=fun i hi=>by rw[eg,vN (by omega),vW (by omega)]
   have fl1:h.floor≤h.next:=t.MJ
   have lx:=h.lt _ _ t.gx
   have tg:Tx hb g x ov out:=⟨fun i c hi=>by
    have e:=t.ext i c hi
    have:=h.lt _ _ e
    rw[gk i this,e],by rw[eg];simpa using t.fl,by rw[gn,eg];simp;omega,by rw[gk x lx,t.gx],t.lx,t.own.mono (by rw[eg];simp) fun i hi=>gk i (t.own.lt hi).2,t.nx,t.FW⟩
   obtain⟨h1,ov1,k1,t1,_⟩:=R7 tg k hl
   have k1':kD (aR AP.A) [.agg [.int .i64 k.lit,.int .i64 k.len,.int .i64 k.wB]] g (.fn 353 [.aD x 0] [])=some (.bool (KF out k).isSome,h1):=k1
   cases hs:KF out k with
   | none =>
     have hm:wo out.length (k::q)=false:=by
      unfold KF at hs
      rw[wo]
      cases e:wS out.length k with
      |none=>rfl
      | some s' =>
        rw[e]at hs
        simp only at hs ⊢
        by_cases c:8192<s'
        · rw[if_pos c]
        · rw[if_neg c]at hs;cases hs
     refine⟨fun q=>(by rw[hm]at q;cases q),fun _=>⟨h1,uh ?_⟩⟩
     rw[hs]at k1'
     have k2:aR AP.A 353 ([.aD x 0]++[.agg [.int .i64 k.lit,.int .i64 k.len,.int .i64 k.wB]]++[]) g=some (.bool false,h1):=k1'
     simp only[List.cons_append,Yr,XZ]at k2
     clear t tg t1 a1 a2 a3 rd
     simp (disch:=omega)only[go_sem,vT,AP.f343L0,c1,b1,b2,←eg,gg,k2,Oo,vu,Yz,X9]
   | some o' =>
     rw[hs]at t1 k1'
     simp only[Option.getD_some]at t1
     have key:∃s',wS out.length k=some s'∧¬8192<s'∧o'=wK out k:=by
      unfold KF at hs
      cases e:wS out.length k with
      |none=>rw[e]at hs;cases hs
      | some s' =>
        rw[e]at hs
        simp only at hs
        by_cases c:8192<s'
        · rw[if_pos c]at hs;cases hs
        · rw[if_neg c]at hs
          exact⟨s',rfl,c,(u6 hs).symm⟩
     obtain⟨s',e1,e2,e3⟩:=key
     have el:=Ci e1
     rw[←e3]at el
     have hm:wo out.length (k::q)=wo o'.length q:=by
      rw[wo,e1]
      simp only[if_neg e2,el]
     have ee:yj (k::q) out=yj q o':=by rw[yj,e3]
     rw[hm,ee]
     have k2:aR AP.A 353 ([.aD x 0]++[.agg [.int .i64 k.lit,.int .i64 k.len,.int .i64 k.wB]]++[]) g=some (.bool true,h1):=k1'
     simp only[List.cons_append,Yr,XZ]at k2
     obtain⟨r1,r2⟩:=Ib hn rd q (p++[k]) o' h1 ov1 (by rw[hp];simp) t1 (by omega)
     have w1:((p++[k]).length:Int)=(p.length:Int)+1:=by simp
     rw[w1]at r1 r2
     have st:aL (aR AP.A) bq AP.f343L0 (ay [(5,.fn 353 [.aD x 0] []),(10,v),(11,.int .i64 ts.length),(12,.int .i64 p.length)] [5,10,11,12]) h=some (.normal,[(5,.fn 353 [.aD x 0] []),(10,v),(11,.int .i64 ts.length),(12,.int .i64 ((p.length:Int)+1))],h1):=by
      clear t tg t1 a1 a2 a3 rd r1 r2
      simp (disch:=omega)only[go_sem,vT,AP.f343L0,c1,b1,b2,←eg,gg,k2,Oo,vu,Yz,X9]
     refine⟨fun z=> ?_,fun z=> ?_⟩
     · obtain⟨h',ov',e',L,q1,q2⟩:=r1 z
       exact⟨h',ov',e',tN st L,q1,q2⟩
     · obtain⟨h',L⟩:=r2 z
       exact⟨h',tN st L⟩
theorem Mr (h:H) (v:AV) (ts:List Tok) (hn:ts.length<1000000) (rd:yC 3 h v ts.length (wJ ts)):aR AP.A 328 [v] h=some (LX (yK ts),h):=by
 have y9:yC 3 h.dN v ts.length (wJ ts):=rd.mono fun i c q=>q
 have ln:=rd.len
 obtain⟨g,eg⟩:∃g,g=h.dN.alloc [.aP]:=⟨_,rfl⟩
 have gx:g.get h.next=some [.aP]:=by rw[eg,vZ (by simp)]
 have t0:Tx h.dN g h.next .aP []:=⟨by rw[eg];exact(Ext.refl _).alloc _,by rw[eg];simp,by rw[eg];simp,gx,by simp,wz.nil,by simp [AV.id?],fun y hy=>by simp at hy⟩
 obtain⟨r1,r2⟩:=Ib hn y9 ts [] [] g .aP rfl t0 (by simp)
 have hN:h.dN.next=h.next:=rfl
 unfold yK
 by_cases hm:wo 0 ts=true
 · rw[if_pos hm]
   obtain⟨h',ov',e',L,t1,_⟩:=r1 hm
   have L':Lp AP.A [5,10,11,12] AP.f343L0 [(5,.fn 353 [.aD h.next 0] []),(10,v),(11,.int .i64 ts.length),(12,.int .i64 0)] g=some (.exit 0,e',h'):=L
   have k:aR AP.A 343 [.aD h.next 0,v] g=some (.bool true,h'):=by
    refine tZ (fn:=AP.f343) (e:=[(4,.bool true)]) (vs:=[.bool true]) rfl rfl rfl ?_ rfl
    clear t1 t0 rd y9 r1 r2
    simp (disch:=omega)only[go_sem,vT,AP.f343,ln,sG,L']
   have b:=CK t1.own
   have g1:=t1.gx
   refine uz (fn:=AP.f328) (h2:=h') (e:=[(2,.str (bytesOf (yj ts []))),(3,.int .i64 0)]) (vs:=[.str (bytesOf (yj ts [])),.int .i64 0]) rfl rfl rfl ?_ rfl rfl
   clear t1 t0 rd y9 r1 r2 L L'
   generalize bytesOf (yj ts [])=B at *
   simp (disch:=omega)only[go_sem,vT,AP.f328,←eg,hN,k,g1,b]
 · rw[if_neg hm]
   obtain⟨h',L⟩:=r2 (Bool.eq_false_iff.2 hm)
   have L':Lp AP.A [5,10,11,12] AP.f343L0 [(5,.fn 353 [.aD h.next 0] []),(10,v),(11,.int .i64 ts.length),(12,.int .i64 0)] g=some (.ret,[(4,.bool false)],h'):=L
   have k:aR AP.A 343 [.aD h.next 0,v] g=some (.bool false,h'):=by
    refine tZ (fn:=AP.f343) (e:=[(4,.bool false)]) (vs:=[.bool false]) rfl rfl rfl ?_ rfl
    clear t0 rd y9 r1 r2
    simp (disch:=omega)only[go_sem,vT,AP.f343,ln,sG,L']
   refine uz (fn:=AP.f328) (h2:=h') (e:=[(2,.str ⟨#[]⟩),(3,.int .i64 500)]) (vs:=[.str ⟨#[]⟩,.int .i64 500]) rfl rfl rfl ?_ rfl rfl
   clear t0 rd y9 r1 r2 L L'
   simp (disch:=omega)only[go_sem,vT,AP.f328,←eg,hN,k]
theorem NM (h:H) (v:AV) (ts:List Tok) (hn:ts.length<1000000) (rd:yC 3 h v ts.length (wJ ts)):aR AP.A 337 [v] h=some (.bool (Ds ts),h):=by
 have k:=Mr h.dN v ts hn (rd.mono fun i c q=>q)
 unfold Ds
 cases he:yK ts with
 | none =>
   rw[he]at k
   simp only[LX]at k
   refine uz (fn:=AP.f337) (h2:=h.dN) (e:=[(2,.bool false)]) (vs:=[.bool false]) rfl rfl rfl ?_ rfl rfl
   have cb:((500:Int)==0)=false:=by decide
   clear rd
   simp (disch:=omega)only[go_sem,vT,AP.f337,k,cb]
 | some t =>
   rw[he]at k
   have:=J7 he
   simp only[LX]at k
   refine uz (fn:=AP.f337) (h2:=h.dN) (e:=[(2,.bool (decide (t.size≤300)))]) (vs:=[.bool (decide (t.size≤300))]) rfl rfl rfl ?_ rfl rfl
   have cb:((0:Int)==0)=true:=by decide
   clear rd
   by_cases c:t.size≤300
   · have c':(t.size:Int)≤300:=by omega
     simp (disch:=omega)only[go_sem,vT,AP.f337,k,XS c,c',cb]
   · have c':¬(t.size:Int)≤300:=by omega
     simp (disch:=omega)only[go_sem,vT,AP.f337,k,XP c,c',cb]
theorem GK (s : ByteArray) (i d : Nat) (hs : s.size < 100000) (hd : d ≤ i) (hi : i ≤ s.size) (h : H) : ∀ (f k : Nat), k + f = 258 →
 ∃e',Lp AP.A [0,1,2,7] AP.f354L0 [(0,.str s),(1,.int .i64 i),(2,.int .i64 d),(7,.int .i64 k)] h=some (.exit 0,e',h)∧look e' 7=.int .i64 (yZ s i (i-d) f k:Nat)
 | 0, k, hk => by
   obtain rfl:k=258:=by omega
   refine⟨[(0,.str s),(1,.int .i64 i),(2,.int .i64 d),(7,.int .i64 258),(32,.bool false)],tM ?_,rfl⟩
   have c:¬((258:Nat):Int)<258:=by omega
   simp (disch:=omega)only[go_sem,vT,AP.f354L0,c]
 | f + 1, k, hk => by
   have n1:((k:Int)+1)=((k+1:Nat):Int):=by omega
   have c0:(k:Int)<258:=by omega
   by_cases c1:i+k<s.size
   · have c1':(i:Int)+(k:Int)<s.size:=by omega
     have x1:mC (.str s) (.int .i64 ((i:Int)+(k:Int)))=some (.int .u8 (zq s (i+k):Nat)):=by
      have:=BT (s:=s) (i:=(i:Int)+(k:Int)) ⟨by omega,by omega⟩
      rw[show((i:Int)+(k:Int)).toNat=i+k by omega]at this;exact this
     have x2:mC (.str s) (.int .i64 ((i:Int)+(k:Int)-(d:Int)))=some (.int .u8 (zq s (i-d+k):Nat)):=by
      have:=BT (s:=s) (i:=(i:Int)+(k:Int)-(d:Int)) ⟨by omega,by omega⟩
      rw[show((i:Int)+(k:Int)-(d:Int)).toNat=i-d+k by omega]at this;exact this
     by_cases c2:zq s (i+k)=zq s (i-d+k)
     · obtain⟨e',r1,r2⟩:=GK s i d hs hd hi h f (k+1) (by omega)
       refine⟨e',tN ?_ r1, ?_⟩
       · rw[←n1]
         have cb:((zq s (i+k):Int)==(zq s (i-d+k):Int))=true:=by simp [c2]
         simp (disch:=omega)only[go_sem,vT,AP.f354L0,c0,c1',x1,x2,cb]
       · rw[r2,yZ,if_pos ⟨by omega,c1,c2⟩]
     · refine⟨[(0,.str s),(1,.int .i64 i),(2,.int .i64 d),(7,.int .i64 k),(32,.bool false)],tM ?_, ?_⟩
       · have cb:((zq s (i+k):Int)==(zq s (i-d+k):Int))=false:=by simp;omega
         simp (disch:=omega)only[go_sem,vT,AP.f354L0,c0,c1',x1,x2,cb]
       · rw[yZ,if_neg (fun q=>c2 q.2.2)];rfl
   · refine⟨[(0,.str s),(1,.int .i64 i),(2,.int .i64 d),(7,.int .i64 k),(32,.bool false)],tM ?_, ?_⟩
     · have c1':¬(i:Int)+(k:Int)<s.size:=by omega
       simp (disch:=omega)only[go_sem,vT,AP.f354L0,c0,c1']
     · rw[yZ,if_neg (fun q=>c1 q.2.1)];rfl
theorem RY (h:H) (s:ByteArray) (i d:Nat) (hs:s.size<100000) (hd:d≤i) (hi:i≤s.size):aR AP.A 354 [.str s,.int .i64 i,.int .i64 d] h=some (.int .i64 (same s i (i-d):Nat),h):=by
 obtain⟨e',r1,r2⟩:=GK s i d hs hd hi h.dN 258 0 rfl
 have r1':Lp AP.A [0,1,2,7] AP.f354L0 [(0,.str s),(1,.int .i64 i),(2,.int .i64 d),(7,.int .i64 0)] h.dN=some (.exit 0,e',h.dN):=r1
 clear r1
 refine uz (fn:=AP.f354) (h2:=h.dN) (e:=[(6,.int .i64 (same s i (i-d):Nat))]) (vs:=[.int .i64 (same s i (i-d):Nat)]) rfl rfl rfl ?_ rfl rfl
 simp (disch:=omega)only[go_sem,vT,AP.f354,sG,r1',r2,same]
def GN (b:Nat×Nat):Nat×Nat:=if b.1<3 then(0,0)else b
theorem Nx (b:Nat×Nat) (m d:Nat):GN (if b.1<m then(m,d)else b)=if 3≤m∧(GN b).1<m then(m,d)else GN b:=by
 unfold GN
 by_cases c:b.1<3
 · rw[if_pos c]
   by_cases q:b.1<m
   · rw[if_pos q]
     by_cases z:m<3
     · rw[if_pos z,if_neg (by omega)]
     · rw[if_neg z,if_pos ⟨by omega,by show 0<m;omega⟩]
   · rw[if_neg q,if_pos c,if_neg (by omega)]
 · rw[if_neg c]
   by_cases q:b.1<m
   · rw[if_pos q,if_neg (by show¬m<3;omega),if_pos ⟨by omega,q⟩]
   · rw[if_neg q,if_neg c,if_neg (fun z=>q z.2)]
theorem Cu (s : ByteArray) (i : Nat) (hs : s.size < 32000) (hi : i < s.size) (v4 : AV) (c5 : Nat) : ∀ (n : Nat) (b : Nat × Nat) (d : Int) (h : H), n ≤ i → d = (i : Int) - n + 1 → h.get c5 = some [.int .i64 0, .int .i64 (GN b).1, .int .i64 (GN b).2] → h.floor ≤ c5 →
 ∃e' h',Lp AP.A [0,1,4,5,6] AP.f344L0 [(0,.str s),(1,.int .i64 i),(4,v4),(5,.aD c5 0),(6,.int .i64 d)] h=some (.exit 0,e',h')∧look e' 4=v4∧look e' 5=.aD c5 0∧h'.get c5=some [.int .i64 0,.int .i64 (GN (wN s i n b)).1,.int .i64 (GN (wN s i n b)).2]∧(∀j,j≠c5→h'.get j=h.get j)∧h'.next=h.next∧h'.floor=h.floor
 | 0, b, d, h, hn, hd, hg, hf => by
   refine⟨[(0,.str s),(1,.int .i64 i),(4,v4),(5,.aD c5 0),(6,.int .i64 d),(11,.bool false)],h,tM ?_,rfl,rfl,hg,fun _ _=>rfl,rfl,rfl⟩
   have m:HA (i:Int) 32768=i:=by unfold HA;rw[if_neg (by omega)]
   have c:¬d≤(i:Int):=by omega
   simp (disch:=omega)only[go_sem,vT,AP.f344L0,Cs,AZ,m,c]
 | n + 1, b, d, h, hn, hd, hg, hf => by
   have m:HA (i:Int) 32768=i:=by unfold HA;rw[if_neg (by omega)]
   have c:d≤(i:Int):=by omega
   obtain⟨D,rfl⟩:∃D:Nat,d=D:=XT (by omega)
   have k1:=fun g=>RY g s i D (by omega) (by omega) (by omega)
   have eD:i-D=n:=by omega
   rw[eD]at k1
   have k2:=HS s i n
   have st:=Nx b (same s i n) (i-n)
   have iD:i-n=D:=by omega
   rw[wN]
   by_cases q:3≤same s i n∧(GN b).1<same s i n
   · rw[if_pos q,iD]at st
     rw[iD]
     obtain⟨e',h',L,r1,r2,r3,r4,r5,r6⟩:=Cu s i hs hi v4 c5 n (if b.1<same s i n then(same s i n,D)else b) ((D:Int)+1) (h.set c5 [.int .i64 0,.int .i64 (same s i n:Nat),.int .i64 D]) (by omega) (by omega) (by rw[v9 rfl,hg,st];rfl) (by simpa using hf)
     refine⟨e',h',tN ?_ L,r1,r2,r3,fun j hj=>by rw[r4 j hj,vN hj],by rw[r5];simp,by rw[r6];simp⟩
     have q1:(3:Int)≤(same s i n:Nat):=by omega
     have q2:((GN b).1:Int)<(same s i n:Nat):=by omega
     clear L r3 r4 st
     generalize same s i n=M at *
     generalize (GN b).1=B1 at *
     generalize (GN b).2=B2 at *
     simp (disch:=omega)only[go_sem,vT,AP.f344L0,Cs,AZ,m,c,k1,q1,q2,hg]
   · rw[if_neg q]at st
     obtain⟨e',h',L,r1,r2,r3,r4,r5,r6⟩:=Cu s i hs hi v4 c5 n (if b.1<same s i n then(same s i n,i-n)else b) ((D:Int)+1) h (by omega) (by omega) (by rw[st];exact hg) hf
     refine⟨e',h',tN ?_ L,r1,r2,r3,r4,r5,r6⟩
     clear L r3 r4 st
     generalize same s i n=M at *
     generalize (GN b).1=B1 at *
     generalize (GN b).2=B2 at *
     by_cases q1:(3:Int)≤(M:Nat)
     · have q2:¬(B1:Int)<(M:Nat):=by omega
       simp (disch:=omega)only[go_sem,vT,AP.f344L0,Cs,AZ,m,c,k1,q1,q2,hg]
     · simp (disch:=omega)only[go_sem,vT,AP.f344L0,Cs,AZ,m,c,k1,q1]
theorem O3 (h:H) (s:ByteArray) (i:Nat) (hs:s.size<32000) (hi:i<s.size):aR AP.A 344 [.str s,.int .i64 i] h=some (.agg [.int .i64 0,.int .i64 (GN (wN s i i (0,0))).1,.int .i64 (GN (wN s i i (0,0))).2],h):=by
 obtain⟨g,eg⟩:∃g,g=(h.dN.alloc [.int .i64 0,.int .i64 0,.int .i64 0]).alloc [.int .i64 0,.int .i64 0,.int .i64 0]:=⟨_,rfl⟩
 obtain⟨e',h',L,r1,r2,r3,r4,r5,r6⟩:=Cu s i hs hi (.aD h.next 0) (h.next+1) i (0,0) 1 g (vm _) (by omega) (by rw[eg,vZ (by simp)];try rfl) (by rw[eg];simp;try omega)
 have g4:h'.get h.next=some [.int .i64 0,.int .i64 0,.int .i64 0]:=by rw[r4 _ (by omega),eg,vW (by simp),vZ (by simp)]
 have f1:h'.floor=h.next:=by rw[r6,eg];simp
 generalize (GN (wN s i i (0,0))).1=B1 at *
 generalize (GN (wN s i i (0,0))).2=B2 at *
 have g5:(h'.set h.next [.int .i64 0,.int .i64 B1,.int .i64 B2]).get h.next=some [.int .i64 0,.int .i64 B1,.int .i64 B2]:=by rw[v9 rfl,g4];rfl
 refine uz (fn:=AP.f344) (h2:=h'.set h.next [.int .i64 0,.int .i64 B1,.int .i64 B2]) (e:=[(4,.aD h.next 0)]) (vs:=[.agg [.int .i64 0,.int .i64 B1,.int .i64 B2]]) rfl rfl rfl ?_ ?_ rfl
 · have hN:h.dN.next=h.next:=rfl
   have hN2:(h.dN.alloc [.int .i64 0,.int .i64 0,.int .i64 0]).next=h.next+1:=by simp
   clear r4
   simp (disch:=omega)only[go_sem,vT,AP.f344,hN,hN2,←eg,sG,L,r1,r2,r3,g4,f1,Oo,vu,Yz,X9]
 · simp (disch:=omega)only[go_sem,vT,AP.f344,cw,nC,g5,Oo,vu,Yz,X9]
   rfl
theorem Lh (h:H) (l:List Int):Rd h (Am (ints l)) (ints l):=by
 unfold Am
 by_cases c:ints l=[]
 · rw[if_pos c,c];exact⟨rfl,by intro s e;cases e⟩
 · rw[if_neg c]
   refine⟨by simp [aS,vD],by intro s e;cases e⟩
theorem LP (p:List Int) (x:Int) {n:Nat} (hn:1≤n):xw (p++[x]) n=xw p n+if x=(n:Int)then 1 else 0:=by
 rw[AA]
 congr 1
 by_cases c:x=(n:Int)
 · rw[if_pos ⟨by omega,c⟩,if_pos c]
 · rw[if_neg (fun q=>c q.2),if_neg c]
theorem E0 {l : List Int} (hl : l.length < 1000) (T : List AV) (v25 : AV) (id n : Nat) (hn1 : 1 ≤ n) (hn : n ≤ 15) (hT : T[n]? = some (.int .i64 (vR l n))) : ∀ (q p : List Int) (h : H), l = p ++ q → h.floor ≤ id → h.get id = some ((xg l n p.length).flatMap wU) →
 ∃h',Lp AP.A [4,6,7,25,26,30,31,32] AP.f338L0 [(4,.aK T 0),(6,.aE id 0 l.length 2),(7,.int .i64 n),(25,v25),(26,.int .i64 n),(30,Am (ints (syms l n))),(31,.int .i64 (xw l n)),(32,.int .i64 (xw p n))] h=some (.exit 2,[(4,.aK T 0),(6,.aE id 0 l.length 2),(7,.int .i64 n),(25,v25),(26,.int .i64 n),(30,Am (ints (syms l n))),(31,.int .i64 (xw l n)),(32,.int .i64 (xw l n)),(33,.bool false)],h')∧h'.floor=h.floor∧h'.get id=some ((xg l n l.length).flatMap wU)
 | [], p, h, hp, hf, hg => by
   rw[XZ]at hp;subst hp
   refine⟨h,tM ?_,rfl,hg⟩
   simp (disch:=omega)only[go_sem,vT,AP.f338L0]
 | y :: q, p, h, hp, hf, hg => by
   have hlen:l.length=p.length+(q.length+1):=by rw[hp];simp
   have hy:l.getD p.length 0=y:=by rw[XN,hp];simp
   have tk:l.take p.length=p:=by rw[hp];simp
   have ls:=LP p y hn1
   have sl:(p++[y]).length=p.length+1:=by simp
   by_cases c:y=(n:Int)
   · rw[if_pos c]at ls
     have sa:=Lu (l:=l) (s:=p.length) (by omega) hn1 (hy.trans c)
     rw[tk]at sa
     have hit:=Gd (l:=l) (i:=p.length) (by omega) hn1 (hy.trans c)
     rw[tk]at hit
     obtain⟨ad,a1,a2⟩:=(Lh h (syms l n)).xi
     have sc:=AU l n
     have il:xw p n<xw l n:=by have:=(vh.1 sa).1;omega
     have b1:=a1 (xw p n) ⟨by omega,by omega⟩
     have b2:=a2 h (Ext.refl h) (xw p n) _ sa
     have fb:=zQ (l:=l) (by omega) n
     have pw:=zV hn
     have cl:=Ay l n
     obtain⟨h',L,f1,g1⟩:=E0 hl T v25 id n hn1 hn hT q (p++[y]) (h.set id ((xg l n (p.length+1)).flatMap wU)) (by rw[hp];simp) (by simpa using hf) (by rw[v9 rfl,hg,sl];rfl)
     have st:uD h id (p.length* 2) 2 [.int .i64 (n:Int),.int .i64 (vR l n+(xw p n:Int))] (some ((xg l n p.length).flatMap wU))=some (h.set id ((xg l n (p.length+1)).flatMap wU)):=by
      rw[Lq,←hit,←Ke yU _ _ _ (by rw[AD];omega)]
      have:=Bx yU (xg l n p.length)
      rw[AD]at this
      simp only[this,hf,XO,XR,decide_true,AV.aC,AV.sc,Bool.and_true,Bool.true_and,show p.length* 2+2≤l.length* 2 by omega]
      rfl
     refine⟨h',tN ?_ L,by rw[f1];simp,g1⟩
     rw[ls]
     have n1:((xw p n+1:Nat):Int)=(xw p n:Int)+1:=by omega
     rw[n1]
     have ib:cN (.int .i64 (p.length:Nat)) l.length=some p.length:=by
      have:(p.length:Int)<l.length:=by omega
      simp [cN,nR,this]
     have il':((xw p n:Nat):Int)<(xw l n:Nat):=by omega
     clear L g1 a1 a2 hit sa ls
     generalize (xg l n (p.length+1)).flatMap wU=E2 at *
     generalize (xg l n p.length).flatMap wU=E at *
     generalize Am (ints (syms l n))=SV at *
     generalize vR l n=F at *
     generalize xw p n=k at *
     generalize xw l n=K at *
     simp (disch:=omega)only[go_sem,vT,AP.f338L0,il',b1,b2,hT,ib,hg,st]
   · rw[if_neg c,Nat.add_zero]at ls
     have miss:=EJ (l:=l) (b:=n) (i:=p.length) (by rw[hy];exact c)
     obtain⟨h',L,f1,g1⟩:=E0 hl T v25 id n hn1 hn hT q (p++[y]) h (by rw[hp];simp) hf (by rw[sl,miss];exact hg)
     rw[ls]at L
     exact⟨h',L,f1,g1⟩
theorem Nv (l:List Int):jc false (Am (ints l))=some (.int .i64 l.length):=by
 have:=(Lh (H.empty) l).len
 rw[pY]at this;exact this
theorem IP {l:List Int} (hl:l.length<1000) (T SS:List AV) (id:Nat) (hT:∀n,1≤n→n≤15→T[n]?=some (.int .i64 (vR l n))) (hS:∀n,n≤15→SS[n]?=some (Am (ints (syms l n)))):∀(m n:Nat) (h:H),n+m=16→1≤n→h.floor≤id→h.get id=some ((xg l n 0).flatMap wU)→
 ∃e' h',Lp AP.A [4,6,25,26] AP.f338L1 [(4,.aK T 0),(6,.aE id 0 l.length 2),(25,.agg SS),(26,.int .i64 n)] h=some (.exit 0,e',h')∧look e' 6=.aE id 0 l.length 2∧h'.floor=h.floor∧h'.get id=some ((xg l 16 0).flatMap wU)
 | 0, n, h, hm, hn, hf, hg => by
   obtain rfl:n=16:=by omega
   refine⟨[(4,.aK T 0),(6,.aE id 0 l.length 2),(25,.agg SS),(26,.int .i64 16),(27,.bool false)],h,tM ?_,rfl,rfl,hg⟩
   simp (disch:=omega)only[go_sem,vT,AP.f338L1]
 | m + 1, n, h, hm, hn, hf, hg => by
   obtain⟨h1,L1,f1,g1⟩:=E0 hl T (.agg SS) id n hn (by omega) (hT n hn (by omega)) l [] h rfl hf hg
   have c0:xw [] n=0:=by simp [xw]
   rw[c0]at L1
   obtain⟨e',h',L,q1,q2,q3⟩:=IP hl T SS id hT hS m (n+1) h1 (by omega) (by omega) (by omega) (by rw[EK];exact g1)
   refine⟨e',h',tN ?_ L,q1,by rw[q2,f1],q3⟩
   have hs:=hS n (by omega)
   have ln:=Nv (syms l n)
   rw[AU]at ln
   have n1:((n+1:Nat):Int)=(n:Int)+1:=by omega
   have MI:(n:Int)<16:=by omega
   have ia:my false 16 1 (.agg SS) (.int .i64 n)=some (Am (ints (syms l n))):=by
    simp [my,cN,nR,MI,gW,hs]
   have L1':Lp AP.A [4,6,7,25,26,30,31,32] AP.f338L0 [(4,.aK T 0),(6,.aE id 0 l.length 2),(7,.int .i64 n),(25,.agg SS),(26,.int .i64 n),(30,Am (ints (syms l n))),(31,.int .i64 (xw l n)),(32,.int .i64 0)] h=_:=L1
   rw[n1]
   clear L L1 q3 g1 hs
   generalize Am (ints (syms l n))=SV at *
   simp (disch:=omega)only[go_sem,vT,AP.f338L1,MI,ia,ln,sG,L1']
theorem PH (h:H) (x:AV) (l:List Int) (hl:l.length<1000) (rd:Rd h x (ints l)) (hm:AL l=true) (h0:0≤wh l 15):aR AP.A 348 [x] h=some (.bM [wE l,.int .i64 0],h):=by
 have rd':=rd.mono (vX h)
 have k1:=Pm h.dN x l (by omega) rd'
 rw[hm]at k1
 have k2:=BD h.dN x l (by omega) (AM hm) rd'
 have hb:wE l=.aK (nK 49 (xZ l)) 0:=rfl
 have g:(nK 49 (xZ l))[48]?=some (.int .i64 (wh l 15)):=by rw[fK (by omega)];rfl
 have c:¬wh l 15<0:=by omega
 rw[hb]at k2 ⊢
 generalize nK 49 (xZ l)=T at *
 refine uz (fn:=AP.f348) (h2:=h.dN) (e:=[(2,.aK T 0),(3,.int .i64 0)]) (vs:=[.aK T 0,.int .i64 0]) rfl rfl rfl ?_ rfl rfl
 simp (disch:=omega)only[go_sem,vT,AP.f348,k1,k2,g,c]
theorem BI (h:H) (x:AV) (l:List Int) (h1:1≤l.length) (hl:l.length<1000) (rd:Rd h x (ints l)) (hc:we l=0∨we l=302):aR AP.A 338 [x] h=some (.bM [zG l,.int .i64 0],h):=by
 have y9:Rd h.dN x (ints l):=rd.mono (vX h)
 have hm:AL l=true:=by
  unfold we at hc
  by_cases q:AL l=false
  · rw[if_pos q]at hc;omega
  · simpa using q
 have h0:0≤wh l 15:=by
  unfold we at hc
  rw[if_neg (by rw[hm];decide)]at hc
  by_cases q:wh l 15<0
  · rw[if_pos q]at hc;omega
  · omega
 have hr:=AM hm
 have k:=PH h.dN x l hl y9 hm h0
 obtain⟨g,eg⟩:∃g,g=h.dN.alloc (yE l.length [.int .i64 0,.int .i64 0]):=⟨_,rfl⟩
 have hn:h.dN.next=h.next:=rfl
 have gg:g.get h.next=some ((xg l 1 0).flatMap wU):=by rw[eg,vZ (by simp),BK,EL]
 have gf:g.floor=h.next:=by rw[eg];simp
 have ln:=rd.len
 rw[pY]at ln
 simp only[I]at ln
 obtain⟨T,eT⟩:∃T,T=nK 49 (xZ l):=⟨_,rfl⟩
 have hT:∀n,1≤n→n≤15→T[n]?=some (.int .i64 (vR l n)):=fun n _ hn=>by
  rw[eT,fK (by omega),xZ,if_pos (by omega)];rfl
 have hS:∀n,n≤15→((T.drop 32).take 16)[n]?=some (Am (ints (syms l n))):=fun n hn=>by
  rw[List.getElem?_take_of_lt (by omega),vz,eT,fK (by omega),xZ,if_neg (by omega),if_neg (by omega),if_pos (by omega),show 32+n-32=n by omega]
 have hb:wE l=.aK T 0:=by rw[eT];rfl
 have lT:T.length=49:=by rw[eT];simp [nK]
 rw[hb]at k
 obtain⟨e',h',L,q1,q2,q3⟩:=IP hl T ((T.drop 32).take 16) h.next hT hS 15 1 g (by omega) (by omega) (by omega) gg
 have L0:∃e',Lp AP.A [4,6,25,26] AP.f338L1 [(4,.aK T 0),(6,.aE h.next 0 l.length 2),(25,.agg ((T.drop 32).take 16)),(26,.int .i64 0)] g=some (.exit 0,e',h')∧look e' 6=.aE h.next 0 l.length 2:=by
  refine⟨e',tN ?_ L,q1⟩
  have hs:=hS 0 (by omega)
  have ia:my false 16 1 (.agg ((T.drop 32).take 16)) (.int .i64 0)=some .aP:=by
   have hs':((T.drop 32).take 16)[0]?=some .aP:=by rw[hs];rfl
   show gW false 1 ((T.drop 32).take 16) 0=_
   unfold gW
   rw[if_neg (by decide)]
   exact hs'
  have Li:Lp AP.A [4,6,7,25,26,30,31,32] AP.f338L0 [(4,.aK T 0),(6,.aE h.next 0 l.length 2),(7,.int .i64 0),(25,.agg ((T.drop 32).take 16)),(26,.int .i64 0),(30,.aP),(31,.int .i64 0),(32,.int .i64 0)] g=some (.exit 2,[(4,.aK T 0),(6,.aE h.next 0 l.length 2),(7,.int .i64 0),(25,.agg ((T.drop 32).take 16)),(26,.int .i64 0),(30,.aP),(31,.int .i64 0),(32,.int .i64 0),(33,.bool false)],g):=by
   refine tM ?_
   simp (disch:=omega)only[go_sem,vT,AP.f338L0]
  clear L q3 hs hT hS
  generalize (T.drop 32).take 16=SS at *
  have MI:(0:Int)<16:=by omega
  simp (disch:=omega)only[go_sem,vT,AP.f338L1,MI,ia,Hk,sG,Li]
 obtain⟨e0,L0,q0⟩:=L0
 rw[Gc hr]at q3
 have ce:(vO l).length=l.length:=by simp [vO]
 have ow:wz 2 h' (.aE h.next 0 l.length 2) l.length ((vO l).flatMap wU):=⟨by rw[Bx yU,ce],.inr ⟨h.next,rfl,q3,by omega,by omega⟩⟩
 refine uz (fn:=AP.f338) (h2:=h') (e:=[(2,.aE h.next 0 l.length 2),(3,.int .i64 0)]) (vs:=[.aE h.next 0 l.length 2,.int .i64 0]) rfl rfl rfl ?_ rfl ?_
 · have ld:bQ true 16 (.aK T 32) g=some (.agg ((T.drop 32).take 16)):=by
    show gW true 16 T 32=_
    simp [gW,lT]
   clear ow q3 rd y9 hr L hT hS gg
   generalize (T.drop 32).take 16=SS at *
   have ld':gW true 16 T 32=some (.agg SS):=ld
   simp (disch:=omega)only[go_sem,vT,AP.f338,k,ln,←eg,hn,ld',sG,L0,q0]
 · have o':=ow
   rw[Ac]at o'
   have s1:=o'.yi (fl:=h.next) (m:=13) (t:=true) (by omega)
   show(fD (snap h'.get h.next 15 true) [.aE h.next 0 l.length 2,.int .i64 0]).bind _=_
   simp only[fD,s1,vi]
   rw[←Ac];rfl
theorem Mt (s : ByteArray) (hs : s.size < 32000) : ∀ (f i : Nat) (h : H) (ov : AV) (ts : List Tok), s.size - i ≤ f → i ≤ s.size → ts.length ≤ i → wz 3 h ov ts.length (wJ ts) → h.floor ≤ h.next →
 ∃e' h' ov',Lp AP.A [0,4,5] AP.f332L0 [(0,.str s),(4,ov),(5,.int .i64 i)] h=some (.exit 0,e',h')∧look e' 4=ov'∧wz 3 h' ov' (ts++Ao s f i).length (wJ (ts++Ao s f i))∧h'.floor=h.floor∧h.next≤h'.next:=by
 have stop:∀(i:Nat) (h:H) (ov:AV),s.size≤i→∃e',Lp AP.A [0,4,5] AP.f332L0 [(0,.str s),(4,ov),(5,.int .i64 i)] h=some (.exit 0,e',h)∧look e' 4=ov:=by
  intro i h ov hi
  refine⟨[(0,.str s),(4,ov),(5,.int .i64 i),(13,.bool false)],tM ?_,rfl⟩
  have c:¬(i:Int)<s.size:=by omega
  simp (disch:=omega)only[go_sem,vT,AP.f332L0,xD,c]
 intro f
 induction f with
 | zero =>
   intro i h ov ts hf hi hts o hfn
   obtain⟨e',r1,r2⟩:=stop i h ov (by omega)
   exact⟨e',h,ov,r1,r2,by simpa [Ao]using o,rfl,vm _⟩
 | succ f ih =>
   intro i h ov ts hf hi hts o hfn
   by_cases c0:i<s.size
   · have kb:=fun g=>O3 g s i hs c0
     have hb:=Dp s i
     have lt:=FM s i
     have le:=FK s i c0
     have bsp:=Cd s i (by omega) i (0,0) (vm _) (.inl rfl)
     have hx:=BT (s:=s) (i:=(i:Int)) ⟨by omega,by omega⟩
     rw[show((i:Int)).toNat=i by omega]at hx
     have c0':(i:Int)<s.size:=by omega
     have fin:∀(g:H) (t:Tok) (i':Nat),xQ s i=(t,i')→g.floor=h.floor→g.next=h.next+1→(∀j,j<h.next→g.get j=h.get j)→(∀(v':AV) (h':H),kM (g.alloc (FN t)) 3 24 ov (.aE g.next 0 1 3)=some (v',h')→h'.get h.next=g.get h.next→aL (aR AP.A) bq AP.f332L0 (ay [(0,.str s),(4,ov),(5,.int .i64 i)] [0,4,5]) h=some (.normal,[(0,.str s),(4,v'),(5,.int .i64 i')],h'))→
      ∃e' h' ov',Lp AP.A [0,4,5] AP.f332L0 [(0,.str s),(4,ov),(5,.int .i64 i)] h=some (.exit 0,e',h')∧look e' 4=ov'∧wz 3 h' ov' (ts++Ao s (f+1) i).length (wJ (ts++Ao s (f+1) i))∧h'.floor=h.floor∧h.next≤h'.next:=by
      intro g t i' et gf gn gk hstep
      have og:wz 3 g ov ts.length (wJ ts):=o.mono gf fun j hj=>gk j (o.lt hj).2
      obtain⟨v',h',p1,p2,p3,p4,p5,p6⟩:=og.push (by omega) (z:=24) (m:=1) (by omega) (by omega) (FN t) rfl rfl (by simp [roomy];omega)
      have hon:ov.id?≠some h.next:=fun q=>by have:=(o.lt q).2;omega
      have step:=hstep v' h' p1 (p5 h.next hon (by omega))
      rw[et]at lt le
      simp only at lt le
      have o2:wz 3 h' v' (ts++[t]).length (wJ (ts++[t])):=by rw[FP,vI];exact p2
      obtain⟨e',h2,ov',r1,r2,r3,r4,r5⟩:=ih i' h' v' (ts++[t]) (by omega) le (by simp;omega) o2 (by omega)
      refine⟨e',h2,ov',tN step r1,r2, ?_,by omega,by omega⟩
      rw[Ao,if_pos c0,et]
      simpa using r3
     by_cases c1:(wN s i i (0,0)).1<3
     · have et:xQ s i=(⟨zq s i,0,0⟩,i+1):=if_pos c1
       have e1:GN (wN s i i (0,0))=(0,0):=if_pos c1
       rw[e1]at kb
       obtain⟨g,eg⟩:∃g,g=((h.alloc [.int .i64 0,.int .i64 0,.int .i64 0]).set h.next [.int .i64 0,.int .i64 0,.int .i64 0]).set h.next [.int .i64 (zq s i:Nat),.int .i64 0,.int .i64 0]:=⟨_,rfl⟩
       have gg0:g.get h.next=some [.int .i64 (zq s i:Nat),.int .i64 0,.int .i64 0]:=by rw[eg,v9 rfl,v9 rfl,vZ rfl];rfl
       refine fin g _ _ et (by rw[eg];simp) (by rw[eg];simp) (fun j hj=>by rw[eg,vN (by omega),vN (by omega),vW (by omega)]) fun v' h' ap gh=> ?_
       rw[gg0]at gh
       simp only[FN,MD,ints,XX,Yk,I]at ap
       have n1:((i+1:Nat):Int)=(i:Int)+1:=by omega
       have m1:DG 1 0=1:=rfl
       have kb':∀g:H,aR AP.A 344 [.str s,.int .i64 i] g=some (.agg [.int .i64 0,.int .i64 0,.int .i64 0],g):=kb
       have w8:IntKind.wrap .i64 ((zq s i:Nat):Int)=((zq s i:Nat):Int):=wi (by omega)
       have cz:((0:Int)==0)=true:=by decide
       rw[n1]
       clear kb ih o bsp fin lt le
       generalize ((zq s i:Nat):Int)=Y at *
       simp (disch:=first|omega|(simp only[xk,XO,XR,vr,Nat.reduceAdd];first|done|omega|fail)|(simp (disch:=first|omega|(simp only[xk,XO,XR,vr,Nat.reduceAdd];first|done|omega|fail)|fail)only[xk,Bb,XU,XO,XR,vr,Nat.reduceAdd];done)|fail)only[go_sem,vT,Ba,]at ap
       simp (disch:=first|omega|(simp only[xk,XO,XR,vr,Nat.reduceAdd,gg0];first|done|omega|fail)|(simp (disch:=first|omega|(simp only[xk,XO,XR,vr,Nat.reduceAdd,gg0];first|done|omega|fail)|fail)only[xk,Bb,XU,XO,XR,vr,Nat.reduceAdd,gg0];done)|fail)only[go_sem,vT,Ba,AP.f332L0,xD,c0',kb',hx,HG,El,m1,cz,w8,←eg,gg0,ap,gh]
     · have et:xQ s i=(⟨0,(wN s i i (0,0)).1,(wN s i i (0,0)).2⟩,i+(wN s i i (0,0)).1):=if_neg c1
       have e1:GN (wN s i i (0,0))=wN s i i (0,0):=if_neg c1
       rw[e1]at kb
       have b258:(wN s i i (0,0)).1≤258:=by
        rcases bsp with q|q
        · omega
        · exact q.1
       obtain⟨g,eg⟩:∃g,g=(h.alloc [.int .i64 0,.int .i64 0,.int .i64 0]).set h.next [.int .i64 0,.int .i64 (wN s i i (0,0)).1,.int .i64 (wN s i i (0,0)).2]:=⟨_,rfl⟩
       have gg0:g.get h.next=some [.int .i64 0,.int .i64 (wN s i i (0,0)).1,.int .i64 (wN s i i (0,0)).2]:=by rw[eg,v9 rfl,vZ rfl];rfl
       refine fin g _ _ et (by rw[eg];simp) (by rw[eg];simp) (fun j hj=>by rw[eg,vN (by omega),vW (by omega)]) fun v' h' ap gh=> ?_
       rw[gg0]at gh
       simp only[FN,MD,ints,XX,Yk,I]at ap
       have n1:((i+(wN s i i (0,0)).1:Nat):Int)=(i:Int)+((wN s i i (0,0)).1:Nat):=by omega
       have m1:DG 1 ((wN s i i (0,0)).1:Int)=((wN s i i (0,0)).1:Int):=by unfold DG;split<;>omega
       have cb:(((wN s i i (0,0)).1:Int)==0)=false:=by simp;omega
       rw[n1]
       clear ih o bsp et e1 hx fin lt le
       generalize (wN s i i (0,0)).1=B1 at *
       generalize (wN s i i (0,0)).2=B2 at *
       simp (disch:=first|omega|(simp only[xk,XO,XR,vr,Nat.reduceAdd];first|done|omega|fail)|(simp (disch:=first|omega|(simp only[xk,XO,XR,vr,Nat.reduceAdd];first|done|omega|fail)|fail)only[xk,Bb,XU,XO,XR,vr,Nat.reduceAdd];done)|fail)only[go_sem,vT,Ba,]at ap
       simp (disch:=first|omega|(simp only[xk,XO,XR,vr,Nat.reduceAdd,gg0];first|done|omega|fail)|(simp (disch:=first|omega|(simp only[xk,XO,XR,vr,Nat.reduceAdd,gg0];first|done|omega|fail)|fail)only[xk,Bb,XU,XO,XR,vr,Nat.reduceAdd,gg0];done)|fail)only[go_sem,vT,Ba,AP.f332L0,xD,c0',kb,cb,HG,El,m1,←eg,gg0,ap,gh]
   · obtain⟨e',r1,r2⟩:=stop i h ov (by omega)
     exact⟨e',h,ov,r1,r2,by simpa [Ao,c0]using o,rfl,vm _⟩
theorem Mv (h:H) (s:ByteArray):aR AP.A 332 [.str s] h=some (if 300<s.size then .bM [.aP,.int .i64 500]else .bM [Aw (tokens s),.int .i64 0],h):=by
 by_cases c:300<s.size
 · rw[if_pos c]
   refine uz (fn:=AP.f332) (h2:=h.dN) (e:=[(2,.aP),(3,.int .i64 500)]) (vs:=[.aP,.int .i64 500]) rfl rfl rfl ?_ rfl rfl
   have c':(300:Int)<s.size:=by omega
   simp (disch:=omega)only[go_sem,vT,AP.f332,xD,c']
 · rw[if_neg c]
   obtain⟨e',h',ov',r1,r2,r3,r4,r5⟩:=Mt s (by omega) s.size 0 h.dN .aP [] (by omega) (by omega) (by simp) wz.nil (by simp)
   have r1':Lp AP.A [0,4,5] AP.f332L0 [(0,.str s),(4,.aP),(5,.int .i64 0)] h.dN=some (.exit 0,e',h'):=r1
   clear r1
   rw[Yr]at r3
   refine uz (fn:=AP.f332) (h2:=h') (e:=[(2,ov'),(3,.int .i64 0)]) (vs:=[ov',.int .i64 0]) rfl rfl rfl ?_ rfl ?_
   · have c':¬(300:Int)<s.size:=by omega
     simp (disch:=omega)only[go_sem,vT,AP.f332,xD,c',sG,r1',r2]
   · have o':=r3
     rw[Ag]at o'
     have s1:=o'.yi (fl:=h.next) (m:=13) (t:=true) (by rw[r4];simp)
     show(fD (snap h'.get h.next 15 true) [ov',.int .i64 0]).bind _=_
     simp only[fD,s1,vi]
     rw[←Ag];rfl
theorem Jj {P:List Nat} {i b:Nat} (h:i%8=0) (hl:P.length=i/8):wZ P i b=P++[b]:=by
 unfold wZ
 rw[if_pos h]
 dsimp only
 rw[←hl,h]
 rw[XN,X0 (vm _),YB]
 rw[Yn _ _ (vm _),YB]
 simp
theorem HH {P:List Nat} {a i b:Nat} (h:¬i%8=0) (hl:P.length=i/8):wZ (P++[a]) i b=P++[a|||b* 2^(i%8)]:=by
 unfold wZ
 rw[if_neg h]
 dsimp only
 rw[←hl]
 rw[XN,X0 (vm _),YB]
 rw[Yn _ _ (vm _),YB]
 simp
theorem Xj:∀b,b<256→b/2^0%2|||b/2^1%2* 2^1|||b/2^2%2* 2^2|||b/2^3%2* 2^3|||b/2^4%2* 2^4|||b/2^5%2* 2^5|||b/2^6%2* 2^6|||b/2^7%2* 2^7=b:=by decide+kernel
theorem Ku {bs:List Nat} (h:bs.length%8=0) {b:Nat} (hb:b<256):wD (bs++wc b 8)=wD bs++[b]:=by
 have pl:=yT bs
 have e:wD (bs++wc b 8)=yk (wc b 8) bs.length (wD bs):=by
  unfold wD;rw[Ct,vr]
 rw[e]
 obtain⟨n,hn⟩:∃n,n=bs.length:=⟨_,rfl⟩
 rw[←hn]at h pl ⊢
 generalize wD bs=P at *
 have lP:P.length=n/8:=by omega
 show yk [b/2^0%2,b/2^1%2,b/2^2%2,b/2^3%2,b/2^4%2,b/2^5%2,b/2^6%2,b/2^7%2] n P=_
 have m:∀k,1≤k→k<8→(n+k)%8=k∧P.length=(n+k)/8:=fun k h1 h2=>by omega
 simp only[yk]
 rw[Jj h lP]
 have st:∀k a c,1≤k→k<8→wZ (P++[a]) (n+k) c=P++[a|||c* 2^k]:=fun k a c h1 h2=>by
  obtain⟨m1,m2⟩:=m k h1 h2
  rw[HH (by omega) m2,m1]
 rw[st 1 _ _ (by omega) (by omega)]
 rw[show n+1+1=n+2 by omega,st 2 _ _ (by omega) (by omega)]
 rw[show n+2+1=n+3 by omega,st 3 _ _ (by omega) (by omega)]
 rw[show n+3+1=n+4 by omega,st 4 _ _ (by omega) (by omega)]
 rw[show n+4+1=n+5 by omega,st 5 _ _ (by omega) (by omega)]
 rw[show n+5+1=n+6 by omega,st 6 _ _ (by omega) (by omega)]
 rw[show n+6+1=n+7 by omega,st 7 _ _ (by omega) (by omega)]
 rw[Xj b hb]
def zK (s:ByteArray) (i:Nat):List Nat:=(List.range i).flatMap fun k=>wc (zq s k) 8
theorem CM (s:ByteArray) (i:Nat):zK s (i+1)=zK s i++wc (zq s i) 8:=by simp [zK,List.range_succ]
theorem DU (s:ByteArray):∀i,(zK s i).length=8* i
 |0=>rfl
 |i+1=>by rw[CM,vI,DU s i];simp [wc,wm];omega
theorem Eb (bs:List Nat) (h:bs.length%8=0) (s:ByteArray):∀i,wD (bs++zK s i)=wD bs++preB s i
 |0=>by simp [zK,preB]
 | i + 1 => by
   rw[CM,←XV,Ku (by rw[vI,DU];omega) (Dp s i),Eb bs h s i,DK,XV]
theorem Ip (s:ByteArray):bytesOf (preB s s.size)=s:=by
 apply ByteArray.ext
 apply Array.ext
 · have:=xf (preB s s.size)
   rw[yH]at this
   exact this
 · intro i h1 h2
   simp only[bytesOf,preB,List.map_map,List.getElem_toArray,List.getElem_map,List.getElem_range,Function.comp_apply]
   have hi:i<s.size:=h2
   unfold zq
   rw[show s[i]?=some s[i]by simp [hi]]
   simp
   rfl
theorem EH (a b:List Nat):bytesOf (a++b)=bytesOf a++bytesOf b:=by
 apply ByteArray.ext
 simp [bytesOf,ByteArray.data_append]
theorem JG (s:ByteArray):bytesOf (wD (xb s.size++zK s s.size))=xG s:=by
 have l:(xb s.size).length=40:=by simp [xb,wc,wm]
 rw[Eb _ (by omega),EH,Ip];rfl
theorem Lr (s:ByteArray) (hs:s.size≤300) (h0:H) (w:Nat):∀(m i:Nat) (bs:List Nat) (h:H) (ov:AV),i+m=s.size→WX h0 h w bs ov→bs.length+8* m≤60000→
 ∃h' ov',Lp AP.A [0,4,5,25,26] AP.f325L0 [(0,.str s),(4,.aD w 0),(5,.fn 335 [.aD w 0] []),(25,.int .i64 s.size),(26,.int .i64 i)] h=some (.exit 0,[(0,.str s),(4,.aD w 0),(5,.fn 335 [.aD w 0] []),(25,.int .i64 s.size),(26,.int .i64 s.size),(27,.bool false)],h')∧WX h0 h' w (bs++((List.range' i m).flatMap fun k=>wc (zq s k) 8)) ov'
 | 0, i, bs, h, ov, hi, x, hb => by
   obtain rfl:i=s.size:=by omega
   refine⟨h,ov,tM ?_,by simpa using x⟩
   simp (disch:=omega)only[go_sem,vT,AP.f325L0]
 | m + 1, i, bs, h, ov, hi, x, hb => by
   have bl:=Dp s i
   obtain⟨h1,o1,k1,w1,f1⟩:=zI x.wr (zq s i) 8 (by omega) (by omega) (by omega)
   obtain⟨h',ov',L,x2⟩:=Lr s hs h0 w m (i+1) (bs++wc (zq s i) 8) h1 o1 (by omega) (x.step w1 f1) (by simp [wc,wm];omega)
   refine⟨h',ov',tN ?_ L,by rw[List.range'_succ,XW,←XV];exact x2⟩
   have hx:=BT (s:=s) (i:=(i:Int)) ⟨by omega,by omega⟩
   rw[show((i:Int)).toNat=i by omega]at hx
   have c0:(i:Int)<s.size:=by omega
   have w8:IntKind.wrap .i64 ((zq s i:Nat):Int)=((zq s i:Nat):Int):=wi (by omega)
   have k1':aR AP.A 335 [.aD w 0,.int .i64 (zq s i:Nat),.int .i64 8] h=some (.int .i64 0,h1):=k1
   have n1:((i+1:Nat):Int)=(i:Int)+1:=by omega
   rw[n1]
   clear x x2 L w1 f1 k1
   generalize ((zq s i:Nat):Int)=Y at *
   simp (disch:=omega)only[go_sem,vT,AP.f325L0,c0,hx,w8,k1']
theorem Pa:∀n:Nat,n≤300→bits .xor .i64 (n:Int) 65535=65535-(n:Int):=by
 intro n hn
 have:∀n:Nat,n<301→decide (bits .xor .i64 ((n:Nat):Int) 65535=65535-((n:Nat):Int))=true:=by decide+kernel
 exact of_decide_eq_true (this n (by omega))
theorem GW (h:H) (s:ByteArray):aR AP.A 325 [.str s] h=some (if 300<s.size then .bM [.str ⟨#[]⟩,.int .i64 800]else .bM [.str (xG s),.int .i64 0],h):=by
 by_cases c:300<s.size
 · rw[if_pos c]
   have c':(300:Int)<s.size:=by omega
   refine uz (fn:=AP.f325) (h2:=h.dN) (e:=[(2,.str ⟨#[]⟩),(3,.int .i64 800)]) (vs:=[.str ⟨#[]⟩,.int .i64 800]) rfl rfl rfl ?_ rfl rfl
   simp (disch:=omega)only[go_sem,vT,AP.f325,xD,c']
 · rw[if_neg c]
   obtain⟨h1,o1,k1,x1,f1⟩:=KL (h:=h.dN) rfl 0 (by omega)
   have e0:wc 1 1++wc 0 2=wc 1 3:=by decide
   rw[e0]at x1
   obtain⟨h2,k2,w2,r2⟩:=NJ x1.wr 5 (by simp [wc,wm]) (by omega) (by simp [wc,wm])
   have x2:=x1.step w2 r2
   obtain⟨h3,o3,k3,w3,r3⟩:=zI x2.wr s.size 16 (by omega) (by omega) (by simp [wc,wm])
   have x3:=x2.step w3 r3
   obtain⟨h4,o4,k4,w4,r4⟩:=zI x3.wr (65535-s.size) 16 (by omega) (by omega) (by simp [wc,wm])
   have x4:=x3.step w4 r4
   have ee:wc 1 3++List.replicate 5 0++wc s.size 16++wc (65535-s.size) 16=xb s.size:=by unfold xb;simp only[XV]
   rw[ee]at x4
   obtain⟨h5,o5,L,x5⟩:=Lr s (by omega) h.dN h.dN.next s.size 0 _ h4 o4 (by omega) x4 (by simp [xb,wc,wm];omega)
   have eb:xb s.size++((List.range' 0 s.size).flatMap fun k=>wc (zq s k) 8)=xb s.size++zK s s.size:=by unfold zK;rw[List.range_eq_range']
   rw[eb]at x5
   have k6:=Lf x5.wr
   rw[JG s]at k6
   have hN:h.dN.next=h.next:=rfl
   rw[hN]at k1 k2 k3 k4 L k6
   have c':¬(300:Int)<s.size:=by omega
   have k1':aR AP.A 333 [.int .i64 0] h.dN=some (.aD h.next 0,h1):=k1
   have k3':aR AP.A 335 [.aD h.next 0,.int .i64 s.size,.int .i64 16] h2=some (.int .i64 0,h3):=k3
   have xo:=Pa s.size (by omega)
   have e4:((65535-s.size:Nat):Int)=65535-(s.size:Int):=by omega
   rw[e4]at k4
   have k4':aR AP.A 335 [.aD h.next 0,.int .i64 (65535-(s.size:Int)),.int .i64 16] h3=some (.int .i64 0,h4):=k4
   have L':Lp AP.A [0,4,5,25,26] AP.f325L0 [(0,.str s),(4,.aD h.next 0),(5,.fn 335 [.aD h.next 0] []),(25,.int .i64 s.size),(26,.int .i64 0)] h4=_:=L
   refine uz (fn:=AP.f325) (h2:=h5) (e:=[(2,.str (xG s)),(3,.int .i64 0)]) (vs:=[.str (xG s),.int .i64 0]) rfl rfl rfl ?_ rfl rfl
   clear x1 x2 x3 x4 x5 w2 w3 w4 r2 r3 r4 L k1 k3 k4 ee eb e0
   generalize xG s=TT at *
   generalize 65535-(s.size:Int)=Z at *
   simp (disch:=omega)only[go_sem,vT,AP.f325,xD,c',k1',k2,k3',xo,k4',sG,L',k6]
theorem C7 (W : List Int) (F : List Bool) : ∀ (m i : Nat) (a : Int), (a = -1 ∧ (∀ j, j < i → F.getD j false = false)) ∨ (∃ k : Nat, a = k ∧ k < i ∧ F.getD k false = true ∧ (∀ j, j < i → F.getD j false = true → W.getD k 0 ≤ W.getD j 0) ∧ ∀ j, j < k → F.getD j false = true → W.getD k 0 < W.getD j 0) →
 (xn W F m i a= -1)∨(∃k:Nat,xn W F m i a=k∧∀j,j<k→F.getD j false=true→W.getD k 0<W.getD j 0)
 | 0, i, a, h => by
   rcases h with ⟨h,_⟩|⟨k,h,_,_,_,h2⟩
   · exact .inl h
   · exact .inr ⟨k,h,h2⟩
 | m + 1, i, a, h => by
   rw[xn]
   refine C7 W F m (i+1) _ ?_
   by_cases c:F.getD i false=true∧(a<0∨W.getD i 0<W.getD a.toNat 0)
   · rw [if_pos c]
     refine .inr ⟨i,rfl,by omega,c.1,fun j hj hf=> ?_,fun j hj hf=> ?_⟩
     · by_cases q:j=i
       · subst q;exact Yq _
       · rcases h with ⟨_,h2⟩|⟨k,rfl,h1,h2,h3,h4⟩
         · rw[h2 j (by omega)]at hf;cases hf
         · have:=h3 j (by omega) hf
           have tk:((k:Nat):Int).toNat=k:=by omega
           rw[tk]at c
           have:=c.2
           omega
     · rcases h with ⟨_,h2⟩|⟨k,rfl,h1,h2,h3,h4⟩
       · rw[h2 j (by omega)]at hf;cases hf
       · have:=h3 j (by omega) hf
         have tk:((k:Nat):Int).toNat=k:=by omega
         rw[tk]at c
         have:=c.2
         omega
   · rw [if_neg c]
     rcases h with ⟨rfl,h2⟩|⟨k,rfl,h1,h2,h3,h4⟩
     · refine .inl ⟨rfl,fun j hj=> ?_⟩
       by_cases q:j=i
       · subst q
         cases e:F.getD j false with
         |false=>rfl
         |true=>exact absurd ⟨e,.inl (by omega)⟩ c
       · exact h2 j (by omega)
     · refine .inr ⟨k,rfl,by omega,h2,fun j hj hf=> ?_,h4⟩
       by_cases q:j=i
       · subst q
         have tk:((k:Nat):Int).toNat=k:=by omega
         rw[tk]at c
         have:¬(W.getD j 0<W.getD k 0):=fun x=>c ⟨hf,.inr x⟩
         omega
       · exact h3 j (by omega) hf
theorem I8 {W:List Int} {F:List Bool} (h:0≤xn W F W.length 0 (-1)):∀j,j<wW W F→F.getD j false=true→W.getD (wW W F) 0<W.getD j 0:=by
 rcases C7 W F W.length 0 (-1) (.inl ⟨rfl,fun j hj=>by omega⟩)with q|⟨k,q,r⟩
 · omega
 · have ek:wW W F=k:=by unfold wW;rw[q];omega
   rw[ek];exact r
structure Tz where
 w:Int
 m:Int
 L:List Int
def On (n N:Nat) (S:List Int) (r:Nat):Int:=if r<n then S.getD r 0 else(N:Int)+(r-n:Nat)
def yz (rc:Nat→Tz) (t:Nat):Int:=(rc t).w* 1000000+(rc t).m
def DD:List Int→List Int→List Int
 |O,[]=>O
 |O,s::r=>DD (xz O s.toNat) r
theorem E6:∀(L O:List Int),(DD O L).length=O.length
 |[],O=>rfl
 |s::r,O=>by rw[DD,E6 r,yo]
theorem RT (O:List Int) (i q:Nat) (hi:i<O.length):(xz O i).getD q 0=O.getD q 0+if i=q then 1 else 0:=by
 unfold xz
 rw[XN,X8]
 by_cases c:i=q
 · subst c;rw[if_pos rfl,if_pos hi,if_pos rfl];rfl
 · rw[if_neg c,if_neg c,XN];omega
theorem Hv:∀(L O:List Int) (q:Nat),(∀s∈L,s.toNat<O.length)→(DD O L).getD q 0=O.getD q 0+(L.map Int.toNat).count q
 |[],O,q,h=>by simp [DD]
 | s :: r, O, q, h => by
   rw[DD,Hv r _ q (fun t ht=>by rw[yo];exact h t (by simp [ht])),RT _ _ _ (h s (by simp)),XX,List.count_cons]
   by_cases c:s.toNat=q
   · subst c;simp;omega
   · simp [c]
structure CI (n N:Nat) (S:List Int):Prop where
 len:S.length=n
 O6:∀s∈S,0≤s∧s<N
 inc:∀i j,i<j→j<n→S.getD i 0<S.getD j 0
 nd:(S.map Int.toNat).Nodup
theorem CI.at {n N:Nat} {S:List Int} (o:CI n N S) {i:Nat} (h:i<n):0≤S.getD i 0∧S.getD i 0<N:=by
 refine o.O6 _ ?_
 rw[XN,XQ (by rw[o.len];exact h)]
 exact X4 _
theorem CI.inj {n N:Nat} {S:List Int} (o:CI n N S) {i j:Nat} (hi:i<n) (hj:j<n) (h:S.getD i 0=S.getD j 0):i=j:=by
 rcases Nat.lt_trichotomy i j with q|q|q
 · have:=o.inc i j q hj;omega
 · exact q
 · have:=o.inc j i q hi;omega
theorem R1 {n N:Nat} {S:List Int} (o:CI n N S) {r q:Nat} (h:r<q):On n N S r<On n N S q:=by
 unfold On
 by_cases c:q<n
 · rw[if_pos (by omega),if_pos c];exact o.inc r q h c
 · rw[if_neg c]
   split
   · rename_i a;have:=o.at a;omega
   · omega
structure H8 (n N:Nat) (tot:Int) (S:List Int) (G s:FS) (rc:Nat→Tz) (tr:Nat→Tr) (l:List Nat) (O:List Int):Prop where
 hv:Ax false n tot s (l.map tr)
 lw:s.W.length+l.length=2* n
 ll:l.length≤n
 fin:FS.yV (l.length-1) s=G
 so:CI n N S
 rel:∀t∈l,(rc t).w=s.W.getD (tr t).1 0∧(rc t).m=On n N S (tr t).1∧(rc t).L=(tr t).2.map fun p=>S.getD p.1 0
 out:∀t∈l,∀p∈(tr t).2,O.getD (S.getD p.1 0).toNat 0=((p.2:Nat):Int)
 zero:∀q,(∀s∈S,s.toNat≠q)→O.getD q 0=0
 len:O.length=N
theorem H8.perm {n N:Nat} {tot:Int} {S:List Int} {G s:FS} {rc:Nat→Tz} {tr:Nat→Tr} {l l':List Nat} {O:List Int} (v:H8 n N tot S G s rc tr l O) (p:l.Perm l'):H8 n N tot S G s rc tr l' O where
 hv:=v.hv.perm (p.map tr)
 lw:=by rw[←p.length_eq];exact v.lw
 ll:=by rw[←p.length_eq];exact v.ll
 fin:=by rw[←p.length_eq];exact v.fin
 so:=v.so
 rel t h:=v.rel t (p.mem_iff.2 h)
 out t h:=v.out t (p.mem_iff.2 h)
 zero:=v.zero
 len:=v.len
theorem I9 {n N:Nat} {S W:List Int} {F:List Bool} (so:CI n N S) (hl:F.length=W.length) (hW:W.length<2* n) (hn:n≤1000) (hN:N≤1000) {rc:Nat→Tz} {tr:Nat→Tr} {l:List Nat} (hf:∀i,F.getD i false=true→∃t∈l,(tr t).1=i) (ht:∀t∈l,F.getD (tr t).1 false=true) (rel:∀t∈l,(rc t).w=W.getD (tr t).1 0∧(rc t).m=On n N S (tr t).1) {t0:Nat} (h0:t0∈l) (hm:∀t∈l,yz rc t0≤yz rc t):
 (tr t0).1=wW W F∧0≤xn W F W.length 0 (-1)∧∀t∈l,W.getD (tr t0).1 0≤W.getD (tr t).1 0:=by
 obtain⟨l1,la,fa,ma⟩:=Cp hl (ht t0 h0)
 obtain⟨ta,hta,ea⟩:=hf _ fa
 have fi:=I8 l1
 have mr:∀t∈l,0≤(rc t).m∧(rc t).m<1000000:=fun t h=>by
  rw[(rel t h).2]
  have lt:(tr t).1<W.length:=by
   have:=ht t h
   rw[XN]at this
   cases e:F[(tr t).1]? with
   |none=>rw[e]at this;cases this
   |some b=>have:=(vh.1 e).1;omega
  unfold On
  split
  · rename_i a;have:=so.at a;omega
  · omega
 have m1:=hm ta hta
 have w0:=ma (tr t0).1 (ht t0 h0)
 have r0:=rel t0 h0
 have ra:=rel ta hta
 have q0:=mr t0 h0
 have qa:=mr ta hta
 unfold yz at m1
 have ew:W.getD (tr t0).1 0=W.getD (wW W F) 0:=by rw[←ea]at w0 ⊢;rw[r0.1,ra.1]at m1;omega
 have em:(rc t0).m≤(rc ta).m:=by rw[r0.1,ra.1,ea,ew]at m1;omega
 have e1:(tr t0).1=wW W F:=by
  rcases Nat.lt_trichotomy (tr t0).1 (wW W F)with q|q|q
  · have:=fi _ q (ht t0 h0);omega
  · exact q
  · rw[←ea]at q
    have:=R1 so q
    rw[r0.2,ra.2]at em;omega
 refine⟨e1,l1,fun t h=> ?_⟩
 rw[ew];exact ma _ (ht t h)
theorem H8.step {n N : Nat} {tot : Int} {S : List Int} {G s : FS} {rc rc' : Nat → Tz} {tr : Nat → Tr} {l2 : List Nat} {O : List Int} {a b t : Nat} (v : H8 n N tot S G s rc tr (a :: b :: l2) O) (hn : n ≤ 1000) (hN : N ≤ 1000) (ht : tot < 1000000000000000)
 (ha:∀t∈b::l2,yz rc a≤yz rc t) (hb:∀t∈l2,yz rc b≤yz rc t) (fr:∀x∈l2,x≠t) (er:∀x∈l2,rc' x=rc x)
 (et:rc' t=⟨(rc a).w+(rc b).w,((N+(n-(l2.length+2)):Nat):Int),(rc a).L++(rc b).L⟩):
 H8 n N tot S G s.FY rc' (fun x=>if x=t then(s.U.length,yX ((tr a).2++(tr b).2))else tr x) (t::l2) (DD O ((rc a).L++(rc b).L))∧(∀q∈(rc a).L++(rc b).L,0≤q∧q<N)∧((rc a).L++(rc b).L).length≤n∧0<((rc a).L++(rc b).L).length:=by
 have lw:=v.lw
 have ll:=v.ll
 simp only[XO]at lw ll
 obtain⟨ea,l1,mA⟩:=I9 (F:=s.F) (W:=s.W) v.so v.hv.lf (by omega) hn hN (tr:=tr) (rc:=rc) (l:=a::b::l2) (fun i hi=>by
  obtain⟨x,hx,e⟩:=v.hv.free i hi
  obtain⟨y,hy,rfl⟩:=X1.1 hx
  exact⟨y,hy,e⟩) (fun x hx=>(v.hv.root _ (X1.2 ⟨x,hx,rfl⟩)).1) (fun x hx=>⟨(v.rel x hx).1,(v.rel x hx).2.1⟩) (t0:=a) (by simp) (fun x hx=>by
   rcases vF.1 hx with q|q
   · subst q;exact Yq _
   · exact ha x q)
 have nd:=v.hv.nd
 simp only[XX,YA,vF,not_or]at nd
 obtain⟨⟨nab,na⟩,nb,n2⟩:=nd
 have naL:∀x∈b::l2,(tr x).1≠s.a:=fun x hx e=>by
  have e':(tr x).1=(tr a).1:=by rw[e,ea];rfl
  rcases vF.1 hx with q|q
  · subst q;exact nab e'.symm
  · exact na (X1.2 ⟨tr x,X1.2 ⟨x,q,rfl⟩,e'⟩)
 obtain⟨eb,l2',mB⟩:=I9 (F:=s.F1) (W:=s.W) v.so (by show(s.F.set s.a false).length=_;rw[X6];exact v.hv.lf) (by omega) hn hN (tr:=tr) (rc:=rc) (l:=b::l2) (fun i hi=>by
  have hne:s.a≠i:=fun e=>by
   subst e
   have:(s.F.set s.a false).getD s.a false=true:=hi
   rw[A7]at this;cases this
  have hi':s.F.getD i false=true:=by
   have:(s.F.set s.a false).getD i false=true:=hi
   rwa [getD_set_ne hne]at this
  obtain⟨x,hx,e⟩:=v.hv.free i hi'
  obtain⟨y,hy,rfl⟩:=X1.1 hx
  rcases vF.1 hy with q|q
  · subst q;exact absurd (ea.symm.trans e) hne
  · exact⟨y,q,e⟩) (fun x hx=>by
    show(s.F.set s.a false).getD (tr x).1 false=true
    rw[getD_set_ne (fun e=>naL x hx e.symm)]
    exact(v.hv.root _ (X1.2 ⟨x,by simp only[vF]at hx ⊢;exact .inr hx,rfl⟩)).1) (fun x hx=>by
     have hx':x∈a::b::l2:=Ys _ hx
     exact⟨(v.rel x hx').1,(v.rel x hx').2.1⟩) (t0:=b) (by simp) (fun x hx=>by
    rcases vF.1 hx with q|q
    · subst q;exact Yq _
    · exact hb x q)
 have ea':(tr a).1=s.a:=ea
 have eb':(tr b).1=s.b:=eb
 obtain⟨ok,hv⟩:=v.hv.N8 (T2:=l2.map tr) (ta:=tr a) (tb:=tr b) (Yw _) ea' eb' l1 l2' (by have:=mA b (by simp);rw[ea',eb']at this;exact this) (fun x hx=>by
  obtain⟨y,hy,rfl⟩:=X1.1 hx
  have:=mB y (by simp [hy]);rw[eb']at this;exact this) ht
 have tm:∀x∈l2,(if x=t then((s.U.length,yX ((tr a).2++(tr b).2)):Tr)else tr x)=tr x:=fun x hx=>if_neg (fr x hx)
 have em:(t::l2).map (fun x=>if x=t then((s.U.length,yX ((tr a).2++(tr b).2)):Tr)else tr x)=(s.U.length,yX ((tr a).2++(tr b).2))::l2.map tr:=by
  rw[XX,if_pos rfl]
  congr 1
  exact Ym tm
 have lv:=v.hv.leaves
 have lnd:(((a::b::l2).map tr).flatMap fun t=>t.2.map (·.1)).Nodup:=lv.nodup_iff.2 List.nodup_range
 have llt:∀x∈a::b::l2,∀p∈(tr x).2,p.1<n:=fun x hx p hp=>List.mem_range.1 (lv.mem_iff.1 (List.mem_flatMap.2 ⟨tr x,X1.2 ⟨x,hx,rfl⟩,X1.2 ⟨p,hp,rfl⟩⟩))
 have eL:(rc a).L++(rc b).L=((tr a).2++(tr b).2).map fun p=>S.getD p.1 0:=by
  rw[(v.rel a (by simp)).2.2,(v.rel b (by simp)).2.2,List.map_append]
 have ltab:∀p∈(tr a).2++(tr b).2,p.1<n:=fun p hp=>by
  rcases Ya.1 hp with q|q
  · exact llt a (by simp) p q
  · exact llt b (by simp) p q
 have rL:∀q∈(rc a).L++(rc b).L,0≤q∧q<N:=fun q hq=>by
  rw[eL]at hq
  obtain⟨p,hp,rfl⟩:=X1.1 hq
  exact v.so.at (ltab p hp)
 have rL2:∀q∈(rc a).L++(rc b).L,q.toNat<O.length:=fun q hq=>by have:=rL q hq;rw[v.len];omega
 have cnt1:∀k:Nat,k<n→(((rc a).L++(rc b).L).map Int.toNat).count (S.getD k 0).toNat=(((tr a).2++(tr b).2).map (·.1)).count k:=fun k hk=>by
  rw[eL,List.map_map]
  have:∀q:List (Nat×Nat),(∀p∈q,p.1<n)→(q.map (Int.toNat∘fun p=>S.getD p.1 0)).count (S.getD k 0).toNat=(q.map (·.1)).count k:=by
   intro q
   induction q with
   |nil=>intro _;rfl
   | cons p q ih =>
     intro h
     rw[XX,XX,List.count_cons,List.count_cons,ih fun p hp=>h p (by simp [hp])]
     have hp:=h p (by simp)
     have a1:=v.so.at hp
     have a2:=v.so.at hk
     congr 1
     by_cases c:p.1=k
     · simp [c]
     · have:¬(S.getD p.1 0).toNat=(S.getD k 0).toNat:=fun e=>c (v.so.inj hp hk (by omega))
       simp only[Function.comp_apply,beq_iff_eq,this,c,vJ]
  exact this _ ltab
 rw[XX,XX,XW,XW,←XV,←List.map_append]at lnd
 have lnd1:=(List.nodup_append.1 lnd)
 refine⟨⟨by rw[em];exact hv,by rw[FS.Hy];simp only[XO];omega,by simp only[XO];omega, ?_,v.so, ?_, ?_, ?_,by rw[E6];exact v.len⟩,rL, ?_, ?_⟩
 · have:=v.fin
   simpa [FS.yV]using this
 · intro x hx
   rcases vF.1 hx with q|q
   · subst q
     rw[if_pos rfl,et]
     refine⟨?_, ?_, ?_⟩
     · show(rc a).w+(rc b).w=s.FY.W.getD s.U.length 0
       rw[(v.rel a (by simp)).1,(v.rel b (by simp)).1,ea',eb']
       show _=(s.W++[s.sum]).getD s.U.length 0
       have e:(s.W++[s.sum]).getD s.U.length 0=s.sum:=by rw[v.hv.lu,XN,X0 (vm _)];simp
       rw[e];rfl
     · show _=On n N S s.U.length
       have lu:=v.hv.lu
       unfold On
       rw[if_neg (by omega)]
       show((N+(n-(l2.length+2)):Nat):Int)=(N:Int)+((s.U.length-n:Nat):Int)
       have:s.U.length-n=n-(l2.length+2):=by omega
       rw[this];omega
     · show(rc a).L++(rc b).L=_
       rw[eL];unfold yX;rw[List.map_map];rfl
   · rw[tm x q,er x q]
     have:=v.rel x (by simp [q])
     refine⟨?_,this.2⟩
     have rr:=v.hv.root _ (X1.2 ⟨x,Ys _ (Ys _ q),rfl⟩)
     have lt:=(vh.1 rr.2).1
     rw[this.1]
     show _=(s.W++[s.sum]).getD (tr x).1 0
     rw[XN,XN,X2 (by rw[←v.hv.lu];exact lt)]
 · intro x hx p hp
   rcases vF.1 hx with q|q
   · subst q
     rw[if_pos rfl]at hp
     obtain⟨p0,hp0,rfl⟩:=X1.1 hp
     have hlt:=ltab p0 hp0
     show(DD O _).getD (S.getD p0.1 0).toNat 0=((p0.2+1:Nat):Int)
     rw[Hv _ _ _ rL2,cnt1 _ hlt]
     have c1:(((tr a).2++(tr b).2).map (·.1)).count p0.1=1:=by rw[lnd1.1.count,if_pos (X1.2 ⟨p0,hp0,rfl⟩)]
     rw[c1]
     have o1:O.getD (S.getD p0.1 0).toNat 0=((p0.2:Nat):Int):=by
      rcases Ya.1 hp0 with z|z
      · exact v.out a (by simp) p0 z
      · exact v.out b (by simp) p0 z
     rw[o1];omega
   · rw[tm x q]at hp
     have hlt:=llt x (by simp [q]) p hp
     rw[Hv _ _ _ rL2,cnt1 _ hlt]
     have c0:(((tr a).2++(tr b).2).map (·.1)).count p.1=0:=List.count_eq_zero.2 fun hm=>
      lnd1.2.2 _ hm p.1 (List.mem_flatMap.2 ⟨tr x,X1.2 ⟨x,q,rfl⟩,X1.2 ⟨p,hp,rfl⟩⟩) rfl
     rw[c0,v.out x (by simp [q]) p hp];omega
 · intro q hq
   rw[Hv _ _ _ rL2,v.zero q hq]
   have:(((rc a).L++(rc b).L).map Int.toNat).count q=0:=List.count_eq_zero.2 fun hm=>by
    obtain⟨y,hy,rfl⟩:=X1.1 hm
    rw[eL]at hy
    obtain⟨p,hp,rfl⟩:=X1.1 hy
    have hp':=ltab p hp
    refine hq (S.getD p.1 0) ?_ rfl
    rw[XN,XQ (by rw[v.so.len];exact hp')]
    exact X4 _
   rw[this];rfl
 · have ln:=lv.length_eq
   rw[XX,XX,XW,XW,vI,vI,Yu,Yu,List.length_range]at ln
   rw[eL,Yu,vI];omega
 · have:=v.hv.ne (tr a) (by simp)
   rw[eL,Yu,vI]
   have:=Yv.2 this
   omega
theorem H8.init {N:Nat} {S ws:List Int} {rc:Nat→Tz} {l:List Nat} (so:CI ws.length N S) (pos:∀y∈ws,1≤y) (tr:Nat→Tr) (htr:l.map tr=T0 ws.length)
 (rel:∀t∈l,∃i,i<ws.length∧tr t=(i,[(i,0)])∧rc t=⟨ws.getD i 0,S.getD i 0,[S.getD i 0]⟩):
 H8 ws.length N ws.sum S (FS.yV (ws.length-1) (Az ws)) (Az ws) rc tr l (List.replicate N 0) where
 hv:=by rw[htr];exact Ax.init ws false pos (fun h=>by cases h)
 lw:=by
  have:l.length=ws.length:=by have:=Yh List.length htr;simpa [T0]using this
  rw[this];show ws.length+ws.length=_;omega
 ll:=by
  have:l.length=ws.length:=by have:=Yh List.length htr;simpa [T0]using this
  omega
 fin:=by
  have:l.length=ws.length:=by have:=Yh List.length htr;simpa [T0]using this
  rw[this]
 so:=so
 rel t ht:=by
  obtain⟨i,hi,e1,e2⟩:=rel t ht
  rw[e1,e2]
  refine⟨rfl, ?_,rfl⟩
  show S.getD i 0=On _ _ _ i
  unfold On;rw[if_pos hi]
 out t ht p hp:=by
  obtain⟨i,hi,e1,e2⟩:=rel t ht
  rw[e1]at hp
  simp at hp
  subst hp
  have:=so.at hi
  show(List.replicate N (0:Int)).getD (S.getD i 0).toNat 0=_
  rw[XN,Yi,if_pos (by omega)];rfl
 zero q _:=by
  rw[XN,Yi];split<;>rfl
 len:=by simp
theorem H8.V7 {N : Nat} {S ws : List Int} {G : FS} {rc : Nat → Tz} {tr : Nat → Tr} {t : Nat} {O : List Int} {tot : Int} {s : FS} (hG : G = FS.yV (ws.length - 1) (Az ws)) (v : H8 ws.length N tot S G s rc tr [t] O) : O = wO S (wg ws) (List.replicate N 0) := by
 have es:s=G:=v.fin
 have up:=v.hv.up
 have rt:=(v.hv.root (tr t) (by simp)).2
 have rtD:s.U.getD (tr t).1 (-1)= -1:=by rw[XN,rt];rfl
 have rl:=(vh.1 rt).1
 have lv:=v.hv.leaves
 simp only[XX,Yk,XW,List.flatMap_nil,XZ]at lv
 have dep:∀q∈(tr t).2,Ap s.U s.U.length (s.U.getD q.1 (-1))=q.2:=fun q hq=>by
  have:=v.hv.pt (tr t) (by simp) q hq
  have l:=HN up this
  exact HO up this rtD _ (by omega)
 have eD:wg ws=Ch s.U ws.length:=by rw[es,hG];rfl
 have dl:(wg ws).length=ws.length:=xH ws
 have nd:=v.so.nd
 have ol:=v.len
 apply List.ext_getElem?
 intro q
 by_cases hq:q<N
 · have e0:O[q]?=some (O.getD q 0):=by rw[XN,XQ (by omega)];rfl
   rw[e0]
   by_cases c:∃s∈S,s.toNat=q
   · obtain⟨y,hy,rfl⟩:=c
     obtain⟨j,hj,ej⟩:=Yp.1 hy
     have hj':j<ws.length:=by rw[v.so.len]at hj;exact hj
     have h1:S[j]?=some y:=by rw[XQ hj,ej]
     have eyD:S.getD j 0=y:=by rw[XN,h1];rfl
     obtain⟨p,hp,ep⟩:=X1.1 (lv.mem_iff.2 (List.mem_range.2 hj'))
     have o1:=v.out t (by simp) p hp
     rw[ep,eyD]at o1
     have h2:(wg ws)[j]?=some ((p.2:Nat):Int):=by
      rw[eD];unfold Ch
      rw[vx,Yl hj']
      rw[←ep]
      show some ((Ap s.U s.U.length (s.U.getD p.1 (-1)):Nat):Int)=_
      rw[dep p hp]
     rw[zk S _ _ j y _ nd h1 h2 (by simpa using hq),o1]
   · have c':∀s∈S,s.toNat≠q:=fun s hs e=>c ⟨s,hs,e⟩
     rw[ye _ _ _ _ c',v.zero q c',Yi,if_pos hq]
 · rw[X5 (by omega),X5 (by rw[xu];simp;omega)]
def A8:List Int→Nat
 |[]=>0
 |c::r=>if c=0 then 0 else A8 r+1
def Ai (C:List Int):Nat:=(v7 C).length
def Fl (C:List Int):List Int:=if Ai C=1 then C.set (A8 C) 1 else C
theorem Jr (C:List Int):(Fl C).length=C.length:=by unfold Fl;split<;>simp
theorem Hg:∀(C:List Int),(∀y∈C,0≤y)→v7 C=[]→∀y∈C,y=0
 |[],_,_,y,hy=>by simp at hy
 | c :: r, hp, h, y, hy => by
   rw[v7]at h
   by_cases q:0<c
   · rw[if_pos q]at h;cases h
   · rw[if_neg q]at h
     rcases vF.1 hy with z|z
     · have:=hp c (by simp);omega
     · exact Hg r (fun y h=>hp y (by simp [h])) h y z
theorem R4 {C : List Int} (hC : ∀ y ∈ C, 0 ≤ y) (h2 : 2 ≤ C.length) : vV 0 (Fl C) = xm C ∧ v7 (Fl C) = xE C := by
 unfold xm xE Al BH Fl Ai
 rw[wG]
 by_cases c:(v7 C).length=1
 · rw [if_pos c, if_pos c, if_pos c]
   match C,h2 with
   | c0 :: c1 :: r, _ =>
     have p0:=hC c0 (by simp)
     have p1:=hC c1 (by simp)
     by_cases q:0<c0
     · have w1:(v7 (c1::r)).length=0:=by rw[v7,if_pos q]at c;simpa using c
       have wn:=Yg w1
       have s1:vV 1 (c1::r)=[]:=Yg (by rw[wG,w1])
       have z1:=Hg (c1::r) (fun y h=>hC y (by simp [h])) wn c1 (by simp)
       have i0:A8 (c0::c1::r)=1:=by rw[A8,if_neg (by omega),A8,if_pos z1]
       have s2:vV 2 r=[]:=by rw[vV,if_neg (by omega)]at s1;exact s1
       have w2:v7 r=[]:=by rw[v7,if_neg (by omega)]at wn;exact wn
       rw[i0]
       have eS:vV 0 (c0::c1::r)=[0]:=by rw[vV,if_pos q,s1];rfl
       have eW:v7 (c0::c1::r)=[c0]:=by rw[v7,if_pos q,wn]
       rw[eS,eW]
       have e1:vV 0 (c0::1::r)=[0,1]:=by rw[vV,if_pos q,vV,if_pos (by omega),s2];rfl
       have e2:v7 (c0::1::r)=[c0,1]:=by rw[v7,if_pos q,v7,if_pos (by omega),w2]
       exact⟨e1,e2⟩
     · have z0:c0=0:=by omega
       have i0:A8 (c0::c1::r)=0:=by rw[A8,if_pos z0]
       rw[i0]
       have eS:vV 0 (c0::c1::r)=vV 1 (c1::r):=by rw[vV,if_neg q]
       have eW:v7 (c0::c1::r)=v7 (c1::r):=by rw[v7,if_neg q]
       rw[eS,eW]
       rw[eW]at c
       have cS:(vV 1 (c1::r)).length=1:=by rw[wG];exact c
       obtain⟨s,es⟩:=List.length_eq_one_iff.1 cS
       obtain⟨w,ew⟩:=List.length_eq_one_iff.1 c
       have sr:=yg 1 (c1::r) s (by rw[es];simp)
       have e1:vV 0 (1::c1::r)=0::vV 1 (c1::r):=by rw[vV,if_pos (by omega)];rfl
       have e2:v7 (1::c1::r)=1::v7 (c1::r):=by rw[v7,if_pos (by omega)]
       have e3:(c0::c1::r).set 0 1=1::c1::r:=rfl
       rw[e3,e1,e2,es,ew]
       have g:[s].getD 0 0=s:=rfl
       rw[g,if_pos (by omega),if_pos (by omega)]
       exact⟨rfl,rfl⟩
 · rw[if_neg c,if_neg c,if_neg c];exact⟨rfl,rfl⟩
theorem Eh:∀(i:Nat) (C:List Int),(∀y∈C,0≤y)→vV i (wM C)=vV i C∧v7 (wM C)=wM (v7 C)
 |i,[],_=>⟨rfl,rfl⟩
 | i, c :: r, h => by
   have hc:=h c (by simp)
   obtain⟨a,b⟩:=Eh (i+1) r fun y hy=>h y (by simp [hy])
   show vV i (zw c::wM r)=_∧v7 (zw c::wM r)=_
   rw[vV,vV,v7,v7,a,b]
   have e:0<zw c↔0<c:=by unfold zw;omega
   by_cases q:0<c
   · rw[if_pos (e.2 q),if_pos (e.2 q),if_pos q,if_pos q];exact⟨rfl,rfl⟩
   · rw[if_neg (fun z=>q (e.1 z)),if_neg (fun z=>q (e.1 z)),if_neg q,if_neg q];exact⟨rfl,rfl⟩
theorem CE : ∀ (i : Nat) (C : List Int) (j k : Nat), j < k → k < (vV i C).length → (vV i C).getD j 0 < (vV i C).getD k 0
 |i,[],j,k,h,hk=>by simp [vV]at hk
 | i, c :: r, j, k, h, hk => by
   rw[vV]at hk ⊢
   split
   · rename_i q
     rw[if_pos q]at hk
     obtain⟨k,rfl⟩:∃m,k=m+1:=⟨k-1,by omega⟩
     simp only[XO]at hk
     cases j with
     | zero =>
       have hm:(vV (i+1) r).getD k 0∈vV (i+1) r:=by rw[XN,XQ (by omega)];exact X4 _
       have:=yg (i+1) r _ hm
       show(i:Int)<(vV (i+1) r).getD k 0
       omega
     |succ j=>exact CE (i+1) r j k (by omega) (by omega)
   · rename_i q
     rw[if_neg q]at hk
     exact CE (i+1) r j k h hk
theorem G6 (C:List Int):CI (v7 C).length C.length (vV 0 C):=
 ⟨wG 0 C,fun s hs=>by have:=yg 0 C s hs;omega,fun i j h1 h2=>CE 0 C i j h1 (by rw[wG];exact h2),DQ C 0⟩
theorem Fz {S D:List Int} {n:Nat} (hl:D.length=S.length) (nd:(S.map Int.toNat).Nodup) (hr:∀s∈S,s.toNat<n) {m:Int} (hm:0≤m):(∀y∈wO S D (List.replicate n 0),y≤m)↔Aa D 0≤m:=by
 constructor
 · intro h
   refine Db D 0 m (fun d hd=> ?_) hm
   obtain⟨j,hj,ej⟩:=Yp.1 hd
   have h1:S[j]?=some (S[j]'(by omega)):=XQ (by omega)
   have h2:D[j]?=some d:=by rw[XQ hj,ej]
   exact h d (vq (zk S D (List.replicate n 0) j _ d nd h1 h2 (by simpa using hr _ (X4 _))))
 · intro h y hy
   obtain⟨p,hp,ep⟩:=Yp.1 hy
   have e:(wO S D (List.replicate n 0))[p]?=some y:=by rw[XQ hp,ep]
   by_cases c:∃s∈S,s.toNat=p
   · obtain⟨s,hs,rfl⟩:=c
     obtain⟨j,hj,ej⟩:=Yp.1 hs
     have h1:S[j]?=some s:=by rw[XQ hj,ej]
     have h2:D[j]?=some (D[j]'(by omega)):=XQ (by omega)
     rw[zk S D _ j s _ nd h1 h2 (by simpa using hr s hs)]at e
     have e:=u6 e
     have:=(Ev D 0).2 _ (X4 (show j<D.length by omega))
     omega
   · have c':∀s∈S,s.toNat≠p:=fun s hs q=>c ⟨s,hs,q⟩
     rw[ye _ _ _ _ c',Yi]at e
     split at e
     · obtain rfl:=u6 e;exact hm
     · cases e
def xO (l:List Nat):List AV:=l.map fun t=>AV.aD t 0
theorem zE (l:List Nat):(xO l).length=l.length:=by simp [xO]
theorem BJ {l:List Nat} {J:List AV} {i:Nat} (h:i<l.length):(xO l++J)[i]?=some (.aD (l.getD i 0) 0):=by
 rw[X2 (by rw[zE];exact h),xO,vx,XN,XQ h];rfl
theorem Bz {l:List Nat} {i:Nat} (h:i<l.length):l.getD i 0∈l:=by
 rw[XN,XQ h];exact X4 h
structure Hz (h:H) (a id:Nat) (l:List Nat) (J:List AV) (rc:Nat→Tz):Prop where
 ga:h.get a=some [.aE id 0 l.length 1]
 gi:h.get id=some (xO l++J)
 fa:h.floor≤a
 fi:h.floor≤id
 ne:a≠id
 tr:∀t∈l,t≠a∧t≠id∧(0≤(rc t).m∧(rc t).m<1000000)∧∃sv,h.get t=some [.int .i64 (rc t).w,.int .i64 (rc t).m,sv]
 lb:l.length<100000
theorem Hz.set {h:H} {a id:Nat} {l l':List Nat} {J:List AV} {rc:Nat→Tz} (z:Hz h a id l J rc) (p:l'.Perm l):Hz (h.set id (xO l'++J)) a id l' J rc where
 ga:=by rw[vN z.ne,z.ga,p.length_eq]
 gi:=by rw[v9 rfl,z.gi];rfl
 fa:=by simpa using z.fa
 fi:=by simpa using z.fi
 ne:=z.ne
 tr t ht:=by
  obtain⟨a1,a2,a3,sv,a4⟩:=z.tr t (p.mem_iff.1 ht)
  exact⟨a1,a2,a3,sv,by rw[vN a2];exact a4⟩
 lb:=by rw[p.length_eq];exact z.lb
theorem E3 (h:H) (id n:Nat):aR AP.A 363 [.aE id 0 n 1] h=some (.int .i64 n,h):=by
 refine tZ (fn:=AP.f363) (e:=[(2,.int .i64 n)]) (vs:=[.int .i64 n]) rfl rfl rfl (by simp (disch:=omega)only[go_sem,vT,AP.f363,Bi]) rfl
theorem RW {h:H} {a id:Nat} {l:List Nat} {J:List AV} {rc:Nat→Tz} (z:Hz h a id l J rc) {i j:Nat} (hi:i<l.length) (hj:j<l.length):
 aR AP.A 368 [.aE id 0 l.length 1,.int .i64 i,.int .i64 j] h=some (.bool (decide (yz rc (l.getD i 0)<yz rc (l.getD j 0))),h):=by
 obtain⟨_,_,mi,si,gi⟩:=z.tr _ (Bz hi)
 obtain⟨_,_,mj,sj,gj⟩:=z.tr _ (Bz hj)
 have pi:=BJ (J:=J) hi
 have pj:=BJ (J:=J) hj
 have gid:=z.gi
 unfold yz
 generalize xO l++J=P at *
 generalize l.getD i 0=ti at *
 generalize l.getD j 0=tj at *
 generalize (rc ti).w=wi at *
 generalize (rc ti).m=mmi at *
 generalize (rc tj).w=wj at *
 generalize (rc tj).m=mmj at *
 generalize l.length=n at *
 clear z
 have i1:fM 1 (.aE id 0 n 1) (.int .i64 i)=some (.aD id i):=by
  simp [fM,cN,nR,hi]
 have j1:fM 1 (.aE id 0 n 1) (.int .i64 j)=some (.aD id j):=by
  simp [fM,cN,nR,hj]
 by_cases c:wi=wj
 · have e:decide (wi* 1000000+mmi<wj* 1000000+mmj)=decide (mmi<mmj):=decide_eq_decide.2 (by omega)
   rw[e]
   have cb:(wi !=wj)=false:=by simp [c]
   refine tZ (fn:=AP.f368) (e:=[(6,.bool (decide (mmi<mmj)))]) (vs:=[.bool (decide (mmi<mmj))]) rfl rfl rfl ?_ rfl
   simp (disch:=omega)only[go_sem,vT,AP.f368,i1,j1,gid,pi,pj,gi,gj,cb]
 · have e:decide (wi* 1000000+mmi<wj* 1000000+mmj)=decide (wi<wj):=decide_eq_decide.2 (by omega)
   rw[e]
   have cb:(wi !=wj)=true:=by simp [c]
   refine tZ (fn:=AP.f368) (e:=[(6,.bool (decide (wi<wj)))]) (vs:=[.bool (decide (wi<wj))]) rfl rfl rfl ?_ rfl
   simp (disch:=omega)only[go_sem,vT,AP.f368,i1,j1,gid,pi,pj,gi,gj,cb]
theorem NN {l:List Nat} {J:List AV} {i j:Nat} (hi:i<l.length) (hj:j<l.length):((xO l++J).set i (.aD (l.getD j 0) 0)).set j (.aD (l.getD i 0) 0)=xO (Dj l i j)++J:=by
 rw[List.set_append_left _ _ (by rw[zE];exact hi),List.set_append_left _ _ (by rw[X6,zE];exact hj)]
 unfold xO Dj
 rw[List.map_set,List.map_set]
theorem Sc {h:H} {a id:Nat} {l:List Nat} {J:List AV} {rc:Nat→Tz} (z:Hz h a id l J rc) {i j:Nat} (hi:i<l.length) (hj:j<l.length):
 aR AP.A 369 [.aE id 0 l.length 1,.int .i64 i,.int .i64 j] h=some (.bM [],h.set id (xO (Dj l i j)++J)):=by
 have pi:=BJ (J:=J) hi
 have pj:=BJ (J:=J) hj
 have gid:=z.gi
 have fi:=z.fi
 have e:=NN (J:=J) hi hj
 have pl:l.length≤(xO l++J).length:=by rw[vI,zE];omega
 rw[←e]
 generalize xO l++J=P at *
 generalize l.getD i 0=ti at *
 generalize l.getD j 0=tj at *
 generalize l.length=n at *
 clear z e
 have i1:fM 1 (.aE id 0 n 1) (.int .i64 i)=some (.aD id i):=by
  simp [fM,cN,nR,hi]
 have j1:fM 1 (.aE id 0 n 1) (.int .i64 j)=some (.aD id j):=by
  simp [fM,cN,nR,hj]
 have e2:(h.set id (P.set i (.aD tj 0))).set id ((P.set i (.aD tj 0)).set j (.aD ti 0))=h.set id ((P.set i (.aD tj 0)).set j (.aD ti 0)):=H.set_set _ _ _ _
 rw[←e2]
 have g2:(h.set id (P.set i (.aD tj 0))).get id=some (P.set i (.aD tj 0)):=by rw[v9 rfl,gid];rfl
 refine wF (fn:=AP.f369) (e:=[]) (vs:=[]) rfl rfl rfl ?_ rfl
 simp (disch:=omega)only[go_sem,vT,AP.f369,i1,j1,gid,pi,pj,g2]
theorem Kl {h:H} {a id:Nat} {l:List Nat} {J:List AV} {rc:Nat→Tz} (z:Hz h a id l J rc) {i j:Nat} {x y:Int} (hx:x=i) (hy:y=j) (hi:i<l.length) (hj:j<l.length):
 aR AP.A 368 [.aE id 0 l.length 1,.int .i64 x,.int .i64 y] h=some (.bool (decide (yz rc (l.getD i 0)<yz rc (l.getD j 0))),h):=by subst hx;subst hy;exact RW z hi hj
theorem Kz {h:H} {a id:Nat} {l:List Nat} {J:List AV} {rc:Nat→Tz} (z:Hz h a id l J rc) {i j:Nat} {x y:Int} (hx:x=i) (hy:y=j) (hi:i<l.length) (hj:j<l.length):
 aR AP.A 369 [.aE id 0 l.length 1,.int .i64 x,.int .i64 y] h=some (.bM [],h.set id (xO (Dj l i j)++J)):=by subst hx;subst hy;exact Sc z hi hj
abbrev DC (a:Nat):AV:=.iface 1 (.aD a 0)
theorem Gi {h:H} {a n i:Nat} {i0:Int} (hn:n<100000) (hi:n≤2* i+1) (hi2:i<100000):
 aL (aR AP.A) bq AP.f366L0 [(0,DC a),(1,.int .i64 i0),(2,.int .i64 n),(7,.int .i64 i)] h=some (.exit 0,[(0,DC a),(1,.int .i64 i0),(2,.int .i64 n),(7,.int .i64 i),(8,.int .i64 (2* (i:Int)+1)),(21,.bool true)],h):=by
 have c:(n:Int)≤2* (i:Int)+1:=by omega
 simp (disch:=omega)only[go_sem,vT,AP.f366L0,c]
theorem J2 {h : H} {a id : Nat} {l : List Nat} {J : List AV} {rc : Nat → Tz} (z : Hz h a id l J rc) {n i : Nat} {i0 : Int} (hn : n ≤ l.length) (hi : 2 * i + 1 < n) :
 (yz rc (l.getD (FV (yz rc) n i l) 0)<yz rc (l.getD i 0)→aL (aR AP.A) bq AP.f366L0 [(0,DC a),(1,.int .i64 i0),(2,.int .i64 n),(7,.int .i64 i)] h=some (.normal,[(0,DC a),(1,.int .i64 i0),(2,.int .i64 n),(7,.int .i64 (FV (yz rc) n i l:Nat))],h.set id (xO (Dj l i (FV (yz rc) n i l))++J)))∧
 (¬yz rc (l.getD (FV (yz rc) n i l) 0)<yz rc (l.getD i 0)→aL (aR AP.A) bq AP.f366L0 [(0,DC a),(1,.int .i64 i0),(2,.int .i64 n),(7,.int .i64 i)] h=some (.exit 0,[(0,DC a),(1,.int .i64 i0),(2,.int .i64 n),(7,.int .i64 i),(9,.int .i64 (FV (yz rc) n i l:Nat)),(39,.bool true)],h)):=by
 obtain⟨kr,kn⟩:=Et (ky:=yz rc) (n:=n) (i:=i) (l:=l) hi
 have lb:=z.lb
 have c0:¬(n:Int)≤2* (i:Int)+1:=by omega
 have ga:=z.ga
 have key:∀x:Int,x=(FV (yz rc) n i l:Nat)→x<1000000→(2* (i:Int)+1+1<n→aR AP.A 368 [.aE id 0 l.length 1,.int .i64 (2* (i:Int)+1+1),.int .i64 (2* (i:Int)+1)] h=some (.bool (decide (x=2* (i:Int)+1+1)),h))∧(¬2* (i:Int)+1+1<n→x=2* (i:Int)+1)∧(x=2* (i:Int)+1∨x=2* (i:Int)+1+1):=by
  intro x hx hx2
  refine⟨fun c=> ?_,fun c=>by omega,by omega⟩
  rw[Kl z (i:=2* i+2) (j:=2* i+1) (by omega) (by omega) (by omega) (by omega)]
  congr 3
  have:FV (yz rc) n i l=2* i+2↔yz rc (l.getD (2* i+2) 0)<yz rc (l.getD (2* i+1) 0):=by
   unfold FV
   by_cases q:yz rc (l.getD (2* i+2) 0)<yz rc (l.getD (2* i+1) 0)
   · rw[if_pos ⟨by omega,q⟩];exact⟨fun _=>q,fun _=>rfl⟩
   · rw[if_neg (fun z=>q z.2)];exact⟨fun z=>by omega,fun z=>absurd z q⟩
  exact decide_eq_decide.2 (by rw[←this];omega)
 generalize hk:FV (yz rc) n i l=k at *
 obtain⟨k1,k2,k3⟩:=key k rfl (by omega)
 have lk:=Kl z (x:=k) (y:=i) rfl rfl (by omega) (by omega)
 have sk:=Kz z (x:=i) (y:=k) rfl rfl (by omega) (by omega)
 constructor
 · intro c
   rw[XS c]at lk
   by_cases c1:2* (i:Int)+1+1<n
   · have k1':=k1 c1
     rcases k3 with e|e
     · have e2:decide ((k:Int)=2* (i:Int)+1+1)=false:=XP (by omega)
       rw[e2]at k1'
       rw[e]at lk sk ⊢
       clear z key k1 k2
       simp (disch:=omega)only[go_sem,vT,AP.f366L0,c0,c1,ga,k1',lk,sk]
     · have e2:decide ((k:Int)=2* (i:Int)+1+1)=true:=XS (by omega)
       rw[e2]at k1'
       rw[e]at lk sk ⊢
       clear z key k1 k2
       simp (disch:=omega)only[go_sem,vT,AP.f366L0,c0,c1,ga,k1',lk,sk]
   · rw[k2 c1]at lk sk ⊢
     clear z key k1 k2
     simp (disch:=omega)only[go_sem,vT,AP.f366L0,c0,c1,ga,lk,sk]
 · intro c
   rw[XP c]at lk
   by_cases c1:2* (i:Int)+1+1<n
   · have k1':=k1 c1
     rcases k3 with e|e
     · have e2:decide ((k:Int)=2* (i:Int)+1+1)=false:=XP (by omega)
       rw[e2]at k1'
       rw[e]at lk ⊢
       clear z key k1 k2 sk
       simp (disch:=omega)only[go_sem,vT,AP.f366L0,c0,c1,ga,k1',lk]
     · have e2:decide ((k:Int)=2* (i:Int)+1+1)=true:=XS (by omega)
       rw[e2]at k1'
       rw[e]at lk ⊢
       clear z key k1 k2 sk
       simp (disch:=omega)only[go_sem,vT,AP.f366L0,c0,c1,ga,k1',lk]
   · rw[k2 c1]at lk ⊢
     clear z key k1 k2 sk
     simp (disch:=omega)only[go_sem,vT,AP.f366L0,c0,c1,ga,lk]
theorem Gj {a id : Nat} {J : List AV} {rc : Nat → Tz} {n : Nat} {i0 : Int} : ∀ (f i : Nat) (l : List Nat) (h : H), Hz h a id l J rc → n ≤ l.length → n ≤ i + f → i < 100000 →
 ∃e' k,Lp AP.A [0,1,2,7] AP.f366L0 [(0,DC a),(1,.int .i64 i0),(2,.int .i64 n),(7,.int .i64 i)] h=some (.exit 0,e',h.set id (xO (sink (yz rc) n f i l)++J))∧look e' 1=.int .i64 i0∧look e' 7=.int .i64 k
 | 0, i, l, h, z, hn, hf, hi => by
   rw[sink,H.jC z.gi]
   exact⟨_,i,tM (Gi (by have:=z.lb;omega) (by omega) hi),rfl,rfl⟩
 | f + 1, i, l, h, z, hn, hf, hi => by
   have lb:=z.lb
   rw[sink]
   by_cases c0:n≤2* i+1
   · rw[if_pos c0,H.jC z.gi]
     exact⟨_,i,tM (Gi (by omega) c0 hi),rfl,rfl⟩
   · rw[if_neg c0]
     obtain⟨r1,r2⟩:=J2 z (i0:=i0) hn (show 2* i+1<n by omega)
     obtain⟨kr,kn⟩:=Et (ky:=yz rc) (n:=n) (i:=i) (l:=l) (by omega)
     by_cases c1:yz rc (l.getD (FV (yz rc) n i l) 0)<yz rc (l.getD i 0)
     · rw[if_pos c1]
       have r1:=r1 c1
       generalize FV (yz rc) n i l=k at *
       have zs:=z.set (AS (l:=l) (i:=i) (j:=k) (by omega) (by omega))
       obtain⟨e',m,k1,k2,k3⟩:=Gj f k _ _ zs (by rw[zN];exact hn) (by omega) (by omega)
       rw[H.set_set]at k1
       exact⟨e',m,tN r1 k1,k2,k3⟩
     · rw[if_neg c1,H.jC z.gi]
       exact⟨_,i,tM (r2 c1),rfl,rfl⟩
theorem M7 {h:H} {a id:Nat} {l:List Nat} {J:List AV} {rc:Nat→Tz} (z:Hz h a id l J rc) {n i:Nat} (hn:n≤l.length) (hi:i<100000):
 ∃b,aR AP.A 366 [DC a,.int .i64 i,.int .i64 n] h=some (.bool b,h.set id (xO (sink (yz rc) n n i l)++J)):=by
 obtain⟨e',k,L,e1,e7⟩:=Gj (i0:=i) n i l h z hn (by omega) hi
 refine⟨decide ((i:Int)<k),tZ (fn:=AP.f366) (e:=[(6,.bool (decide ((i:Int)<k)))]) (vs:=[.bool (decide ((i:Int)<k))]) rfl rfl rfl ?_ rfl⟩
 simp (disch:=omega)only[go_sem,vT,AP.f366,sG,L,rG,rY,e1,e7]
theorem Gz {a id:Nat} {J:List AV} {rc:Nat→Tz} {n:Nat}:∀(i:Nat) (l:List Nat) (h:H),Hz h a id l J rc→l.length=n→i<100000→
 ∃e',Lp AP.A [0,2,3] AP.f362L0 [(0,DC a),(2,.int .i64 n),(3,.int .i64 ((i:Int)-1))] h=some (.exit 0,e',h.set id (xO (BA (ky:=yz rc) n i l)++J))
 | 0, l, h, z, hn, hi => by
   rw[BA,H.jC z.gi]
   refine⟨[(0,DC a),(2,.int .i64 n),(3,.int .i64 (-1)),(10,.bool false)],tM ?_⟩
   have c:¬(0:Int)≤-1:=by omega
   show aL (aR AP.A) bq AP.f362L0 [(0,DC a),(2,.int .i64 n),(3,.int .i64 (-1))] h=_
   simp (disch:=omega)only[go_sem,vT,AP.f362L0,c]
 | i + 1, l, h, z, hn, hi => by
   have lb:=z.lb
   obtain⟨b,k⟩:=M7 z (n:=n) (i:=i) (by omega) (by omega)
   have e0:((i+1:Nat):Int)-1=(i:Int):=by omega
   have c:(0:Int)≤(i:Int):=by omega
   have zs:=z.set (l':=sink (yz rc) n n i l) (G4 (by omega))
   obtain⟨e',L⟩:=Gz (n:=n) i _ _ zs (by rw[Dh];exact hn) (by omega)
   rw[H.set_set]at L
   refine⟨e',tN (e':=[(0,DC a),(2,.int .i64 n),(3,.int .i64 ((i:Int)-1))]) ?_ (by rw[BA];exact L)⟩
   rw[e0]
   simp (disch:=omega)only[go_sem,vT,AP.f362L0,c,k]
theorem Kh {n:Nat} (h:n<100000):bj .quo (.int .i64 (n:Int)) (.int .i64 2)=some (.int .i64 ((n/2:Nat):Int)):=by
 have e:=sg (k:=.i64) (a:=(n:Int)) (b:=2) (by omega)
 have:Int.tdiv (n:Int) 2=((n/2:Nat):Int):=yw n 2
 rw[e,this,wi (by omega)]
theorem OR {h:H} {a id:Nat} {l:List Nat} {J:List AV} {rc:Nat→Tz} (z:Hz h a id l J rc):
 aR AP.A 362 [DC a] h=some (.bM [],h.set id (xO (BA (ky:=yz rc) l.length (l.length/2) l)++J)):=by
 have lb:=z.lb
 have ga:=z.ga
 have k:∀g:H,aR AP.A 363 [.aE id 0 l.length 1] g=_:=fun g=>E3 g id l.length
 obtain⟨e',L⟩:=Gz (n:=l.length) (l.length/2) l h z rfl (by omega)
 have q:=Kh lb
 refine wF (fn:=AP.f362) (e:=[]) (vs:=[]) rfl rfl rfl ?_ rfl
 generalize xO (BA (ky:=yz rc) l.length (l.length/2) l)=P at *
 generalize l.length=n at *
 clear z
 simp (disch:=omega)only[go_sem,vT,AP.f362,ga,k,q,sG,L]
theorem Vp {h:H} {a id:Nat} {l:List Nat} {t:Nat} {J:List AV} {rc:Nat→Tz} (z:Hz h a id (l++[t]) J rc):
 aR AP.A 370 [.aD a 0] h=some (.iface 2 (.aD t 0),h.set a [.aE id 0 l.length 1])∧Hz (h.set a [.aE id 0 l.length 1]) a id l (.aD t 0::J) rc:=by
 have lb:=z.lb
 have ga:=z.ga
 have gi:=z.gi
 have fa:=z.fa
 have pt:=BJ (J:=J) (show l.length<(l++[t]).length by simp)
 have gt:(l++[t]).getD l.length 0=t:=by simp
 rw[gt]at pt
 have eP:xO (l++[t])++J=xO l++(.aD t 0::J):=by simp [xO]
 constructor
 · have lP:l.length+1≤(xO (l++[t])++J).length:=by rw[vI,zE];simp
   rw[vI,Ye]at lb ga
   generalize xO (l++[t])++J=P at *
   generalize l.length=n at *
   clear z eP gt
   have i1:fM 1 (.aE id 0 (n+1) 1) (.int .i64 n)=some (.aD id n):=by simp [fM,cN,nR,show(n:Int)<(n:Int)+1 by omega]
   have s1:sx h 1 (.aE id 0 (n+1) 1) none (some (.int .i64 n)) none=some (.aE id 0 n 1):=by
    have:=Pr (m:=n) (p:=id) (o:=0) (k:=n+1) gi (n:=1) (by omega) (by omega) ⟨by omega,by simp;omega⟩
    rw[show((n:Int)).toNat=n by omega]at this
    exact this
   have n1:((n+1:Nat):Int)-1=n:=by omega
   refine tZ (fn:=AP.f370) (e:=[(2,.iface 2 (.aD t 0))]) (vs:=[.iface 2 (.aD t 0)]) rfl rfl rfl ?_ rfl
   simp (disch:=omega)only[go_sem,vT,AP.f370,ga,Bi,n1,i1,gi,pt,s1]
 · refine⟨by rw[v9 rfl,ga];rfl,by rw[vN (fun q=>z.ne q.symm),gi,eP],by simpa using fa,by simpa using z.fi,z.ne,fun x hx=> ?_,by simp at lb;omega⟩
   obtain⟨a1,a2,a3,sv,a4⟩:=z.tr x (by simp [hx])
   exact⟨a1,a2,a3,sv,by rw[vN a1];exact a4⟩
theorem Nr {h:H} {a id:Nat} {l:List Nat} {J:List AV} {rc:Nat→Tz} (z:Hz h a id l J rc) (h1:1≤l.length) (ho:JS (yz rc) 0 l.length l):
 ∃t l' h',aR AP.A 364 [DC a] h=some (.iface 2 (.aD t 0),h')∧Hz h' a id l' (.aD t 0::J) rc∧l.Perm (t::l')∧JS (yz rc) 0 l'.length l'∧(∀x∈l',yz rc t≤yz rc x)∧h'.next=h.next∧h'.floor=h.floor∧∀i,i≠a→i≠id→h'.get i=h.get i:=by
 have lb:=z.lb
 have ga:=z.ga
 obtain⟨n,hn⟩:∃n,l.length=n+1:=⟨l.length-1,by omega⟩
 have k0:∀g:H,aR AP.A 363 [.aE id 0 l.length 1] g=_:=fun g=>E3 g id l.length
 have k1:=Kz z (i:=0) (j:=n) (x:=0) (y:=n) rfl rfl (by omega) (by omega)
 have p1:=AS (l:=l) (i:=0) (j:=n) (by omega) (by omega)
 have z1:=z.set p1
 have z1a:=z1.ga
 have g:∀k,(Dj l 0 n).getD k 0=if k=n then l.getD 0 0 else if k=0 then l.getD n 0 else l.getD k 0:=fun k=>HY (by omega) (by omega)
 have sl1:(Dj l 0 n).length=n+1:=by rw[zN];exact hn
 obtain⟨b,k2⟩:=M7 z1 (n:=n) (i:=0) (by omega) (by omega)
 obtain⟨s1,s2,s3⟩:=HU (ky:=yz rc) (lo:=0) (n:=n) n 0 (Dj l 0 n) (by omega) (by omega) (by omega) ⟨fun c h0 hc hp hne=>by
  rw[g,g,if_neg (by omega),if_neg hne,if_neg (by omega),if_neg (by omega)]
  exact ho c h0 (by omega) (by omega),fun c h0 hc hp h1 h2=>by omega⟩
 have z2:=z1.set s2
 have sl2:(sink (yz rc) n n 0 (Dj l 0 n)).length=n+1:=by rw[Dh];exact sl1
 have e3:=s3 n (vm _)
 rw[g,if_pos rfl]at e3
 obtain⟨l',hl'⟩:∃l',l'=(sink (yz rc) n n 0 (Dj l 0 n)).take n:=⟨_,rfl⟩
 have ll':l'.length=n:=by rw[hl',Yb,sl2];omega
 have eS:sink (yz rc) n n 0 (Dj l 0 n)=l'++[l.getD 0 0]:=by
  rw[hl',←e3]
  have:=List.take_append_drop n (sink (yz rc) n n 0 (Dj l 0 n))
  have e4:(sink (yz rc) n n 0 (Dj l 0 n)).drop n=[(sink (yz rc) n n 0 (Dj l 0 n)).getD n 0]:=by
   rw[List.drop_eq_getElem_cons (by omega),List.drop_eq_nil_of_le (by omega),XN,XQ (by omega)];rfl
  rw[←e4,this]
 have gl:∀k,k<n→(l'++[l.getD 0 0]).getD k 0=l'.getD k 0:=fun k hk=>by
  rw[XN,X2 (by omega),←XN]
 rw[H.set_set]at k2 z2
 rw[eS]at s1 s2 z2 k2
 obtain⟨k3,z3⟩:=Vp z2
 have pm:l.Perm (l.getD 0 0::l'):=(s2.trans p1).symm.trans List.perm_append_comm
 refine⟨l.getD 0 0,l',_, ?_,z3,pm, ?_, ?_,by simp,by simp,fun i h1 h2=>by rw[vN h1,vN h2]⟩
 · rw[zN]at z1a
   have gS:((h.set id (xO (Dj l 0 n)++J)).get a)=some [.aE id 0 l.length 1]:=by rw[z1a]
   have k2':aR AP.A 366 [DC a,.int .i64 0,.int .i64 n] (h.set id (xO (Dj l 0 n)++J))=_:=k2
   have n1:(l.length:Int)-1=n:=by omega
   refine tZ (fn:=AP.f364) (e:=[(2,.iface 2 (.aD (l.getD 0 0) 0))]) (vs:=[.iface 2 (.aD (l.getD 0 0) 0)]) rfl rfl rfl ?_ rfl
   generalize xO (Dj l 0 n)++J=P1 at *
   generalize xO (l'++[l.getD 0 0])++J=P2 at *
   generalize l.getD 0 0=t at *
   generalize l'.length=m at *
   generalize l.length=N at *
   clear z z1 z2 z3 g s1 s2 s3 ho
   simp (disch:=omega)only[go_sem,vT,AP.f364,ga,k0,n1,k1,k2',k3]
 · intro c h0 hc hp
   have:=s1 c h0 (by omega) (by omega)
   rw[gl _ (by omega),gl _ (by omega)]at this
   exact this
 · intro x hx
   have:x∈l:=pm.mem_iff.2 (Ys _ hx)
   obtain⟨j,hj,ej⟩:=Yp.1 this
   have:=Nq ho j hj
   rw[show l.getD j 0=x by rw[XN,XQ hj,←ej];rfl]at this
   exact this
theorem K2:bj .quo (.int .i64 (-1)) (.int .i64 2)=some (.int .i64 0):=by
 have e:=sg (k:=.i64) (a:= -1) (b:=2) (by omega)
 rw[e];rfl
theorem O9 {a id : Nat} {J : List AV} {rc : Nat → Tz} : ∀ (f j : Nat) (l : List Nat) (h : H), Hz h a id l J rc → j < l.length → j ≤ f →
 ∃e',Lp AP.A [0,1] AP.f367L0 [(0,DC a),(1,.int .i64 j)] h=some (.exit 0,e',h.set id (xO (Fx (yz rc) f j l)++J)):=by
 intro f
 induction f with
 | zero =>
   intro j l h z hj hf
   obtain rfl:j=0:=by omega
   rw[Fx,H.jC z.gi]
   refine⟨[(0,DC a),(1,.int .i64 0),(4,.int .i64 0),(17,.bool true)],tM ?_⟩
   show aL (aR AP.A) bq AP.f367L0 [(0,DC a),(1,.int .i64 0)] h=_
   simp (disch:=omega)only[go_sem,vT,AP.f367L0,K2]
 | succ f ih =>
   intro j l h z hj hf
   have lb:=z.lb
   have ga:=z.ga
   rw[Fx]
   by_cases c0:j=0
   · subst c0
     rw[if_pos rfl,H.jC z.gi]
     refine⟨[(0,DC a),(1,.int .i64 0),(4,.int .i64 0),(17,.bool true)],tM ?_⟩
     show aL (aR AP.A) bq AP.f367L0 [(0,DC a),(1,.int .i64 0)] h=_
     simp (disch:=omega)only[go_sem,vT,AP.f367L0,K2]
   · rw[if_neg c0]
     obtain⟨p,hp⟩:∃p,p=(j-1)/2:=⟨_,rfl⟩
     have n1:(j:Int)-1=((j-1:Nat):Int):=by omega
     have q:=Kh (n:=j-1) (by omega)
     rw[←hp]at q ⊢
     have ls:=Kl z (x:=j) (y:=p) rfl rfl (by omega) (by omega)
     have sw:=Kz z (x:=p) (y:=j) rfl rfl (by omega) (by omega)
     have cb:((p:Int)==(j:Int))=false:=by simp;omega
     by_cases c1:yz rc (l.getD j 0)<yz rc (l.getD p 0)
     · rw[if_pos c1]
       rw[XS c1]at ls
       have zs:=z.set (AS (l:=l) (i:=p) (j:=j) (by omega) (by omega))
       obtain⟨e',L⟩:=ih p _ _ zs (by rw[zN];omega) (by omega)
       rw[H.set_set]at L
       refine⟨e',tN (e':=[(0,DC a),(1,.int .i64 p)]) ?_ L⟩
       clear z zs ih
       simp (disch:=omega)only[go_sem,vT,AP.f367L0,n1,q,ga,ls,sw,cb]
     · rw[if_neg c1,H.jC z.gi]
       rw[XP c1]at ls
       refine⟨[(0,DC a),(1,.int .i64 j),(4,.int .i64 p),(17,.bool true)],tM ?_⟩
       clear z ih
       simp (disch:=omega)only[go_sem,vT,AP.f367L0,n1,q,ga,ls,cb]
theorem Wj {h:H} {a id:Nat} {l:List Nat} {J:List AV} {rc:Nat→Tz} (z:Hz h a id l J rc) {j:Nat} (hj:j<l.length):
 aR AP.A 367 [DC a,.int .i64 j] h=some (.bM [],h.set id (xO (Fx (yz rc) j j l)++J)):=by
 obtain⟨e',L⟩:=O9 j j l h z hj (vm _)
 refine wF (fn:=AP.f367) (e:=[]) (vs:=[]) rfl rfl rfl ?_ rfl
 simp (disch:=omega)only[go_sem,vT,AP.f367,sG,L]
theorem OS {h:H} {a id:Nat} {l:List Nat} {c:AV} {J:List AV} {rc:Nat→Tz} (z:Hz h a id l (c::J) rc) (ho:JS (yz rc) 0 l.length l) {t:Nat} {sv:AV} (ht:t≠a∧t≠id) (hm:0≤(rc t).m∧(rc t).m<1000000) (gt:h.get t=some [.int .i64 (rc t).w,.int .i64 (rc t).m,sv]) (hlb:l.length+1<100000) (hfl:h.floor≤h.next):
 ∃l' h',aR AP.A 365 [DC a,.iface 2 (.aD t 0)] h=some (.bM [],h')∧Hz h' a id l' J rc∧l'.Perm (t::l)∧JS (yz rc) 0 l'.length l'∧h'.next=h.next+1∧h'.floor=h.floor∧∀i,i<h.next→i≠a→i≠id→h'.get i=h.get i:=by
 have lb:=z.lb
 have ga:=z.ga
 have gi:=z.gi
 have fa:=z.fa
 have fi:=z.fi
 have ne:=z.ne
 have la:=h.lt _ _ ga
 have li:=h.lt _ _ gi
 have lt:=h.lt _ _ gt
 have eP:(xO l++c::J).set l.length (.aD t 0)=xO (l++[t])++J:=by
  rw[Yn _ _ (by rw[zE];exact vm _),zE,YB];simp [xO]
 have lP:l.length+1≤(xO l++c::J).length:=by rw[vI,zE];simp
 obtain⟨h1,eh1⟩:∃g,g=((h.alloc [.aD t 0]).set id (xO (l++[t])++J)).set a [.aE id 0 (l.length+1) 1]:=⟨_,rfl⟩
 have k1:aR AP.A 371 [.aD a 0,.iface 2 (.aD t 0)] h=some (.bM [],h1):=by
  rw[eh1,←eP]
  refine wF (fn:=AP.f371) (e:=[]) (vs:=[]) rfl rfl rfl ?_ rfl
  have gi1:(h.alloc [.aD t 0]).get id=some (xO l++c::J):=by rw[vW (by omega),gi]
  generalize xO l++c::J=P at *
  generalize l.length=n at *
  clear z ho eP eh1
  simp (disch:=first|omega|(simp only[xk,XO,XR,vr,Nat.reduceAdd];first|done|omega|fail)|(simp (disch:=first|omega|(simp only[xk,XO,XR,vr,Nat.reduceAdd];first|done|omega|fail)|fail)only[xk,Bb,XU,XO,XR,vr,Nat.reduceAdd];done)|fail)only[go_sem,vT,Ba,AP.f371,ga,gi,lP]
 have z1:Hz h1 a id (l++[t]) J rc:=by
  rw[eh1]
  refine⟨by rw[v9 rfl,vN ne,vW (by omega),ga];simp,by rw[vN (Ne.symm ne),v9 rfl,vW (by omega),gi];rfl,by simpa using fa,by simpa using fi,ne,fun x hx=> ?_,by simp;omega⟩
  rcases Ya.1 hx with q|q
  · obtain⟨a1,a2,a3,s,a4⟩:=z.tr x q
    have:=h.lt _ _ a4
    exact⟨a1,a2,a3,s,by rw[vN a1,vN a2,vW (by omega),a4]⟩
  · obtain rfl:=List.mem_singleton.1 q
    exact⟨ht.1,ht.2,hm,sv,by rw[vN ht.1,vN ht.2,vW (by omega),gt]⟩
 have k2:=E3 h1 id (l.length+1)
 have k3:=Wj z1 (j:=l.length) (by simp)
 obtain⟨r1,r2⟩:=Lj (ky:=yz rc) (n:=l.length+1) l.length l.length (l++[t]) (vm _) (by omega) (by simp) ⟨fun x h0 hx hne=>by
  have hl:x<l.length:=by omega
  have:=ho x h0 hl (by omega)
  rw[XN,XN,X2 (by omega),X2 hl,←XN,←XN]
  exact this,fun x h0 hx hp h1=>by omega⟩
 have z2:=z1.set r2
 have g1:=z1.ga
 rw[vI,Ye]at g1
 refine⟨_,_, ?_,z2,r2.trans List.perm_append_comm,by rw[Jz];simpa using r1,by rw[eh1];simp,by rw[eh1];simp,fun i hi h2 h3=>by rw[vN h3,eh1,vN h2,vN h3,vW (by omega)]⟩
 refine wF (fn:=AP.f365) (e:=[]) (vs:=[]) rfl rfl rfl ?_ rfl
 have n1:((l.length+1:Nat):Int)-1=l.length:=by omega
 generalize xO (Fx (yz rc) l.length l.length (l++[t]))++J=P2 at *
 generalize l.length=n at *
 clear z z1 z2 ho r1 r2 eP
 simp (disch:=omega)only[go_sem,vT,AP.f365,k1,g1,k2,n1,k3]
theorem CD:∀(p q:List Int) (i:Nat),vV i (p++q)=vV i p++vV (i+p.length) q
 |[],q,i=>by simp [vV]
 | c :: p, q, i => by
   rw[List.cons_append,vV,vV,CD p q (i+1),XO,show i+1+p.length=i+(p.length+1)by omega]
   split<;>rfl
theorem DT:∀(p q:List Int),v7 (p++q)=v7 p++v7 q
 |[],q=>by simp [v7]
 | c :: p, q => by
   rw[List.cons_append,v7,v7,DT p q]
   split<;>rfl
structure Bt (hb h:H) (a o N:Nat) (p:List Int) (l:List Nat) (av:AV):Prop where
 ext:Ext hb h
 fl:h.floor=hb.next
 MJ:h.floor≤h.next
 ga:h.get a=some [av]
 fa:hb.next≤a
 go:h.get o=some (ints (List.replicate N 0))
 fo:hb.next≤o
 Vu:a≠o
 own:wz 1 h av l.length (xO l)
 nv:∀j,av.id?=some j→j≠a∧j≠o
 ll:l.length=(v7 p).length
 nd:l.Nodup
 tr:∀i,i<l.length→∃sid,h.get (l.getD i 0)=some [.int .i64 ((v7 p).getD i 0),.int .i64 ((vV 0 p).getD i 0),.aE sid 0 1 1]∧h.get sid=some [.int .i64 ((vV 0 p).getD i 0)]∧(l.getD i 0≠a∧l.getD i 0≠o∧av.id?≠some (l.getD i 0))∧(sid≠a∧sid≠o∧av.id?≠some sid)
theorem Dy {α:Type} {l m:List α} {i:Nat} {d:α} (h:i<l.length):(l++m).getD i d=l.getD i d:=by
 rw[XN,X2 h,←XN]
theorem Dx {α:Type} {l:List α} {x d:α}:(l++[x]).getD l.length d=x:=by
 rw[XN,X0 (vm _)];simp
theorem Ce {hb : H} {x : AV} {C : List Int} {a o : Nat} (hC : C.length < 1000) (rd : Rd hb x (ints C)) (pos : ∀ y ∈ C, 0 ≤ y) : ∀ (q p : List Int) (l : List Nat) (av : AV) (h : H), C = p ++ q → Bt hb h a o C.length p l av →
 ∃l' av' h',Lp AP.A [0,3,4,16,17,18] AP.f359L2 [(0,x),(3,.aE o 0 C.length 1),(4,.aD a 0),(16,x),(17,.int .i64 C.length),(18,.int .i64 p.length)] h=some (.exit 0,[(0,x),(3,.aE o 0 C.length 1),(4,.aD a 0),(16,x),(17,.int .i64 C.length),(18,.int .i64 C.length),(19,.bool false)],h')∧Bt hb h' a o C.length C l' av'
 | [], p, l, av, h, hp, b => by
   rw[XZ]at hp;subst hp
   refine⟨l,av,h,tM ?_,b⟩
   simp (disch:=omega)only[go_sem,vT,AP.f359L2]
 | y :: q, p, l, av, h, hp, b => by
   have hl:C.length=p.length+(q.length+1):=by rw[hp];simp
   obtain⟨ad,a1,a2⟩:=rd.xi
   have b1:=a1 p.length ⟨by omega,by omega⟩
   have hyC:C[p.length]?=some y:=by rw[hp];simp
   have b2:=a2 h b.ext p.length y hyC
   have yr:=pos y (vq hyC)
   have n2:(p++[y]).length=p.length+1:=by simp
   have c1:((p.length:Nat):Int)<C.length:=by omega
   by_cases c:0<y
   · have ga:=b.ga
     have la:=h.lt _ _ ga
     have lo:=h.lt _ _ b.go
     have fl:=b.fl
     have fa:=b.fa
     have fo:=b.fo
     obtain⟨g,eg⟩:∃g,g=(h.alloc [.int .i64 p.length]).alloc [.int .i64 y,.int .i64 p.length,.aE h.next 0 1 1]:=⟨_,rfl⟩
     have gl:∀i,i<h.next→g.get i=h.get i:=fun i hi=>by rw[eg,vW (by simp;omega),vW (by omega)]
     have gn:g.next=h.next+2:=by rw[eg];simp
     have gf:g.floor=h.floor:=by rw[eg];simp
     have owng:wz 1 g av l.length (xO l):=b.own.mono gf fun i hi=>gl i (b.own.lt hi).2
     have bfl:=b.MJ
     have ll:=b.ll
     have wl:(v7 p).length≤p.length:=by rw[←wG 0 p];exact xI 0 p
     obtain⟨v1,h1,p1,p2,p3,p4,p5,p6⟩:=owng.push (by omega) (z:=8) (m:=1) (by omega) (by omega) [.aD (h.next+1) 0] rfl rfl (xP (by omega))
     rw[gn]at p1 p4 p5 p6
     have avlt:∀j,av.id?=some j→j<h.next:=fun j hj=>(b.own.lt hj).2
     have hav:∀i,h.next≤i→av.id?≠some i:=fun i hi q=>by have:=avlt i q;omega
     have k1:∀i,i<h.next+2→av.id?≠some i→h1.get i=g.get i:=fun i hi hne=>p5 i hne hi
     have ga1:h1.get a=some [av]:=by rw[k1 a (by omega) (fun q=>(b.nv _ q).1 rfl),gl a la,ga]
     have gt1:h1.get (h.next+1)=some [.int .i64 y,.int .i64 p.length,.aE h.next 0 1 1]:=by
      rw[k1 _ (by omega) (hav _ (by omega)),eg,vZ (by simp)]
     have gs1:h1.get h.next=some [.int .i64 p.length]:=by
      rw[k1 _ (by omega) (hav _ (by omega)),eg,vW (by simp),vZ rfl]
     have S1:vV 0 (p++[y])=vV 0 p++[((p.length:Nat):Int)]:=by rw[CD,vr,vV,if_pos c];rfl
     have W1:v7 (p++[y])=v7 p++[y]:=by rw[DT,v7,if_pos c];rfl
     have sl:=wG 0 p
     have vid:v1.id?=some (h.next+3):=p6
     have nb:Bt hb (h1.set a [v1]) a o C.length (p++[y]) (l++[h.next+1]) v1:=by
      refine⟨fun i d hi=> ?_,by simp;omega,by simp;omega,by rw[v9 rfl,ga1];rfl,fa, ?_,fo,b.Vu, ?_,fun j hj=> ?_, ?_, ?_,fun i hi=> ?_⟩
      · have:=hb.lt _ _ hi
        have hi2:=b.ext i d hi
        have:=h.lt _ _ hi2
        rw[vN (by omega),k1 i (by omega) (fun q=>by have:=(b.own.lt q).1;omega),gl i (by omega),hi2]
      · rw[vN (Ne.symm b.Vu),k1 o (by omega) (fun q=>(b.nv _ q).2 rfl),gl o lo,b.go]
      · have:wz 1 (h1.set a [v1]) v1 (l.length+1) (xO l++[.aD (h.next+1) 0]):=p2.mono (by simp) fun j hj=>by
         rw[vid]at hj
         have:=u6 hj
         rw[vN (by omega)]
        simpa [xO]using this
      · rw[vid]at hj
        have:=u6 hj
        exact⟨by omega,by omega⟩
      · rw[W1];simp [ll]
      · rw[List.nodup_append]
        refine⟨b.nd,by simp,fun u hu w hw=> ?_⟩
        obtain rfl:=List.mem_singleton.1 hw
        obtain⟨j,hj,ej⟩:=Yp.1 hu
        obtain⟨sid,t1,_⟩:=b.tr j hj
        rw[show l.getD j 0=u by rw[XN,XQ hj,←ej];rfl]at t1
        have:=h.lt _ _ t1
        omega
      · rw[vI,Ye]at hi
        by_cases e:i<l.length
        · obtain⟨sid,t1,t2,⟨t3,t4,t5⟩,t6,t7,t8⟩:=b.tr i e
          have l1:=h.lt _ _ t1
          have l2:=h.lt _ _ t2
          rw[Dy e,W1,S1,Dy (by omega),Dy (by omega)]
          refine⟨sid,by rw[vN t3,k1 _ (by omega) t5,gl _ l1,t1],by rw[vN t6,k1 _ (by omega) t8,gl _ l2,t2],⟨t3,t4,fun z=> ?_⟩,t6,t7,fun z=> ?_⟩
          · rw[vid]at z;have:=u6 z;omega
          · rw[vid]at z;have:=u6 z;omega
        · obtain rfl:i=l.length:=by omega
          rw[Dx,W1,S1]
          have e1:(v7 p++[y]).getD l.length 0=y:=by rw[ll];exact Dx
          have e2:(vV 0 p++[((p.length:Nat):Int)]).getD l.length 0=p.length:=by rw[ll,←sl];exact Dx
          rw[e1,e2]
          refine⟨h.next,by rw[vN (by omega),gt1],by rw[vN (by omega),gs1],⟨by omega,by omega,fun z=> ?_⟩,by omega,by omega,fun z=> ?_⟩
          · rw[vid]at z;have:=u6 z;omega
          · rw[vid]at z;have:=u6 z;omega
     obtain⟨l',av',h',L,nb'⟩:=Ce hC rd pos q (p++[y]) _ _ _ (by rw[hp];simp) nb
     refine⟨l',av',h',tN ?_ L,nb'⟩
     have hfa:h1.floor≤a:=by omega
     have e3:(((p++[y]).length:Nat):Int)=(p.length:Int)+1:=by simp
     rw[e3]
     have vs:v1.sc=true:=p2.sc
     have vc:v1.cells=[v1]:=p2.cells
     rw[eg]at p1
     clear nb nb' rd b owng p2 L k1 gl gn gf eg S1 W1 hyC
     simp (disch:=omega)only[go_sem,vT,AP.f359L2,c1,b1,b2,c,ga,vZ,vW,p1,ga1,hfa,vs,vc]
   · have S1:vV 0 (p++[y])=vV 0 p:=by rw[CD,vV,if_neg c];simp [vV]
     have W1:v7 (p++[y])=v7 p:=by rw[DT,v7,if_neg c];simp [v7]
     have nb:Bt hb h a o C.length (p++[y]) l av:=⟨b.ext,b.fl,b.MJ,b.ga,b.fa,b.go,b.fo,b.Vu,b.own,b.nv,by rw[W1];exact b.ll,b.nd,fun i hi=>by rw[W1,S1];exact b.tr i hi⟩
     obtain⟨l',av',h',L,nb'⟩:=Ce hC rd pos q (p++[y]) _ _ _ (by rw[hp];simp) nb
     refine⟨l',av',h',tN ?_ L,nb'⟩
     have e3:(((p++[y]).length:Nat):Int)=(p.length:Int)+1:=by simp
     rw[e3]
     clear nb nb' rd b L S1 W1 hyC
     simp (disch:=omega)only[go_sem,vT,AP.f359L2,c1,b1,b2,c]
theorem Hz.congr {h:H} {a id:Nat} {l:List Nat} {J:List AV} {rc rc':Nat→Tz} (z:Hz h a id l J rc) (e:∀x∈l,rc' x=rc x):Hz h a id l J rc':=
 ⟨z.ga,z.gi,z.fa,z.fi,z.ne,fun t ht=>by rw[e t ht];exact z.tr t ht,z.lb⟩
theorem Hz.mono {h g:H} {a id:Nat} {l:List Nat} {J:List AV} {rc:Nat→Tz} (z:Hz h a id l J rc) (hf:g.floor=h.floor) (hg:∀i,(i=a∨i=id∨i∈l)→g.get i=h.get i):Hz g a id l J rc:=
 ⟨by rw[hg a (.inl rfl)];exact z.ga,by rw[hg id (.inr (.inl rfl))];exact z.gi,by rw[hf];exact z.fa,by rw[hf];exact z.fi,z.ne,fun t ht=>by rw[hg t (.inr (.inr ht))];exact z.tr t ht,z.lb⟩
theorem JS.congr {rc rc':Nat→Tz} {l:List Nat} (o:JS (yz rc) 0 l.length l) (e:∀x∈l,rc' x=rc x):JS (yz rc') 0 l.length l:=fun c h0 hc hp=>by
 have:=o c h0 hc hp
 have m1:=e _ (Bz (l:=l) (i:=c) hc)
 have m2:=e _ (Bz (l:=l) (i:=(c-1)/2) (by omega))
 unfold yz at this ⊢
 rw[m1,m2];exact this
theorem Rd.wV {h g:H} {v:AV} {cs:List AV} (r:Rd h v cs) (hg:∀j,v.id?=some j→g.get j=h.get j):Rd g v cs:=by
 refine⟨?_,r.2⟩
 have:=r.1
 cases v with
 | aE id off len s =>
   simp only[aS]at this ⊢
   rw[hg id rfl];exact this
 |_=>exact this
structure Mz (hb h:H) (a id o n N:Nat) (J:List AV) (l:List Nat) (rc:Nat→Tz) (O:List Int):Prop where
 z:Hz h a id l J rc
 ext:Ext hb h
 fl:h.floor=hb.next
 MJ:h.floor≤h.next
 la:hb.next≤a
 li:hb.next≤id
 lo:hb.next≤o
 go:h.get o=some (ints O)
 no:o≠a∧o≠id
 ol:O.length=N
 ob:∀y∈O,0≤y∧y≤((1000* (n-l.length):Nat):Int)
 tr:∀t∈l,t≠o∧∃sv,h.get t=some [.int .i64 (rc t).w,.int .i64 (rc t).m,sv]∧Rd h sv (ints (rc t).L)∧sv.sc=true∧sv.cells=[sv]∧∀j,sv.id?=some j→j≠a∧j≠id∧j≠o
 wb:∀t∈l,0≤(rc t).w∧(rc t).w<1000000000000000
theorem IY:∀(L O:List Int) (B:Int),(∀y∈O,0≤y∧y≤B)→0≤B→∀y∈DD O L,0≤y∧y≤B+L.length
 |[],O,B,h,hB,y,hy=>by have:=h y hy;simp;exact this
 | s :: r, O, B, h, hB, y, hy => by
   rw[DD]at hy
   have:=IY r _ (B+1) (z5 h hB) (by omega) y hy
   rw[XO];omega
theorem IX {a o t N:Nat} {made:Int} {sv:AV} {L:List Int} (h0:H) (rd:Rd h0 sv (ints L)) (hL:L.length<100000) (hr:∀s∈L,0≤s∧s<N) (hN:N<100000):∀(q p:List Int) (O:List Int) (B:Int) (h:H),L=p++q→Ext h0 h→h0.get o=none→h.get o=some (ints O)→h.floor≤o→O.length=N→(∀y∈O,0≤y∧y≤B)→0≤B→B+q.length<1000000000→
 ∃h',Lp AP.A [3,4,7,10,75,76,77] AP.f359L0 [(3,.aE o 0 N 1),(4,.aD a 0),(7,.int .i64 made),(10,.aD t 0),(75,sv),(76,.int .i64 L.length),(77,.int .i64 p.length)] h=some (.exit 4,[(3,.aE o 0 N 1),(4,.aD a 0),(7,.int .i64 made),(10,.aD t 0),(75,sv),(76,.int .i64 L.length),(77,.int .i64 L.length),(78,.bool false)],h')∧h'.get o=some (ints (DD O q))∧h'.floor=h.floor∧h'.next=h.next∧∀i,i≠o→h'.get i=h.get i
 | [], p, O, B, h, hp, hx, hn, go, fo, hO, ob, hB, hb => by
   rw[XZ]at hp;subst hp
   refine⟨h,tM ?_,go,rfl,rfl,fun _ _=>rfl⟩
   simp (disch:=omega)only[go_sem,vT,AP.f359L0]
 | s :: q, p, O, B, h, hp, hx, hn, go, fo, hO, ob, hB, hb => by
   have hl:L.length=p.length+(q.length+1):=by rw[hp];simp
   obtain⟨ad,a1,a2⟩:=rd.xi
   have b1:=a1 p.length ⟨by omega,by omega⟩
   have hyC:L[p.length]?=some s:=by rw[hp];simp
   have b2:=a2 h hx p.length s hyC
   have sr:=hr s (vq hyC)
   have c1:((p.length:Nat):Int)<L.length:=by omega
   have sO:s.toNat<O.length:=by omega
   have gs:=zu sO
   have ib:cN (.int .i64 s) N=some s.toNat:=by
    simp [cN,nR,sr]
   have yb:=ob (O.getD s.toNat 0) (by rw[XN,XQ sO];exact X4 _)
   have st:=xj O s.toNat (O.getD s.toNat 0+1)
   have lO:(ints O).length=O.length:=by rw[pY]
   obtain⟨h',L1,g1,f1,n1,k1⟩:=IX h0 rd hL hr hN q (p++[s]) (xz O s.toNat) (B+1) (h.set o (ints (xz O s.toNat))) (by rw[hp];simp) (hx.Df hn _) hn (by rw[v9 rfl,go];rfl) (by simpa using fo) (by rw[yo];exact hO) (z5 ob hB) (by omega) (by simp at hb;omega)
   refine⟨h',tN ?_ L1,by rw[DD];exact g1,by rw[f1];simp,by rw[n1];simp,fun i hi=>by rw[k1 i hi,vN hi]⟩
   have e3:(((p++[s]).length:Nat):Int)=(p.length:Int)+1:=by simp
   rw[e3]
   unfold xz
   rw[←st]
   rw[hO]at lO sO
   generalize ints O=P at *
   generalize O.getD s.toNat 0=y at *
   generalize s.toNat=k at *
   clear rd L1 ob hr a1 a2 hyC st g1 k1 hx
   simp (disch:=omega)only[go_sem,vT,AP.f359L0,c1,b1,b2,ib,go,gs,fo]
theorem Kn {hb h : H} {a id o n N : Nat} {J : List AV} {l : List Nat} {rc : Nat → Tz} {O : List Int} {tr : Nat → Tr} {tot : Int} {S : List Int} {G s : FS} (v : Mz hb h a id o n N J l rc O) (sm : H8 n N tot S G s rc tr l O) (ho : JS (yz rc) 0 l.length l) (h2 : 2 ≤ l.length) (hn : n ≤ 1000) (hN : N ≤ 1000) (ht : tot < 1000000000000000) :
 ∃h' J' l' rc' tr' s' O',aL (aR AP.A) bq AP.f359L1 [(3,.aE o 0 N 1),(4,.aD a 0),(7,.int .i64 (N+(n-l.length):Nat))] h=some (.normal,[(3,.aE o 0 N 1),(4,.aD a 0),(7,.int .i64 (N+(n-l'.length):Nat))],h')∧Mz hb h' a id o n N J' l' rc' O'∧H8 n N tot S G s' rc' tr' l' O'∧JS (yz rc') 0 l'.length l'∧l'.length+1=l.length:=by
 have ga:=v.z.ga
 have lb:=v.z.lb
 have ll:=sm.ll
 obtain⟨ta,l1,h1,k1,z1,pm1,ho1,le1,n1,f1,kp1⟩:=Nr v.z (by omega) ho
 have pl1:=pm1.length_eq
 rw[XO]at pl1
 obtain⟨tb,l2,h2',k2,z2,pm2,ho2,le2,n2,f2,kp2⟩:=Nr z1 (by omega) ho1
 have pl2:=pm2.length_eq
 rw[XO]at pl2
 have pm:l.Perm (ta::tb::l2):=pm1.trans (pm2.cons ta)
 have sm1:=sm.perm pm
 have kp:∀i,i≠a→i≠id→h2'.get i=h.get i:=fun i q1 q2=>by rw[kp2 i q1 q2,kp1 i q1 q2]
 have tm:∀x∈ta::tb::l2,x∈l:=fun x hx=>pm.mem_iff.2 hx
 have T:∀x∈l,x≠a∧x≠id∧x≠o∧x<h.next∧∃sv,h2'.get x=some [.int .i64 (rc x).w,.int .i64 (rc x).m,sv]∧Rd h2' sv (ints (rc x).L)∧sv.sc=true∧sv.cells=[sv]∧∀j,sv.id?=some j→j≠a∧j≠id∧j≠o:=fun x hx=>by
  obtain⟨a1,a2,_,_⟩:=v.z.tr x hx
  obtain⟨a3,sv,g1,g2,g3,g4,g5⟩:=v.tr x hx
  exact⟨a1,a2,a3,h.lt _ _ g1,sv,by rw[kp x a1 a2,g1],g2.wV fun j hj=>kp j (g5 j hj).1 (g5 j hj).2.1,g3,g4,g5⟩
 obtain⟨ta1,ta2,ta3,ta4,sva,ga1,ga2,ga3,ga4,ga5⟩:=T ta (tm _ (by simp))
 obtain⟨tb1,tb2,tb3,tb4,svb,gb1,gb2,gb3,gb4,gb5⟩:=T tb (tm _ (by simp))
 have wa:=v.wb ta (tm _ (by simp))
 have wb:=v.wb tb (tm _ (by simp))
 have nx:h2'.next=h.next:=by rw[n2,n1]
 obtain⟨t,et⟩:∃t,t=h2'.next+1:=⟨_,rfl⟩
 obtain⟨rc',erc⟩:∃r:Nat→Tz,r=fun x=>if x=t then⟨(rc ta).w+(rc tb).w,((N+(n-(l2.length+2)):Nat):Int),(rc ta).L++(rc tb).L⟩else rc x:=⟨_,rfl⟩
 have fr:∀x∈l2,x≠t:=fun x hx=>by
  obtain⟨_,_,_,q,_⟩:=T x (tm x (by simp [hx]))
  omega
 have rct:rc' t=⟨(rc ta).w+(rc tb).w,((N+(n-(l2.length+2)):Nat):Int),(rc ta).L++(rc tb).L⟩:=by rw[erc];exact if_pos rfl
 have rco:∀x∈l2,rc' x=rc x:=fun x hx=>by rw[erc];exact if_neg (fr x hx)
 obtain⟨sm2,rL,cL,pL⟩:=sm1.step hn hN ht (rc':=rc') (t:=t) (fun x hx=>le1 x (pm2.mem_iff.2 hx)) (fun x hx=>le2 x hx) fr rco rct
 obtain⟨L,eL⟩:∃L,L=(rc ta).L++(rc tb).L:=⟨_,rfl⟩
 rw[←eL]at rct sm2 rL cL pL
 have xa:Ext h2' (h2'.alloc [sva,svb]):=(Ext.refl _).alloc _
 have k3:aR AP.A 62 [.aE h2'.next 0 2 1] (h2'.alloc [sva,svb])=some (wP L,h2'.alloc [sva,svb]):=by
  have r1:Rd (h2'.alloc [sva,svb]) (.aE h2'.next 0 2 1) ([(sva,(rc ta).L),(svb,(rc tb).L)].map (·.1)):=⟨by simp [aS,vZ],by intro s e;cases e⟩
  have e:cat [(sva,(rc ta).L),(svb,(rc tb).L)]=L:=by rw[eL];simp [cat]
  have:=EN (h2'.alloc [sva,svb]) (.aE h2'.next 0 2 1) [(sva,(rc ta).L),(svb,(rc tb).L)] r1 (fun p hp=>by
   simp at hp
   rcases hp with rfl|rfl
   · exact ga2.mono fun i c q=>xa i c q
   · exact gb2.mono fun i c q=>xa i c q) (by rw[e];omega) (by simp) (by rw[e];exact pL)
  rw[e]at this;exact this
 obtain⟨h4,eh4⟩:∃g,g=(h2'.alloc [sva,svb]).alloc [.int .i64 ((rc ta).w+(rc tb).w),.int .i64 (N+(n-l.length):Nat),wP L]:=⟨_,rfl⟩
 have gt4:h4.get t=some [.int .i64 ((rc ta).w+(rc tb).w),.int .i64 (N+(n-l.length):Nat),wP L]:=by rw[eh4,et,vZ (by simp)]
 have n4:h4.next=h.next+2:=by rw[eh4];simp;omega
 have f4:h4.floor=h.floor:=by rw[eh4];simp;omega
 have kp4:∀i,i<h.next→h4.get i=h2'.get i:=fun i hi=>by rw[eh4,vW (by simp;omega),vW (by omega)]
 have lo:=h.lt _ _ v.go
 have la:=h.lt _ _ ga
 have li:=h.lt _ _ v.z.gi
 have go4:h4.get o=some (ints O):=by rw[kp4 o lo,kp o v.no.1 v.no.2,v.go]
 have ln:jc false (wP L)=some (.int .i64 L.length):=rfl
 have rdL:Rd H.empty (wP L) (ints L):=yu _ _
 have fl:=v.fl
 have vlo:=v.lo
 obtain⟨h5,L5,g5,f5,n5,kp5⟩:=IX (a:=a) (t:=t) (made:=(N+(n-l.length):Nat)) (N:=N) H.empty rdL (by omega) rL (by omega) L [] O ((1000* (n-l.length):Nat):Int) h4 rfl (fun i c q=>by simp [H.empty,H.get]at q) (by simp [H.empty,H.get]) go4 (by omega) v.ol v.ob (by omega) (by omega)
 have gt5:h5.get t=some [.int .i64 (rc' t).w,.int .i64 (rc' t).m,wP L]:=by
  rw[kp5 t (by omega),gt4,rct,show l.length=l2.length+2 by omega]
 have z2':Hz h5 a id l2 (.aD tb 0:: .aD ta 0::J) rc':=by
  refine(z2.mono (by omega) fun i hi=> ?_).congr rco
  have:i<h.next∧i≠o:=by
   rcases hi with rfl|rfl|hi
   · exact⟨la,v.no.1.symm⟩
   · exact⟨li,v.no.2.symm⟩
   · obtain⟨_,_,q1,q2,_⟩:=T i (tm i (by simp [hi]))
     exact⟨q2,q1⟩
  rw[kp5 i this.2,kp4 i this.1]
 have MJ:=v.MJ
 obtain⟨l',h6,k6,z6,pm6,ho6,n6,f6,kp6⟩:=OS z2' (ho2.congr rco) (t:=t) (sv:=wP L) ⟨by omega,by omega⟩ (by rw[rct];exact⟨by show(0:Int)≤((_:Nat):Int);omega,by show((_:Nat):Int)<1000000;omega⟩) gt5 (by omega) (by omega)
 have pl6:=pm6.length_eq
 rw[XO]at pl6
 have kpo:∀i,i<h.next→i≠a→i≠id→i≠o→h6.get i=h.get i:=fun i q1 q2 q3 q4=>by rw[kp6 i (by omega) q2 q3,kp5 i q4,kp4 i q1,kp i q2 q3]
 refine⟨h6,_,l',rc',_,_,DD O L, ?_,⟨z6,fun i c hi=> ?_,by omega,by omega,v.la,v.li,v.lo, ?_,v.no,by rw[E6];exact v.ol, ?_,fun x hx=> ?_,fun x hx=> ?_⟩,sm2.perm pm6.symm,ho6,by omega⟩
 · have c:(1:Int)<l.length:=by omega
   have k0:∀g:H,aR AP.A 363 [.aE id 0 l.length 1] g=_:=fun g=>E3 g id l.length
   have em:((N+(n-l'.length):Nat):Int)=((N+(n-l.length):Nat):Int)+1:=by omega
   have lms:((([]:List Int).length:Nat):Int)=0:=rfl
   rw[lms]at L5
   rw[em]
   have mb:((N+(n-l.length):Nat):Int)<1000000:=by omega
   have ga4':=(kp4 ta ta4).trans ga1
   have gb4':=(kp4 tb tb4).trans gb1
   have im1:(wP L).sc=true:=rfl
   have im2:(wP L).cells=[wP L]:=rfl
   generalize ((N+(n-l.length):Nat):Int)=made at *
   generalize (rc ta).w=A1 at *
   generalize (rc ta).m=A2 at *
   generalize (rc tb).w=B1 at *
   generalize (rc tb).m=B2 at *
   generalize wP L=iL at *
   generalize L.length=LL at *
   rw[et]at k6 L5 gt4
   clear v sm z1 z2 z2' z6 pm1 ho ho1 ho2 ho6 le1 le2 pm2 pm sm1 kp tm T fr rco rct sm2 rL xa eL kp4 kp5 kp6 kpo gt5 go4 g5 rdL erc
   simp (disch:=first|omega|(simp only[xk,XO,XR,vr,Nat.reduceAdd,ga1,gb1];first|done|omega|fail)|(simp (disch:=first|omega|(simp only[xk,XO,XR,vr,Nat.reduceAdd,ga1,gb1];first|done|omega|fail)|fail)only[xk,Bb,XU,XO,XR,vr,Nat.reduceAdd,ga1,gb1];done)|fail)only[go_sem,vT,Ba,AP.f359L1,ga,k0,c,k1,k2,ga1,gb1,k3,←eh4,gt4,ga4',gb4',ln,sG,L5,k6,ga3,ga4,gb3,gb4,im1,im2]
 · have:=hb.lt _ _ hi
   have e:=v.ext i c hi
   have:=h.lt _ _ e
   have:=v.la
   have:=v.li
   rw[kpo i (by omega) (by omega) (by omega) (by omega),e]
 · rw[kp6 o (by omega) v.no.1 v.no.2,g5]
 · intro y hy
   have:=IY L O _ v.ob (by omega) y hy
   omega
 · rcases vF.1 (pm6.mem_iff.1 hx)with q|q
   · subst q
     exact⟨by omega,wP L,by rw[kp6 _ (by omega) (by omega) (by omega),gt5],by rw[rct];exact rdL.wV fun j hj=>(by cases hj),rfl,rfl,fun j hj=>(by cases hj)⟩
   · obtain⟨a1,a2,a3,a4,sv,q1,q2,q3,q4,q5⟩:=T x (tm x (by simp [q]))
     have kx:h6.get x=h2'.get x:=by rw[kpo x a4 a1 a2 a3,kp x a1 a2]
     refine⟨a3,sv,by rw[kx,rco x q,q1], ?_,q3,q4,q5⟩
     rw[rco x q]
     refine q2.wV fun j hj=> ?_
     obtain⟨b1,b2,b3⟩:=q5 j hj
     have jl:j<h2'.next:=by
      have:=q2.1
      cases sv with
      | aE i2 o2 l2' s2 =>
        obtain rfl:=u6 hj
        cases e:h2'.get i2 with
        |none=>simp [aS,e]at this
        |some c=>exact h2'.lt _ _ e
      |aD i2 o2=>cases this
      |_=>cases hj
     rw[kpo j (by omega) b1 b2 b3,kp j b1 b2]
 · rcases vF.1 (pm6.mem_iff.1 hx)with q|q
   · subst q
     rw[rct]
     have e:=(sm2.rel _ (List.mem_cons_self)).1
     rw[rct]at e
     have ws:=sm2.hv.sum
     have wp:=sm2.hv.KI
     refine⟨by show 0≤(rc ta).w+(rc tb).w;omega, ?_⟩
     rw[XX,XX,Yj]at ws
     have nn:∀q:List Tr,(∀t∈q,1≤s.FY.W.getD t.1 0)→0≤(q.map fun t=>s.FY.W.getD t.1 0).sum:=by
      intro q
      induction q with
      |nil=>intro _;simp
      |cons x q ih=>intro h;have:=ih fun t ht=>h t (by simp [ht]);have:=h x (by simp);simp only[XX,Yj];omega
     have:=nn _ (fun t ht=>wp t (Ys _ ht))
     rw[←e]at ws
     show(rc ta).w+(rc tb).w<_
     have ws':(rc ta).w+(rc tb).w+_=tot:=ws
     omega
   · rw[rco x q];exact v.wb x (tm x (by simp [q]))
theorem Fh {hb:H} {a id o n N:Nat} {tot:Int} {S:List Int} {G:FS} (hn:n≤1000) (hN:N≤1000) (ht:tot<1000000000000000):∀(m:Nat) (h:H) (J:List AV) (l:List Nat) (rc:Nat→Tz) (tr:Nat→Tr) (s:FS) (O:List Int),l.length=m+1→Mz hb h a id o n N J l rc O→H8 n N tot S G s rc tr l O→JS (yz rc) 0 l.length l→
 ∃h' t rc' tr' s' O' mv,Lp AP.A [3,4,7] AP.f359L1 [(3,.aE o 0 N 1),(4,.aD a 0),(7,.int .i64 (N+(n-l.length):Nat))] h=some (.exit 2,[(3,.aE o 0 N 1),(4,.aD a 0),(7,mv),(41,.bool false)],h')∧H8 n N tot S G s' rc' tr' [t] O'∧h'.get o=some (ints O')∧h'.floor=hb.next
 | 0, h, J, l, rc, tr, s, O, hl, v, sm, ho => by
   obtain⟨t,rfl⟩:=List.length_eq_one_iff.1 hl
   have ga:=v.z.ga
   have k0:∀g:H,aR AP.A 363 [.aE id 0 1 1] g=_:=fun g=>E3 g id 1
   refine⟨h,t,rc,tr,s,O,.int .i64 (N+(n-[t].length):Nat),tM ?_,sm,v.go,v.fl⟩
   rw[Ye]at ga
   have c:¬(1:Int)<((1:Nat):Int):=by omega
   clear v sm ho
   generalize ((N+(n-[t].length):Nat):Int)=made
   simp (disch:=omega)only[go_sem,vT,AP.f359L1,ga,k0,c]
 | m + 1, h, J, l, rc, tr, s, O, hl, v, sm, ho => by
   obtain⟨h1,J1,l1,rc1,tr1,s1,O1,k,v1,sm1,ho1,e⟩:=Kn v sm ho (by omega) hn hN ht
   obtain⟨h',t,rc',tr',s',O',mv,L,r⟩:=Fh hn hN ht m h1 J1 l1 rc1 tr1 s1 O1 (by omega) v1 sm1 ho1
   exact⟨h',t,rc',tr',s',O',mv,tN k L,r⟩
theorem IV {l:List Nat} (nd:l.Nodup) {i:Nat} (h:i<l.length):l.idxOf (l.getD i 0)=i:=by
 have hm:l.getD i 0∈l:=Bz h
 have h1:=List.idxOf_lt_length_of_mem hm
 have h2:=List.getElem_idxOf h1
 have h3:l[i]=l.getD i 0:=by rw[XN,XQ h];rfl
 rcases Nat.lt_trichotomy (l.idxOf (l.getD i 0)) i with q|q|q
 · exact absurd (h2.trans h3.symm) (List.pairwise_iff_getElem.1 nd _ _ h1 h q)
 · exact q
 · exact absurd (h3.trans h2.symm) (List.pairwise_iff_getElem.1 nd _ _ h h1 q)
def Fs (l:List Nat) (C:List Int) (t:Nat):Tz:=⟨(v7 C).getD (l.idxOf t) 0,(vV 0 C).getD (l.idxOf t) 0,[(vV 0 C).getD (l.idxOf t) 0]⟩
def KG (l:List Nat) (t:Nat):Tr:=(l.idxOf t,[(l.idxOf t,0)])
theorem Oj {l:List Nat} (nd:l.Nodup) {n:Nat} (h:l.length=n):l.map (KG l)=T0 n:=by
 apply List.ext_getElem?
 intro i
 unfold T0
 rw[vx,vx]
 by_cases c:i<l.length
 · rw[XQ c,Yl (by omega)]
   have h3:l[i]=l.getD i 0:=by rw[XN,XQ c];rfl
   show some (KG l l[i])=_
   unfold KG
   rw[h3,IV nd c];rfl
 · rw[X5 (by omega),X5 (by simp;omega)];rfl
def B6 (C:List Int):List Int:=wO (vV 0 C) (wg (v7 C)) (List.replicate C.length 0)
theorem LR (C:List Int):(B6 C).length=C.length:=by unfold B6;rw[xu];simp
theorem Jf {α:Type} {l:List α} {x d:α} (h:x∈l):∃i,i<l.length∧l.getD i d=x:=by
 obtain⟨i,hi,e⟩:=Yp.1 h
 exact⟨i,hi,by rw[XN,XQ hi,←e];rfl⟩
theorem N7 {hb h:H} {a o:Nat} {C:List Int} {l:List Nat} {av:AV} (b:Bt hb h a o C.length C l av) (hC:C.length<1000) (pos:∀y∈C,0≤y∧y≤2147483647) (h1:1≤l.length):
 ∃id,Hz h a id l [] (Fs l C)∧Mz hb h a id o (v7 C).length C.length [] l (Fs l C) (List.replicate C.length 0)∧H8 (v7 C).length C.length (v7 C).sum (vV 0 C) (FS.yV ((v7 C).length-1) (Az (v7 C))) (Az (v7 C)) (Fs l C) (KG l) l (List.replicate C.length 0):=by
 obtain⟨id,ev,gi,fi⟩:=Ez b.own h1
 have av1:av.id?=some id:=by rw[ev];rfl
 have nva:=b.nv id av1
 have ga:=b.ga
 rw[ev]at ga
 have so:=G6 C
 have sl:=wG 0 C
 have ll:=b.ll
 have fl:=b.fl
 have wl:=xI 0 C
 have rel:∀t∈l,∃i,i<l.length∧l.getD i 0=t∧KG l t=(i,[(i,0)])∧Fs l C t=⟨(v7 C).getD i 0,(vV 0 C).getD i 0,[(vV 0 C).getD i 0]⟩:=fun t ht=>by
  obtain⟨i,hi,e⟩:=Jf (d:=0) ht
  have ix:=IV b.nd hi
  rw[e]at ix
  exact⟨i,hi,e,by unfold KG;rw[ix],by unfold Fs;rw[ix]⟩
 have z:Hz h a id l [] (Fs l C):=by
  refine⟨ga,by rw[XZ];exact gi,by rw[fl];exact b.fa,fi,nva.1.symm,fun t ht=> ?_,by omega⟩
  obtain⟨i,hi,e,_,e2⟩:=rel t ht
  obtain⟨sid,t1,t2,⟨t3,t4,t5⟩,_⟩:=b.tr i hi
  have:=so.at (i:=i) (by omega)
  rw[e]at t1 t3 t5
  rw[e2]
  exact⟨t3,fun q=>t5 (by rw[q];exact av1),⟨by show 0≤(vV 0 C).getD i 0;omega,by show(vV 0 C).getD i 0<_;omega⟩,_,t1⟩
 have wmem:∀i,i<l.length→1≤(v7 C).getD i 0∧(v7 C).getD i 0≤2147483647:=fun i hi=>by
  have hm:(v7 C).getD i 0∈v7 C:=by rw[XN,XQ (by omega)];exact X4 _
  obtain⟨q1,q2⟩:=zm C _ hm
  have:=pos _ q1
  omega
 refine⟨id,z,⟨z,b.ext,fl,b.MJ,b.fa,by omega,b.fo,b.go,⟨b.Vu.symm,fun q=>nva.2 q.symm⟩,by simp,fun y hy=>by have:=X7 hy;omega,fun t ht=> ?_,fun t ht=> ?_⟩, ?_⟩
 · obtain⟨i,hi,e,_,e2⟩:=rel t ht
   obtain⟨sid,t1,t2,⟨t3,t4,t5⟩,t6,t7,t8⟩:=b.tr i hi
   rw[e]at t1 t4
   rw[e2]
   refine⟨t4,.aE sid 0 1 1,t1,⟨?_,by intro s e;cases e⟩,rfl,rfl,fun j hj=> ?_⟩
   · show aS h 1 (.aE sid 0 1 1)=some (1,[.int .i64 ((vV 0 C).getD i 0)])
     simp [aS,t2]
   · obtain rfl:sid=j:=u6 hj
     exact⟨t6,fun q=>t8 (by rw[q];exact av1),t7⟩
 · obtain⟨i,hi,e,_,e2⟩:=rel t ht
   rw[e2]
   have:=wmem i hi
   exact⟨by show 0≤(v7 C).getD i 0;omega,by show(v7 C).getD i 0<_;omega⟩
 · refine H8.init so (fun y hy=>by obtain⟨i,hi,e⟩:=Jf (d:=0) hy;have:=wmem i (by omega);omega) (KG l) (Oj b.nd ll) fun t ht=> ?_
   obtain⟨i,hi,e,e1,e2⟩:=rel t ht
   exact⟨i,by omega,e1,e2⟩
theorem MZ (h : H) (x : AV) (C : List Int) (h1 : 1 ≤ C.length) (hC : C.length < 1000) (rd : Rd h x (ints C)) (pos : ∀ y ∈ C, 0 ≤ y ∧ y ≤ 2147483647) :
 aR AP.A 359 [x] h=some (yJ 1 C.length (ints (B6 C)),h):=by
 have y9:Rd h.dN x (ints C):=rd.mono (vX h)
 have ln:=rd.len
 rw[pY]at ln
 simp only[I]at ln
 obtain⟨g0,eg0⟩:∃g,g=(h.dN.alloc (yE C.length [.int .i64 0])).alloc [.aP]:=⟨_,rfl⟩
 have go:g0.get h.next=some (ints (List.replicate C.length 0)):=by rw[eg0,vW (by simp),vZ (by simp),yd]
 have ga:g0.get (h.next+1)=some [.aP]:=by rw[eg0,vZ (by simp)]
 have fl0:g0.floor=h.next:=by rw[eg0];simp
 have nx0:g0.next=h.next+2:=by rw[eg0];simp
 have b0:Bt h.dN g0 (h.next+1) h.next C.length [] [] .aP:=by
  refine⟨by rw[eg0];exact((Ext.refl _).alloc _).alloc _,by rw[fl0];rfl,by omega,ga,by simp,go,by simp,by omega,wz.nil,fun j hj=>(by cases hj),rfl,List.nodup_nil,fun i hi=>(by simp at hi)⟩
 obtain⟨l,av,g1,L1,b1⟩:=Ce hC y9 (fun y hy=>(pos y hy).1) C [] [] .aP g0 rfl b0
 have L1':Lp AP.A [0,3,4,16,17,18] AP.f359L2 [(0,x),(3,.aE h.next 0 C.length 1),(4,.aD (h.next+1) 0),(16,x),(17,.int .i64 C.length),(18,.int .i64 0)] g0=_:=L1
 obtain⟨g2,g3,mv,k1,L2,g4,f3⟩:∃g2 g3 mv,aR AP.A 362 [DC (h.next+1)] g1=some (.bM [],g2)∧Lp AP.A [3,4,7] AP.f359L1 [(3,.aE h.next 0 C.length 1),(4,.aD (h.next+1) 0),(7,.int .i64 C.length)] g2=some (.exit 2,[(3,.aE h.next 0 C.length 1),(4,.aD (h.next+1) 0),(7,mv),(41,.bool false)],g3)∧g3.get h.next=some (ints (B6 C))∧g3.floor=h.next:=by
  by_cases hl:1≤l.length
  · obtain⟨id,z,m,sm⟩:=N7 b1 hC pos hl
    have ll:=b1.ll
    obtain⟨i1,i2⟩:=I6 (ky:=yz (Fs l C)) (n:=l.length) (l.length/2) l (vm _) (fun c h0 hc hp=>by omega)
    have k:=OR z
    have z2:=z.set i2
    have hs:(v7 C).sum<1000000000000000:=by
     have:=CC (v7 C) 2147483647 (fun y hy=>(pos y (zm C y hy).1).2)
     have wl:=xI 0 C
     rw[wG]at wl
     have:(2147483647:Int)* ((v7 C).length:Nat)≤2147483647* 1000:=Int.mul_le_mul_of_nonneg_left (by omega) (by omega)
     omega
    have pl:=i2.length_eq
    have m2:Mz h.dN (g1.set id (xO (BA (ky:=yz (Fs l C)) l.length (l.length/2) l)++[])) (h.next+1) id h.next (v7 C).length C.length [] (BA (ky:=yz (Fs l C)) l.length (l.length/2) l) (Fs l C) (List.replicate C.length 0):=by
     refine⟨z2,m.ext.set m.li _,by simpa using m.fl,by simpa using m.MJ,m.la,m.li,m.lo,by rw[vN m.no.2];exact m.go,m.no,m.ol,by rw[pl];exact m.ob,fun t ht=> ?_,fun t ht=>m.wb t (i2.mem_iff.1 ht)⟩
     obtain⟨a1,sv,q1,q2,q3,q4,q5⟩:=m.tr t (i2.mem_iff.1 ht)
     obtain⟨_,a2,_⟩:=z.tr t (i2.mem_iff.1 ht)
     exact⟨a1,sv,by rw[vN a2];exact q1,q2.wV fun j hj=>vN (q5 j hj).2.1,q3,q4,q5⟩
    obtain⟨h',t,rc',tr',s',O',mv,L,sm',go',fl'⟩:=Fh (n:=(v7 C).length) (N:=C.length) (by have:=xI 0 C;rw[wG]at this;omega) (by omega) hs (l.length-1) _ _ _ _ _ _ _ (by omega) m2 (sm.perm i2.symm) (by rw[pl];exact i1)
    have e0:C.length+((v7 C).length-(BA (ky:=yz (Fs l C)) l.length (l.length/2) l).length)=C.length:=by omega
    rw[e0]at L
    have:=H8.V7 rfl sm'
    exact⟨_,h',mv,k,L,by rw[go',this];rfl,fl'⟩
  · have el:l=[]:=Yg (by omega)
    subst el
    have av0:av=.aP:=by
     rcases b1.own.2 with ⟨q,_⟩|⟨id,_,_,_,q⟩
     · exact q
     · simp at q
    have ga1:=b1.ga
    rw[av0]at ga1
    have k0:∀g:H,aR AP.A 363 [.aP] g=some (.int .i64 0,g):=fun g=>by
     refine tZ (fn:=AP.f363) (e:=[(2,.int .i64 0)]) (vs:=[.int .i64 0]) rfl rfl rfl (by simp (disch:=omega)only[go_sem,vT,AP.f363,Hk]) rfl
    have LI:Lp AP.A [0,2,3] AP.f362L0 [(0,DC (h.next+1)),(2,.int .i64 0),(3,.int .i64 (-1))] g1=some (.exit 0,[(0,DC (h.next+1)),(2,.int .i64 0),(3,.int .i64 (-1)),(10,.bool false)],g1):=by
     refine tM ?_
     have c:¬(0:Int)≤-1:=by omega
     simp (disch:=omega)only[go_sem,vT,AP.f362L0,c]
    have hq:=Kh (n:=0) (by omega)
    have hq':bj .quo (.int .i64 0) (.int .i64 2)=some (.int .i64 0):=hq
    refine⟨g1,g1,.int .i64 C.length, ?_,tM ?_, ?_,b1.fl⟩
    · refine wF (fn:=AP.f362) (e:=[]) (vs:=[]) rfl rfl rfl ?_ rfl
      simp (disch:=omega)only[go_sem,vT,AP.f362,ga1,k0,hq',sG,LI]
    · have c:¬(1:Int)<0:=by omega
      simp (disch:=omega)only[go_sem,vT,AP.f359L1,ga1,k0,c]
    · rw[b1.go]
      have e:v7 C=[]:=Yg (by have:=b1.ll;simp at this;omega)
      have e2:vV 0 C=[]:=Yg (by rw[wG,e];rfl)
      unfold B6
      rw[e2];rfl
 have own:wz 1 g3 (.aE h.next 0 C.length 1) C.length (ints (B6 C)):=⟨by rw[pY,LR];omega,.inr ⟨h.next,rfl,g4,by omega,by omega⟩⟩
 have s1:=own.yi (fl:=h.next) (m:=14) (t:=true) (by omega)
 refine uz (fn:=AP.f359) (h2:=g3) (e:=[(2,.aE h.next 0 C.length 1)]) (vs:=[.aE h.next 0 C.length 1]) rfl rfl rfl ?_ rfl s1
 clear own s1 b1 b0 L1 rd y9 pos go ga g4
 simp (disch:=first|omega|(simp only[xk,XO,XR,vr,Nat.reduceAdd];first|done|omega|fail)|(simp (disch:=first|omega|(simp only[xk,XO,XR,vr,Nat.reduceAdd];first|done|omega|fail)|fail)only[xk,Bb,XU,XO,XR,vr,Nat.reduceAdd];done)|fail)only[go_sem,vT,Ba,AP.f359,ln,←eg0,sG,L1',k1,L2]
theorem Vq {a b c x:aG} {e e':Env} {h h':H} {q:dz} (k:aL (aR AP.A) bq (.seq a (.seq b c)) e h=some (.normal,e',h')) (z:aL (aR AP.A) bq x e' h'=q):aL (aR AP.A) bq (.seq a (.seq b (.seq c x))) e h=q:=by
 have st:∀{a b b':aG} {e:Env} {h:H},(∀e h,aL (aR AP.A) bq b e h=some (.normal,e',h')→aL (aR AP.A) bq b' e h=q)→aL (aR AP.A) bq (.seq a b) e h=some (.normal,e',h')→aL (aR AP.A) bq (.seq a b') e h=q:=fun {a b b' e h} f k=>by
  rw[se]at k ⊢
  cases hq:aL (aR AP.A) bq a e h with
  |none=>rw[hq]at k;cases k
  | some r =>
    obtain⟨ex,ev,hr⟩:=r
    cases ex with
    |normal=>rw[hq,sZ]at k;rw[sZ];exact f _ _ k
    |exit i=>rw[hq]at k;cases k
    |ret=>rw[hq]at k;cases k
 refine st (fun e h=>st fun e h k=> ?_) k
 rw[se,k,sZ];exact z
theorem Je {v:AV} {l:List Int} (hl:l.length<100000) (h:H) (rd:Rd h v (ints l)):∀(q p:List Int) (m:Int),l=p++q→
 ∃e',Lp AP.A [0,3,4] AP.f360L0 [(0,v),(3,.int .i64 m),(4,.int .i64 p.length)] h=some (.exit 0,e',h)∧look e' 3=.int .i64 (Aa q m)
 | [], p, m, hp => by
   rw[XZ]at hp;subst hp
   have ln:=rd.len
   rw[pY]at ln
   simp only[I]at ln
   refine⟨[(0,v),(3,.int .i64 m),(4,.int .i64 l.length),(15,.bool false)],tM ?_,rfl⟩
   simp (disch:=omega)only[go_sem,vT,AP.f360L0,ln]
 | y :: q, p, m, hp => by
   have ln:=rd.len
   rw[pY]at ln
   simp only[I]at ln
   have hlen:l.length=p.length+(q.length+1):=by rw[hp];simp
   obtain⟨ad,a1,a2⟩:=rd.xi
   have b1:=a1 p.length ⟨by omega,by omega⟩
   have b2:=a2 h (Ext.refl h) p.length y (by rw[hp];simp)
   obtain⟨e',L,r⟩:=Je hl h rd q (p++[y]) (DG m y) (by rw[hp];simp)
   have w1:((p++[y]).length:Int)=(p.length:Int)+1:=by simp
   rw[w1]at L
   refine⟨e',tN ?_ L,r⟩
   clear L rd a1 a2 hp
   simp (disch:=omega)only[go_sem,vT,AP.f360L0,ln,b1,b2,HG,El]
theorem Pl (h:H) (v:AV) (l:List Int) (h1:1≤l.length) (hl:l.length<100000) (rd:Rd h v (ints l)):∃M,aR AP.A 360 [v] h=some (.int .i64 M,h)∧∀m,M≤m↔∀y∈l,y≤m:=by
 obtain⟨y,r,rfl⟩:∃y r,l=y::r:=by
  cases l with
  |nil=>simp at h1
  |cons y r=>exact⟨y,r,rfl⟩
 have y9:Rd h.dN v (ints (y::r)):=rd.mono (vX h)
 have ln:=rd.len
 rw[pY]at ln
 simp only[I]at ln
 obtain⟨ad,a1,a2⟩:=y9.xi
 have b1:=a1 0 ⟨by omega,by simp⟩
 have b2:=a2 h.dN (Ext.refl _) 0 y rfl
 obtain⟨e',L,q⟩:=Je hl h.dN y9 r [y] y rfl
 have L':Lp AP.A [0,3,4] AP.f360L0 [(0,v),(3,.int .i64 y),(4,.int .i64 1)] h.dN=some (.exit 0,e',h.dN):=L
 refine⟨Aa r y,uz (fn:=AP.f360) (h2:=h.dN) (e:=[(2,.int .i64 (Aa r y))]) (vs:=[.int .i64 (Aa r y)]) rfl rfl rfl ?_ rfl rfl,fun m=>⟨fun h z hz=> ?_,fun h=>Db r y m (fun d hd=>h d (by simp [hd])) (h y (by simp))⟩⟩
 · have c:¬(((y::r).length:Nat):Int)<1:=by simp;omega
   have b2':bQ false 1 (ad 0) h.dN=some (.int .i64 y):=b2
   generalize (((y::r).length:Nat):Int)=N at *
   clear rd y9 a1 a2 L
   simp (disch:=omega)only[go_sem,vT,AP.f360,ln,c,b1,b2',sG,L',q]
 · have:=Ev r y
   rcases vF.1 hz with e|e
   · subst e;omega
   · have:=this.2 z e;omega
theorem I7 {v:AV} {l:List Int} (hl:l.length<1125899906842624) (h:H) (rd:Rd h v (ints l)):∀(q p:List Int),l=p++q→(0:Int)∈q→
 ∃e',Lp AP.A [0,1,7,8] AP.f189L0 [(0,v),(1,.int .i64 0),(7,.int .i64 l.length),(8,.int .i64 p.length)] h=some (.ret,e',h)∧look e' 4=.int .i64 (p.length+A8 q:Nat)
 |[],p,hp,h0=>by simp at h0
 | x :: q, p, hp, h0 => by
   have hlen:l.length=p.length+(q.length+1):=by rw[hp];simp
   obtain⟨ad,a1,a2⟩:=rd.xi
   have b1:=a1 p.length ⟨by omega,by omega⟩
   have b2:=a2 h (Ext.refl h) p.length x (by rw[hp];simp)
   rw[A8]
   by_cases c:x=0
   · rw[if_pos c]
     refine⟨[(4,.int .i64 p.length)],uh ?_,rfl⟩
     subst c
     clear rd a1 a2 hp
     simp (disch:=omega)only[go_sem,vT,AP.f189L0,b1,b2]
   · rw[if_neg c]
     obtain⟨e',r1,r2⟩:=I7 hl h rd q (p++[x]) (by rw[hp];simp) (by rcases vF.1 h0 with q|q;exact absurd q.symm c;exact q)
     have w1:((p++[x]).length:Int)=(p.length:Int)+1:=by simp
     rw[w1]at r1
     refine⟨e',tN ?_ r1,by rw[r2];simp;omega⟩
     have cb:((0:Int)==x)=false:=by simp;omega
     clear r1 rd a1 a2 hp
     simp (disch:=omega)only[go_sem,vT,AP.f189L0,b1,b2,c,cb]
theorem Vk (h:H) (v:AV) (l:List Int) (rd:Rd h v (ints l)) (hl:l.length<100000) (h0:(0:Int)∈l):aR AP.A 189 [v,.int .i64 0] h=some (.int .i64 (A8 l:Nat),h):=by
 have y9:Rd h.dN v (ints l):=rd.mono (vX h)
 have ln:=rd.len
 rw[pY]at ln
 simp only[I]at ln
 obtain⟨e',r1,r3⟩:=I7 (by omega) h.dN y9 l [] rfl h0
 have r1':Lp AP.A [0,1,7,8] AP.f189L0 [(0,v),(1,.int .i64 0),(7,.int .i64 l.length),(8,.int .i64 0)] h.dN=some (.ret,e',h.dN):=r1
 simp only[XR,vr]at r3
 refine uz (fn:=AP.f189) (h2:=h.dN) (e:=e') (vs:=[.int .i64 (A8 l:Nat)]) rfl rfl rfl ?_ (by simp only[AP.f189,cw,nC,r3];rfl) rfl
 clear rd y9 r1 r3
 simp (disch:=omega)only[go_sem,vT,AP.f189,ln,sG,r1']
theorem DS {v:AV} {l:List Int} (hl:l.length<100000) (h:H) (rd:Rd h v (ints l)):∀(q p:List Int) (m:Nat),l=p++q→m≤p.length→
 ∃e',Lp AP.A [3,6,7,8] AP.f358L0 [(3,.int .i64 m),(6,v),(7,.int .i64 l.length),(8,.int .i64 p.length)] h=some (.exit 0,e',h)∧look e' 3=.int .i64 (m+Ai q:Nat)
 | [], p, m, hp, hm => by
   rw[XZ]at hp;subst hp
   refine⟨[(3,.int .i64 m),(6,v),(7,.int .i64 l.length),(8,.int .i64 l.length),(9,.bool false)],tM ?_,rfl⟩
   simp (disch:=omega)only[go_sem,vT,AP.f358L0]
 | y :: q, p, m, hp, hm => by
   have hlen:l.length=p.length+(q.length+1):=by rw[hp];simp
   obtain⟨ad,a1,a2⟩:=rd.xi
   have b1:=a1 p.length ⟨by omega,by omega⟩
   have b2:=a2 h (Ext.refl h) p.length y (by rw[hp];simp)
   have c1:((p.length:Nat):Int)<l.length:=by omega
   have w1:((p++[y]).length:Int)=(p.length:Int)+1:=by simp
   by_cases c:0<y
   · obtain⟨e',L,r⟩:=DS hl h rd q (p++[y]) (m+1) (by rw[hp];simp) (by simp;omega)
     rw[w1]at L
     refine⟨e',tN ?_ L,by rw[r];unfold Ai;rw[v7,if_pos c,XO];congr 1;omega⟩
     have w2:((m+1:Nat):Int)=(m:Int)+1:=by omega
     rw[w2]
     clear L rd a1 a2 hp
     simp (disch:=omega)only[go_sem,vT,AP.f358L0,c1,b1,b2,c]
   · obtain⟨e',L,r⟩:=DS hl h rd q (p++[y]) m (by rw[hp];simp) (by simp;omega)
     rw[w1]at L
     refine⟨e',tN ?_ L,by rw[r];unfold Ai;rw[v7,if_neg c]⟩
     clear L rd a1 a2 hp
     simp (disch:=omega)only[go_sem,vT,AP.f358L0,c1,b1,b2,c]
theorem Ok (h:H) (v:AV) (l:List Int) (rd:Rd h v (ints l)) (hl:l.length<100000):aR AP.A 358 [v] h=some (.int .i64 (Ai l:Nat),h):=by
 have y9:Rd h.dN v (ints l):=rd.mono (vX h)
 have ln:=rd.len
 rw[pY]at ln
 simp only[I]at ln
 obtain⟨e',L,r⟩:=DS hl h.dN y9 l [] 0 rfl (by simp)
 have L':Lp AP.A [3,6,7,8] AP.f358L0 [(3,.int .i64 0),(6,v),(7,.int .i64 l.length),(8,.int .i64 0)] h.dN=some (.exit 0,e',h.dN):=L
 rw[vr]at r
 refine uz (fn:=AP.f358) (h2:=h.dN) (e:=[(2,.int .i64 (Ai l:Nat))]) (vs:=[.int .i64 (Ai l:Nat)]) rfl rfl rfl ?_ rfl rfl
 clear rd y9 L
 simp (disch:=omega)only[go_sem,vT,AP.f358,ln,sG,L',r]
def LO (v:AV):Bool:=match v with| .int _ n=>decide (n<0)||decide (2147483647<n)|_=>true
theorem Sq (n:Int) (h:H):aR AP.A 357 [.int .i64 n] h=some (.bool (LO (.int .i64 n)),h):=by
 by_cases c1:n<0
 · refine uz (fn:=AP.f357) (h2:=h.dN) (e:=[(2,.bool true)]) (vs:=[.bool true]) rfl rfl rfl ?_ rfl ?_
   · simp (disch:=omega)only[go_sem,vT,AP.f357,c1]
   · simp [LO,c1];rfl
 · refine uz (fn:=AP.f357) (h2:=h.dN) (e:=[(2,.bool (decide (2147483647<n)))]) (vs:=[.bool (decide (2147483647<n))]) rfl rfl rfl ?_ rfl ?_
   · simp (disch:=omega)only[go_sem,vT,AP.f357,c1]
   · simp [LO,c1];rfl
theorem Fo {mv:AV} {n wid:Nat} (hn:n<1000):∀(q p:List Int) (h:H),p.length+q.length=n→(∀y∈q,0≤y∧y<1000000000000)→h.get wid=some (ints (wM p++q))→h.floor≤wid→h.floor≤h.next→
 ∃h',Lp AP.A [1,7,55,56,57] AP.f351L0 [(1,mv),(7,.aE wid 0 n 1),(55,.aE wid 0 n 1),(56,.int .i64 n),(57,.int .i64 p.length)] h=some (.exit 2,[(1,mv),(7,.aE wid 0 n 1),(55,.aE wid 0 n 1),(56,.int .i64 n),(57,.int .i64 n),(58,.bool false)],h')∧h'.get wid=some (ints (wM (p++q)))∧h'.floor=h.floor∧h'.next=h.next∧(∀i,i≠wid→h'.get i=h.get i)
 | [], p, h, hl, hr, hg, hf, hfl => by
   obtain rfl:p.length=n:=by simpa using hl
   refine⟨h,tM ?_,by simpa using hg,rfl,rfl,fun _ _=>rfl⟩
   simp (disch:=omega)only[go_sem,vT,AP.f351L0]
 | y :: q, p, h, hl, hr, hg, hf, hfl => by
   have yr:=hr y (by simp)
   simp only[XO]at hl
   have n1:(((p++[y]).length:Nat):Int)=(p.length:Int)+1:=by simp
   have hp:(wM p).length=p.length:=yR p
   have ix:(ints (wM p++y::q))[p.length]?=some (.int .i64 y):=tu (by rw[X0 (by omega),hp];simp)
   have il:(ints (wM p++y::q)).length=n:=by rw[pY,vI,hp,XO];omega
   have st:(ints (wM p++y::q)).set p.length (.int .i64 (zw y))=ints (wM (p++[y])++q):=by
    rw[xj,Yn _ _ (by omega),hp,YB]
    simp [wM]
   have q1:bj .quo (.int .i64 (y+1)) (.int .i64 2)=some (.int .i64 (zw y)):=by
    have e:=sg (k:=.i64) (a:=y+1) (b:=2) (by omega)
    rw[e,Int.tdiv_eq_ediv_of_nonneg (by omega),wi (by omega)];rfl
   have c1:((p.length:Nat):Int)<n:=by omega
   have g2:(h.set wid (ints (wM (p++[y])++q))).get wid=some (ints (wM (p++[y])++q)):=by rw[v9 rfl,hg];rfl
   obtain⟨h',k1,k2,k3,k4,k5⟩:=Fo (mv:=mv) hn q (p++[y]) (h.set wid (ints (wM (p++[y])++q))) (by simp;omega) (fun e he=>hr e (by simp [he])) g2 (by simpa using hf) (by simpa using hfl)
   refine⟨h',tN ?_ k1,by rw[k2];simp,by rw[k3];simp,by rw[k4];simp,fun i hi=>by rw[k5 i hi,vN hi]⟩
   rw[n1]
   clear k1 k2 k3 k4 k5 g2 hr
   generalize ints (wM p++y::q)=A at *
   generalize ints (wM (p++[y])++q)=B at *
   simp (disch:=omega)only[go_sem,vT,AP.f351L0,c1,ix,il,st,q1,hg]
theorem Ma {C:List Int} (h:∀y∈C,0≤y∧y≤2147483647):∀y∈wM C,0≤y∧y≤2147483647:=fun y hy=>by
 obtain⟨z,hz,rfl⟩:=X1.1 hy
 have:=h z hz
 unfold zw;omega
theorem Le {m : Nat} {S : List Int} {n wid : Nat} (hn1 : 1 ≤ n) (hn : n < 1000) (nd : (S.map Int.toNat).Nodup) (hr : ∀ s ∈ S, s.toNat < n) : ∀ (K : Nat) (C O : List Int) (h : H), yc m K (v7 C) → C.length = n → vV 0 C = S → (∀ y ∈ C, 0 ≤ y ∧ y ≤ 2147483647) → O.length = n → (∀ p, p < n → (∀ s ∈ S, s.toNat ≠ p) → O[p]? = some 0) → h.get wid = some (ints C) → h.floor ≤ wid → h.floor ≤ h.next →
 ∃h' v,Lp AP.A [1,7] AP.f351L1 [(1,.int .i64 m),(7,.aE wid 0 n 1)] h=some (.ret,[(4,v),(5,.int .i64 0)],h')∧v=yJ 1 n (ints (zc S K (v7 C) O))∧h'.floor=h.floor
 | 0, C, O, h, r, hC, hS, hp, hO, hz, hg, hf, hfl => by
   cases r with
   | last o c =>
     have wl:(v7 C).length=S.length:=by rw[←wG 0 C,hS]
     have rd:Rd h (.aE wid 0 n 1) (ints C):=wz.y9 (by
      rw[pY]
      exact⟨by rw[pY];omega,.inr ⟨wid,by rw[hC],hg,hf,by omega⟩⟩)
     have k1:=MZ h _ C (by omega) (by omega) rd hp
     have e:B6 C=zc S 0 (v7 C) O:=by
      unfold B6
      rw[zc,hS,hC]
      exact(zF (by rw[xH,wl]) nd hO hr hz).symm
     rw[hC,e]at k1
     have lr:(zc S 0 (v7 C) O).length=n:=by rw[DF,hO]
     obtain⟨M,k2,k3⟩:=Pl h (yJ 1 n (ints (zc S 0 (v7 C) O))) (zc S 0 (v7 C) O) (by omega) (by omega) (by have:=Ad h (zc S 0 (v7 C) O);rwa [lr]at this)
     have c':M≤m:=by
      rw[k3,zc]
      rw[zF (by rw[xH,wl]) nd hO hr hz]
      exact(Fz (by rw[xH,wl]) nd hr (by omega)).2 c
     refine⟨h,_,uh ?_,rfl,rfl⟩
     clear k3 rd nd hr hz
     simp (disch:=omega)only[go_sem,vT,AP.f351L1,k1,k2,c']
 | K + 1, C, O, h, r, hC, hS, hp, hO, hz, hg, hf, hfl => by
   cases r with
   | more o c hne r =>
     have wl:(v7 C).length=S.length:=by rw[←wG 0 C,hS]
     have rd:Rd h (.aE wid 0 n 1) (ints C):=wz.y9 (by
      rw[pY]
      exact⟨by rw[pY];omega,.inr ⟨wid,by rw[hC],hg,hf,by omega⟩⟩)
     have k1:=MZ h _ C (by omega) (by omega) rd hp
     have e:B6 C=wO S (wg (v7 C)) O:=by
      unfold B6
      rw[hS,hC]
      exact(zF (by rw[xH,wl]) nd hO hr hz).symm
     rw[hC,e]at k1
     have lr:(wO S (wg (v7 C)) O).length=n:=by rw[xu,hO]
     obtain⟨M,k2,k3⟩:=Pl h (yJ 1 n (ints (wO S (wg (v7 C)) O))) (wO S (wg (v7 C)) O) (by omega) (by omega) (by have:=Ad h (wO S (wg (v7 C)) O);rwa [lr]at this)
     have c':¬M≤m:=by
      rw[k3]
      rw[zF (by rw[xH,wl]) nd hO hr hz]
      intro q
      have:=(Fz (by rw[xH,wl]) nd hr (by omega)).1 q
      omega
     have hpn:∀y∈C,0≤y:=fun y hy=>(hp y hy).1
     obtain⟨s1,s2⟩:=Eh 0 C hpn
     obtain⟨h1,L,g1,f1,n1,_⟩:=Fo (mv:=.int .i64 m) hn C [] h (by simpa using hC) (fun y hy=>by have:=hp y hy;omega) hg hf hfl
     have L':Lp AP.A [1,7,55,56,57] AP.f351L0 [(1,.int .i64 m),(7,.aE wid 0 n 1),(55,.aE wid 0 n 1),(56,.int .i64 n),(57,.int .i64 0)] h=_:=L
     obtain⟨h',v,L2,r2,f2⟩:=Le hn1 hn nd hr K (wM C) (wO S (wg (v7 C)) O) h1 (by rw[s2];exact r) (by rw[yR,hC]) (by rw[s1,hS]) (Ma hp) (by rw[xu,hO]) (fun p hp hq=>by rw[ye _ _ _ _ hq];exact hz p hp hq) g1 (by omega) (by omega)
     refine⟨h',v,tN ?_ L2,by rw[r2,s2];rfl,by omega⟩
     clear k3 rd nd hr hz L L2 r2 hp hpn g1
     simp (disch:=omega)only[go_sem,vT,AP.f351L1,k1,k2,c',Bi,sG,L']
theorem HK (h : H) (x : AV) (C : List Int) (m K : Nat) (h2 : 2 ≤ C.length) (hn : C.length ≤ 288) (rd : Rd h x (ints C)) (hm : 1 ≤ m ∧ m ≤ 15) (hr : ∀ y ∈ C, 0 ≤ y ∧ y ≤ 2147483647) (hs : Ai C ≤ 2 ^ m) (ro : yc m K (xE C)) :
 aR AP.A 351 [x,.int .i64 m] h=some (.bM [yJ 1 C.length (ints (xe C K)),.int .i64 0],h):=by
 have y9:Rd h.dN x (ints C):=rd.mono (vX h)
 have ln:=rd.len
 rw[pY]at ln
 simp only[I]at ln
 have pos:∀y∈C,0≤y:=fun y hy=>(hr y hy).1
 have kb:=EO LO (x:=x) (fv:=.fn 357 [] []) (cs:=ints C) (fun v hv g=>by
  obtain⟨n,_,rfl⟩:=X1.1 hv
  rw[nV];exact Sq n g) (by rw[pY];omega) h.dN y9
 have nb:(ints C).any LO=false:=by
  rw[List.any_eq_false]
  intro v hv
  obtain⟨n,hn',rfl⟩:=X1.1 hv
  have:=hr n hn'
  simp [LO,I];omega
 rw[nb]at kb
 have ku:=Ok h.dN x C y9 (by omega)
 have s1:pF .shl .i64 1 (m:Int)=some (.int .i64 ((2^m:Nat):Int)):=by
  have:=ym (a:=1) (s:=m) (by omega) (by
   have:2^m≤2^15:=XY (by omega) hm.2
   omega)
  rwa [Nat.one_mul]at this
 have kc:=Oz h.dN x C y9 (by omega) (by omega) (by simp)
 obtain⟨g,eg⟩:∃g,g=((h.dN.alloc []).del h.dN.next).alloc (ints C):=⟨_,rfl⟩
 rw[←eg]at kc
 have gg:g.get (h.next+1)=some (ints C):=by rw[eg,vZ (by simp)]
 have gf:g.floor=h.next:=by rw[eg];simp
 have gn:g.next=h.next+2:=by rw[eg];simp
 have rdg:Rd g (.aE (h.next+1) 0 C.length 1) (ints C):=wz.y9 (by
  rw[pY]
  exact⟨by rw[pY];omega,.inr ⟨h.next+1,rfl,gg,by omega,by omega⟩⟩)
 have ku2:=Ok g _ C rdg (by omega)
 obtain ⟨g2, P, q1, q2, q3⟩ : ∃ g2, aL (aR AP.A) bq (at_ 4 AP.f351.body) [(1, .int .i64 m), (7, .aE (h.next + 1) 0 C.length 1)] g = some (.normal, [(1, .int .i64 m), (7, .aE (h.next + 1) 0 C.length 1)], g2) ∧ g2.get (h.next + 1) = some (ints (Fl C)) ∧ g2.floor = h.next ∧ g2.next = h.next + 2 := by
  unfold Fl
  by_cases c:Ai C=1
  · rw [if_pos c]
    have z0:(0:Int)∈C:=by
     refine Yc fun q=> ?_
     have:∀D:List Int,(∀y∈D,0<y)→(v7 D).length=D.length:=by
      intro D
      induction D with
      |nil=>intro _;rfl
      |cons y D ih=>intro h;rw[v7,if_pos (h y (by simp)),XO,XO,ih fun z hz=>h z (by simp [hz])]
     have:=this C fun y hy=>by
      have:=pos y hy
      by_cases e:y=0
      · subst e;exact absurd hy q
      · omega
     unfold Ai at c
     omega
    have kx:=Vk g _ C rdg (by omega) z0
    have il : A8 C < C.length := by
     have:∀D:List Int,(0:Int)∈D→A8 D<D.length:=by
      intro D
      induction D with
      |nil=>intro h;simp at h
      | cons y D ih =>
        intro h
        rw[A8,XO]
        split
        · omega
        · rename_i e
          rcases vF.1 h with q|q
          · exact absurd q.symm e
          · have:=ih q;omega
     exact this C z0
    rw[c]at ku2
    have st:=xj C (A8 C) 1
    refine⟨g.set (h.next+1) (ints (C.set (A8 C) 1)), ?_,by rw[v9 rfl,gg];rfl,by simpa using gf,by simpa using gn⟩
    have lC:(ints C).length=C.length:=pY C
    have gfl:g.floor≤h.next+1:=by omega
    have ib:cN (.int .i64 (A8 C:Nat)) C.length=some (A8 C):=by simp [cN,nR,il]
    rw[←st]
    clear rd y9 rdg kb ku kc s1 ro hr pos nb st eg
    generalize ints C=A at *
    generalize A8 C=i at *
    generalize C.length=n at *
    simp (disch:=omega)only[go_sem,vT,AP.f351,xR,xW,ku2,kx,ib,gg,gfl,lC]
  · rw[if_neg c]
    have cb:(((Ai C:Nat):Int)==1)=false:=by simp;omega
    refine⟨g, ?_,gg,gf,gn⟩
    clear rd y9 rdg kb ku kc s1 ro hr pos nb eg
    simp (disch:=omega)only[go_sem,vT,AP.f351,xR,xW,ku2,cb]
 obtain⟨p1,p2⟩:=R4 pos h2
 have so:=G6 (Fl C)
 have ppos:∀y∈Fl C,0≤y∧y≤2147483647:=fun y hy=>by
  unfold Fl at hy
  split at hy
  · rcases Yd hy with q|q
    · exact hr y q
    · omega
  · exact hr y hy
 obtain⟨h',v,L,ev,fl'⟩:=Le (m:=m) (n:=C.length) (wid:=h.next+1) (by omega) (by omega) so.nd (fun s hs=>by have:=so.O6 s hs;rw[Jr]at this;omega) K (Fl C) (List.replicate C.length 0) g2 (by rw[p2];exact ro) (Jr C) rfl ppos (by simp) (fun p hp _=>by rw[Yi,if_pos hp]) q1 (by omega) (by omega)
 rw[p1,p2]at ev
 have ev':v=yJ 1 C.length (ints (xe C K)):=ev
 have lo:(xe C K).length=C.length:=yS C K
 refine uz (fn:=AP.f351) (h2:=h') (e:=[(4,v),(5,.int .i64 0)]) (vs:=[v,.int .i64 0]) rfl rfl rfl ?_ rfl ?_
 · have hb:AP.f351.body=.seq (at_ 0 AP.f351.body) (.seq (at_ 1 AP.f351.body) (.seq (at_ 2 AP.f351.body) (.seq (at_ 3 AP.f351.body) (.seq (at_ 4 AP.f351.body) (Lv 5 AP.f351.body))))):=rfl
   have c1:¬(C.length:Int)<2:=by omega
   have c2:¬(288:Int)<(C.length:Int):=by omega
   have c3:¬(m:Int)<1:=by omega
   have c4:¬(15:Int)<(m:Int):=by omega
   have c5:¬((2^m:Nat):Int)<(Ai C:Nat):=by omega
   have a012:aL (aR AP.A) bq (.seq (at_ 0 AP.f351.body) (.seq (at_ 1 AP.f351.body) (at_ 2 AP.f351.body))) (params 0 [x,.int .i64 m]) h.dN=some (.normal,[(0,x),(1,.int .i64 m)],h.dN):=by
    clear rd y9 rdg kc ro hr pos nb eg L P ku2 so ppos
    generalize 2^m=M at *
    simp (disch:=omega)only[go_sem,vT,AP.f351,xR,xW,ln,c1,c2,kb,c3,c4,s1,ku,c5]
   have a3:aL (aR AP.A) bq (at_ 3 AP.f351.body) [(0,x),(1,.int .i64 m)] h.dN=some (.normal,[(1,.int .i64 m),(7,.aE (h.next+1) 0 C.length 1)],g):=by
    clear rd y9 rdg ro hr pos nb eg L P ku2 so ppos
    have kc':aR AP.A 118 [x] h.dN=some (.aE (h.next+1) 0 C.length 1,g):=kc
    simp (disch:=omega)only[go_sem,vT,AP.f351,xR,xW,kc']
   have a5:aL (aR AP.A) bq (Lv 5 AP.f351.body) [(1,.int .i64 m),(7,.aE (h.next+1) 0 C.length 1)] g2=some (.ret,[(4,v),(5,.int .i64 0)],h'):=by
    clear rd y9 rdg ro hr pos nb eg P ku2 so ppos
    simp (disch:=omega)only[go_sem,vT,AP.f351,Oe,Od,sG,L]
   rw[hb]
   refine Vq a012 ?_
   rw[se,a3,sZ,se,P,sZ,a5]
 · have s1:snap h'.get h.next 15 true v=some v:=by
    rw[ev'];unfold yJ;split<;>rfl
   show(fD (snap h'.get h.next 15 true) [v,.int .i64 0]).bind _=_
   rw[←ev']
   simp only[fD,s1,vi]
   rfl
theorem FQ : ∀ (ts : List Tok) (s : Int), wo s ts = true → ∀ t ∈ ts, y6 t ∧ (t.len ≠ 0 → t.lit = 0)
 |[],_,_,t,ht=>by simp at ht
 | k :: ts, s, h, t, ht => by
   rw[wo]at h
   cases e:wS s k with
   |none=>rw[e]at h;cases h
   | some s' =>
     rw[e]at h
     simp only at h
     by_cases c:8192<s'
     · rw[if_pos c]at h;cases h
     · rw [if_neg c] at h
       rcases vF.1 ht with q|q
       · subst q
         unfold wS at e
         by_cases z:t.len=0
         · rw[if_pos z]at e
           split at e
           · cases e
           · exact⟨.inl ⟨z,by omega,by omega⟩,fun n=>absurd z n⟩
         · rw[if_neg z]at e
           split at e
           · cases e
           · exact⟨.inr ⟨by omega,by omega,by omega,by omega⟩,fun _=>by omega⟩
       · exact FQ ts s' h t q
theorem KW : ∀ (ts : List Tok) (o : List Nat), wo o.length ts = true → o.length + ts.length ≤ (yj ts o).length
 |[],o,_=>by simp [yj]
 | t :: r, o, h => by
   rw[wo]at h
   cases e:wS o.length t with
   |none=>rw[e]at h;cases h
   | some s' =>
     rw[e]at h
     simp only at h
     have z:=Ci e
     have p:(o.length:Int)+1≤s':=by
      unfold wS at e
      split at e
      · split at e
        · cases e
        · have:=u6 e;omega
      · split at e
        · cases e
        · have:=u6 e;omega
     by_cases c:8192<s'
     · rw[if_pos c]at h;cases h
     · rw[if_neg c,←z]at h
       have:=KW r (wK o t) h
       rw[yj,XO];omega
theorem Nc {ts:List Tok} (h:Ds ts=true):wo 0 ts=true∧ts.length≤300∧(∀t∈ts,y6 t)∧(∀t∈ts,t.len≠0→t.lit=0)∧(yj ts []).length≤300:=by
 unfold Ds yK at h
 by_cases m:wo 0 ts=true
 · rw[if_pos m]at h
   simp only[xf,decide_eq_true_eq]at h
   have:=KW ts [] m
   have o:=FQ ts 0 m
   exact⟨m,by simp at this;omega,fun t ht=>(o t ht).1,fun t ht=>(o t ht).2,h⟩
 · rw[if_neg m]at h;cases h
theorem NK (h : H) (v : AV) (ts : List Tok) (hn : ts.length < 1000000) (rd : yC 3 h v ts.length (wJ ts)) : aR AP.A 326 [v] h = some (if Ds ts = true then .bM [.str (bytesOf (wD (xh ts))), .int .i64 0] else .bM [.str ⟨#[]⟩, .int .i64 800], h) := by
 have rd0:yC 3 h.dN v ts.length (wJ ts):=rd.mono fun i c q=>q
 have k1:=NM h.dN v ts hn rd0
 by_cases H4:Ds ts=true
 · rw [if_pos H4]
   rw[H4]at k1
   obtain⟨_,hl,tok,lit,_⟩:=Nc H4
   have kf:=K0 h.dN
   have kc:=BI h.dN (wP wy) wy (by rw[xJ];omega) (by rw[xJ];omega) (yu h.dN wy) (.inl (by rw[yF (by rw[xJ];omega) (by rw[xJ];omega) xS.O6 xS.left,if_pos Ck]))
   obtain⟨g,eg⟩:∃g,g=h.dN.alloc [.int .i64 5]:=⟨_,rfl⟩
   have hN:h.dN.next=h.next:=rfl
   have k5:aR AP.A 43 [.aE h.next 0 1 1,.int .i64 30] g=some (wP xM,g):=by
    have r:=Ae g (.aE h.next 0 1 1) 5 30 (by omega) ⟨by
     have gg:g.get h.next=some [.int .i64 5]:=by rw[eg,vZ (by simp)]
     simp [aS,gg];rfl,by intro s e;cases e⟩
    exact r
   have l5:xM.length=30:=by simp [xM]
   have kc5:=BI g (wP xM) xM (by omega) (by omega) (yu g xM) (.inr (by rw[yF (by omega) (by omega) zR.O6 zR.left,if_neg (by rw[Du];omega)]))
   obtain⟨g2,eg2⟩:∃g2:H,g2=g:=⟨_,rfl⟩
   have gfl:g.floor=h.next:=by rw[eg];simp
   have gnx:g.next=h.next+1:=by rw[eg];simp
   have x0:=H0 (h:=g) (by omega)
   obtain⟨h1,o1,p1,w1,f1⟩:=zI x0.wr 1 1 (by omega) (by omega) (by simp)
   have x1:=x0.step w1 f1
   obtain⟨h2,o2,p2,w2,f2⟩:=zI x1.wr 1 2 (by omega) (by omega) (by simp [wc,wm])
   have x2:=x1.step w2 f2
   have kn:aR AP.A 345 [] g=some (.aD g.next 0,g.alloc [.aP,.int .i64 0]):=by
    refine tZ (fn:=AP.f345) (e:=[(0,.aD g.next 0)]) (vs:=[.aD g.next 0]) rfl rfl rfl ?_ rfl
    simp (disch:=omega)only[go_sem,vT,AP.f345]
   have kb:aR AP.A 333 [.int .i64 1] g=some (.aD g.next 0,h2):=by
    refine tZ (fn:=AP.f333) (e:=[(2,.aD g.next 0)]) (vs:=[.aD g.next 0]) rfl rfl rfl ?_ rfl
    clear x0 x1 x2
    have k1':aR AP.A 335 [.aD g.next 0,.int .i64 1,.int .i64 1] (g.alloc [.aP,.int .i64 0])=some (.int .i64 0,h1):=p1
    have k2':aR AP.A 335 [.aD g.next 0,.int .i64 1,.int .i64 2] h1=some (.int .i64 0,h2):=p2
    simp (disch:=omega)only[go_sem,vT,AP.f333,kn,k1',k2']
   have rdg:yC 3 g v ts.length (wJ ts):=rd0.mono fun i c q=>by
    have:=h.lt i c q
    rw[eg,vW (by simp;omega)];exact q
   obtain⟨h3,k3⟩:=Lg (by omega) g rdg (yI g wy) (yI g xM) (fun t ht=>⟨Dv (tok t ht),tok t ht,lit t ht⟩) (BR xS zS (by rw[xJ];omega)) g.next _ h2 o2 x2 (by simp [wc,wm];omega)
   have e:[]++wc 1 1++wc 1 2++(w9 (vO wy) (vO xM) ts++vY (vO wy) 256)=xh ts:=by
    have:([]:List Nat)++wc 1 1++wc 1 2=wc 3 3:=by decide
    rw[this];rfl
   rw[e]at k3
   refine uz (fn:=AP.f326) (h2:=h3) (e:=[(2,.str (bytesOf (wD (xh ts)))),(3,.int .i64 0)]) (vs:=[.str (bytesOf (wD (xh ts))),.int .i64 0]) rfl rfl rfl ?_ rfl rfl
   clear x0 w1 f1 w2 f2 x1 x2 p1 p2 e rd rd0 rdg eg2
   generalize bytesOf (wD (xh ts))=SB at *
   have ic:(wP wy).cells=[wP wy]:=rfl
   generalize wP wy=I1 at *
   generalize wP xM=I2 at *
   generalize zG wy=C1 at *
   generalize zG xM=C2 at *
   rw[gnx]at kb k3
   simp (disch:=omega)only[go_sem,vT,AP.f326,hN,k1,kf,kc,←eg,k5,kc5,kb,k3]
 · rw[if_neg H4]
   rw[Bool.eq_false_iff.2 H4]at k1
   refine uz (fn:=AP.f326) (h2:=h.dN) (e:=[(2,.str ⟨#[]⟩),(3,.int .i64 800)]) (vs:=[.str ⟨#[]⟩,.int .i64 800]) rfl rfl rfl ?_ rfl rfl
   clear rd rd0
   simp (disch:=omega)only[go_sem,vT,AP.f326,k1]
theorem Mp {v:AV} {ts:List Tok} (hn:ts.length<1000000) (h0:H) (rd:yC 3 h0 v ts.length (wJ ts)) (ia ib i:Nat) (t:Tok) (ht:ts[i]?=some t) (o:y6 t) (tl:t.len≠0→t.lit=0) (hab:ia≠ib) (hia:h0.next≤ia) (hib:h0.next≤ib) {A B:List Int} {h:H} (hx:Ext h0 h) (ga:h.get ia=some (ints A)) (gb:h.get ib=some (ints B)) (hA:A.length=286) (hB:B.length=30) (rA:∀y∈A,0≤y∧y≤(i:Int)+1) (rB:∀y∈B,0≤y∧y≤(i:Int)+1) (fa:h.floor≤ia) (fb:h.floor≤ib) (hfl:h.floor≤h.next):
 ∃h',aL (aR AP.A) bq AP.f340L0 (ay [(4,.aE ia 0 286 1),(5,.aE ib 0 30 1),(19,v),(20,.int .i64 ts.length),(21,.int .i64 i)] [4,5,19,20,21]) h=some (.normal,[(4,.aE ia 0 286 1),(5,.aE ib 0 30 1),(19,v),(20,.int .i64 ts.length),(21,.int .i64 (i+1:Nat))],h')∧h'.get ia=some (ints (zM [t] A))∧h'.get ib=some (ints (zX [t] B))∧LF h h' ia ib:=by
 obtain⟨ad,a1,a2,a3⟩:=rd.HZ
 have hi:i<ts.length:=(vh.1 ht).1
 have hI:(0:Int)≤(i:Int)∧(i:Int)<ts.length:=⟨by omega,by omega⟩
 have b1:=a1 _ hI
 obtain⟨_,_,_,b2⟩:=a3 h hx _ _ ht
 have n1:((i+1:Nat):Int)=(i:Int)+1:=by omega
 have ci:(i:Int)<(ts.length:Int):=hI.2
 have la:(ints A).length=286:=by rw[pY,hA]
 have lb:(ints B).length=30:=by rw[pY,hB]
 have hian:=h.lt _ _ ga
 have hibn:=h.lt _ _ gb
 have step:∀(S B1 V S' B' V':Nat) (cp:Bool),(∀g:H,aR AP.A 349 [.agg [.int .i64 t.lit,.int .i64 t.len,.int .i64 t.wB]] g=some (.bM [.agg [.int .i64 S,.int .i64 B1,.int .i64 V],.agg [.int .i64 S',.int .i64 B',.int .i64 V'],.bool cp],g))→S<286→S'<30→
  ∃h',aL (aR AP.A) bq AP.f340L0 (ay [(4,.aE ia 0 286 1),(5,.aE ib 0 30 1),(19,v),(20,.int .i64 ts.length),(21,.int .i64 i)] [4,5,19,20,21]) h=some (.normal,[(4,.aE ia 0 286 1),(5,.aE ib 0 30 1),(19,v),(20,.int .i64 ts.length),(21,.int .i64 (i+1:Nat))],h')∧h'.get ia=some (ints (xz A S))∧h'.get ib=some (ints (if cp=true then xz B S' else B))∧LF h h' ia ib:=by
  intro S B1 V S' B' V' cp ks hS hS'
  obtain⟨g1,eg1⟩:∃g,g=(h.alloc [.int .i64 0,.int .i64 0,.int .i64 0]).set h.next [.int .i64 t.lit,.int .i64 t.len,.int .i64 t.wB]:=⟨_,rfl⟩
  obtain⟨g2,eg2⟩:∃g,g=(((g1.alloc [.int .i64 0,.int .i64 0,.int .i64 0]).alloc [.int .i64 0,.int .i64 0,.int .i64 0]).set g1.next [.int .i64 S,.int .i64 B1,.int .i64 V]).set (g1.next+1) [.int .i64 S',.int .i64 B',.int .i64 V']:=⟨_,rfl⟩
  have n1':g1.next=h.next+1:=by rw[eg1];simp
  have n2':g2.next=h.next+3:=by rw[eg2];simp;omega
  have f2':g2.floor=h.floor:=by rw[eg2,eg1];simp
  have gt1:g1.get h.next=some [.int .i64 t.lit,.int .i64 t.len,.int .i64 t.wB]:=by rw[eg1,v9 rfl,vZ rfl];rfl
  have gk1:∀j,j<h.next→g1.get j=h.get j:=fun j hj=>by rw[eg1,vN (by omega),vW (by omega)]
  have gk2:∀j,j<h.next→g2.get j=h.get j:=fun j hj=>by rw[eg2,vN (by omega),vN (by omega),vW (by simp;omega),vW (by omega),gk1 j hj]
  have gS:g2.get g1.next=some [.int .i64 S,.int .i64 B1,.int .i64 V]:=by rw[eg2,vN (by omega),v9 rfl,vW (by simp),vZ rfl];rfl
  have gT:g2.get (g1.next+1)=some [.int .i64 S',.int .i64 B',.int .i64 V']:=by rw[eg2,v9 rfl,vN (by omega),vZ (by simp)];rfl
  have hA2:((g1.alloc [.int .i64 0,.int .i64 0,.int .i64 0]).alloc [.int .i64 0,.int .i64 0,.int .i64 0]).get g1.next=some [.int .i64 0,.int .i64 0,.int .i64 0]:=by rw[vW (by simp),vZ rfl]
  have hB2:(((g1.alloc [.int .i64 0,.int .i64 0,.int .i64 0]).alloc [.int .i64 0,.int .i64 0,.int .i64 0]).set g1.next [.int .i64 S,.int .i64 B1,.int .i64 V]).get (g1.next+1)=some [.int .i64 0,.int .i64 0,.int .i64 0]:=by rw[vN (by omega),vZ (by simp)]
  have fl1:h.floor≤h.next:=hfl
  have flg:g1.floor≤g1.next:=by rw[n1',eg1];simp;omega
  have ga2:g2.get ia=some (ints A):=by rw[gk2 ia hian,ga]
  have gb2:g2.get ib=some (ints B):=by rw[gk2 ib hibn,gb]
  have gx:=zu (l:=A) (i:=S) (by omega)
  have gy:=zu (l:=B) (i:=S') (by omega)
  have xr:0≤A.getD S 0∧A.getD S 0≤(i:Int)+1:=by
   rw[XN,XQ (by omega)]
   exact rA _ (X4 _)
  have yr:0≤B.getD S' 0∧B.getD S' 0≤(i:Int)+1:=by
   rw[XN,XQ (by omega)]
   exact rB _ (X4 _)
  have es:=xj A S (A.getD S 0+1)
  have et:=xj B S' (B.getD S' 0+1)
  change _=ints (xz A S)at es
  change _=ints (xz B S')at et
  have iS:cN (.int .i64 (S:Nat)) 286=some S:=by
   have:(S:Int)<((286:Nat):Int):=by omega
   simp [cN,nR];omega
  have iT:cN (.int .i64 (S':Nat)) 30=some S':=by
   simp [cN,nR];omega
  have ibd:i<1000000:=by omega
  have g3b:(g2.set ia (ints (xz A S))).get ib=some (ints B):=by rw[vN hab.symm,gb2]
  have g3T:(g2.set ia (ints (xz A S))).get (g1.next+1)=some [.int .i64 S',.int .i64 B',.int .i64 V']:=by rw[vN (by omega),gT]
  have fa2:g2.floor≤ia:=by omega
  have fb2:g2.floor≤ib:=by omega
  cases cp with
  | false =>
    refine⟨g2.set ia (ints (xz A S)), ?_,by rw[v9 rfl,ga2];rfl,by rw[vN hab.symm,gb2];rfl,⟨by simp [f2'],by simp [n2'],fun j h1 h2 _=>by rw[vN h2,gk2 j h1]⟩⟩
    rw[n1]
    clear rd a1 a2 a3 hx rA rB gk1 gk2 et
    generalize A.getD S 0=z at *
    generalize ints (xz A S)=A2 at *
    generalize ints A=A0 at *
    generalize ints B=B0 at *
    simp (disch:=omega)only[go_sem,vT,AP.f340L0,ci,b1,b2,←eg1,gt1,ks,hA2,hB2,←eg2,gS,iS,ga2,la,gx,es,fa2,Oo,vu,Yz,X9]
  | true =>
    refine⟨(g2.set ia (ints (xz A S))).set ib (ints (xz B S')), ?_,by rw[vN hab,v9 rfl,ga2];rfl,by rw[v9 rfl,g3b];rfl,⟨by simp [f2'],by simp [n2'],fun j h1 h2 h3=>by rw[vN h3,vN h2,gk2 j h1]⟩⟩
    rw[n1]
    clear rd a1 a2 a3 hx rA rB gk1 gk2
    generalize A.getD S 0=z at *
    generalize B.getD S' 0=z' at *
    generalize ints (xz A S)=A2 at *
    generalize ints (xz B S')=B2 at *
    generalize ints A=A0 at *
    generalize ints B=B0 at *
    simp (disch:=omega)only[go_sem,vT,AP.f340L0,ci,b1,b2,←eg1,gt1,ks,hA2,hB2,←eg2,gS,iS,ga2,la,gx,es,fa2,fb2,g3b,g3T,iT,lb,gy,et,Oo,vu,Yz,X9]
 rcases o with ⟨c0,h2,h3⟩|⟨h1,h2,h3,h4⟩
 · obtain⟨y,hy⟩:∃y:Nat,t.lit=y:=XT h2
   have yt:t.lit.toNat=y:=by omega
   obtain⟨h',k,q1,q2,q3⟩:=step y 0 0 0 0 0 false (fun g=>by rw[hy,c0];exact JL g y t.wB) (by omega) (by omega)
   refine⟨h',k, ?_, ?_,q3⟩
   · rw[q1,zM,if_pos c0,yt];rfl
   · rw[q2,zX,if_pos c0];rfl
 · obtain⟨L,hL⟩:∃y:Nat,t.len=y:=XT (by omega)
   obtain⟨K,hK⟩:∃y:Nat,t.wB=y:=XT (by omega)
   have Lt:t.len.toNat=L:=by omega
   have Kt:t.wB.toNat=K:=by omega
   have sl:=zj (k:=L) (by omega) (by omega)
   have sd:=zh (k:=K) (by omega) (by omega)
   obtain⟨h',k,q1,q2,q3⟩:=step (xF L) (za L) (zC L) (xN K) (zg K) (zH K) true (fun g=>by rw[tl (by omega),hL,hK];exact G7 g L K (by omega) (by omega) (by omega) (by omega)) (by omega) (by omega)
   refine⟨h',k, ?_, ?_,q3⟩
   · have z:¬t.len=0:=by omega
     rw[q1,zM,if_neg z,Lt];rfl
   · have z:¬t.len=0:=by omega
     rw[q2,zX,if_neg z,Kt];rfl
theorem GQ {v:AV} {ts:List Tok} (hn:ts.length<1000000) (h0:H) (rd:yC 3 h0 v ts.length (wJ ts)) (ia ib:Nat) (ok:∀t∈ts,y6 t) (lit:∀t∈ts,t.len≠0→t.lit=0) (hab:ia≠ib) (hia:h0.next≤ia) (hib:h0.next≤ib):∀(q p:List Tok) (A B:List Int) (h:H),ts=p++q→Ext h0 h→h0.next≤h.next→h.get ia=some (ints A)→h.get ib=some (ints B)→A.length=286→B.length=30→(∀y∈A,0≤y∧y≤(p.length:Int)+1)→(∀y∈B,0≤y∧y≤(p.length:Int)+1)→h.floor≤ia→h.floor≤ib→h.floor≤h.next→
 ∃h',Lp AP.A [4,5,19,20,21] AP.f340L0 [(4,.aE ia 0 286 1),(5,.aE ib 0 30 1),(19,v),(20,.int .i64 ts.length),(21,.int .i64 p.length)] h=some (.exit 0,[(4,.aE ia 0 286 1),(5,.aE ib 0 30 1),(19,v),(20,.int .i64 ts.length),(21,.int .i64 ts.length),(22,.bool false)],h')∧h'.get ia=some (ints (zM q A))∧h'.get ib=some (ints (zX q B))∧LF h h' ia ib
 | [], p, A, B, h, hp, hx, hnx, ga, gb, hA, hB, rA, rB, fa, fb, hfl => by
   rw[XZ]at hp;subst hp
   refine⟨h,tM ?_,ga,gb,LF.refl h ia ib⟩
   simp (disch:=omega)only[go_sem,vT,AP.f340L0]
 | t :: q, p, A, B, h, hp, hx, hnx, ga, gb, hA, hB, rA, rB, fa, fb, hfl => by
   have ht:ts[p.length]?=some t:=by rw[hp];simp
   have hm:=vq ht
   obtain⟨h1,s1,ga1,gb1,f1⟩:=Mp hn h0 rd ia ib p.length t ht (ok t hm) (lit t hm) hab hia hib hx ga gb hA hB rA rB fa fb hfl
   have n1:(((p++[t]).length:Nat):Int)=((p.length+1:Nat):Int):=by simp
   have hx1:Ext h0 h1:=fun j c hj=>by
    have:=h0.lt _ _ hj
    rw[f1.wV j (by omega) (by omega) (by omega),hx j c hj]
   obtain⟨h',k,g1,g2,f2⟩:=GQ hn h0 rd ia ib ok lit hab hia hib q (p++[t]) (zM [t] A) (zX [t] B) h1 (by rw[hp];simp) hx1 (vG hnx f1.next) ga1 gb1 (by rw[Bm,hA]) (by rw[Bp,hB]) (fun y hy=>by have:=Bn [t] A _ (by omega) rA y hy;simp at this ⊢;omega) (fun y hy=>by have:=Bq [t] B _ (by omega) rB y hy;simp at this ⊢;omega) (by rw[f1.floor];exact fa) (by rw[f1.floor];exact fb) (by rw[f1.floor];exact vG hfl f1.next)
   rw[n1]at k
   exact⟨h',tN s1 k,g1,g2,f1.trans f2⟩
theorem FR (C:List Int):Ai C≤C.length:=by
 unfold Ai;rw[←wG 0 C];exact xI 0 C
theorem HQ {h:H} {id n:Nat} {l:List Int} (g:h.get id=some (ints l)) (hl:l.length=n):Rd h (.aE id 0 n 1) (ints l):=by
 refine⟨?_,by intro s e;cases e⟩
 have:(ints l).length=n:=by rw[pY];exact hl
 simp [aS,g,this,vD]
theorem Kv (h:H) (v:AV) (ts:List Tok) (KA KB:Nat) (hn:ts.length≤300) (ok:∀t∈ts,y6 t) (lit:∀t∈ts,t.len≠0→t.lit=0) (ra:yc 15 KA (xE (dA ts))) (rb:yc 15 KB (xE (dB ts))) (rd:yC 3 h v ts.length (wJ ts)):
 aR AP.A 340 [v] h=some (.bM [yJ 1 286 (ints (xe (dA ts) KA)),yJ 1 30 (ints (xe (dB ts) KB))],h):=by
 have rd0:yC 3 h.dN v ts.length (wJ ts):=rd.mono fun i c q=>q
 have ln:=rd.len
 have hN:h.dN.next=h.next:=rfl
 obtain⟨g,eg⟩:∃g,g=(h.dN.alloc (yE 286 [.int .i64 0])).alloc (yE 30 [.int .i64 0]):=⟨_,rfl⟩
 have gA:g.get h.next=some (ints (List.replicate 286 0)):=by rw[eg,vW (by simp),vZ (by simp),yd]
 have gB:g.get (h.next+1)=some (ints (List.replicate 30 0)):=by rw[eg,vZ (by simp),yd]
 have gf:g.floor=h.next:=by rw[eg];simp
 have gn:g.next=h.next+2:=by rw[eg];simp
 obtain⟨g1,eg1⟩:∃g1,g1=g.set h.next (ints ((List.replicate 286 0).set 256 1)):=⟨_,rfl⟩
 have gA1:g1.get h.next=some (ints ((List.replicate 286 0).set 256 1)):=by rw[eg1,v9 rfl,gA];rfl
 have gB1:g1.get (h.next+1)=some (ints (List.replicate 30 0)):=by rw[eg1,vN (by omega),gB]
 have x1:Ext h.dN g1:=by rw[eg1,eg];exact(((Ext.refl _).alloc _).alloc _).set (by simp) _
 obtain⟨h',L,q1,q2,f2⟩:=GQ (by omega) h.dN rd0 h.next (h.next+1) ok lit (by omega) (by simp) (by simp) ts [] ((List.replicate 286 0).set 256 1) (List.replicate 30 0) g1 rfl x1 (by rw[eg1];simp;omega) gA1 gB1 (by simp) (by simp) (fun y hy=>by
  rcases Yd hy with q|q
  · have:=X7 q;omega
  · simp;omega) (fun y hy=>by have:=X7 hy;simp;omega) (by rw[eg1];simp;omega) (by rw[eg1];simp;omega) (by rw[eg1];simp;omega)
 have L':Lp AP.A [4,5,19,20,21] AP.f340L0 [(4,.aE h.next 0 286 1),(5,.aE (h.next+1) 0 30 1),(19,v),(20,.int .i64 ts.length),(21,.int .i64 0)] g1=_:=L
 obtain⟨a1,a2,a3⟩:=KU ts hn
 obtain⟨b1,b2⟩:=KV ts hn
 change h'.get h.next=some (ints (dA ts))at q1
 change h'.get (h.next+1)=some (ints (dB ts))at q2
 have k1:=HK h' (.aE h.next 0 286 1) (dA ts) 15 KA (by omega) (by omega) (HQ q1 a1) (by omega) a2 (by have:=FR (dA ts);omega) ra
 have k2:=HK h' (.aE (h.next+1) 0 30 1) (dB ts) 15 KB (by omega) (by omega) (HQ q2 b1) (by omega) b2 (by have:=FR (dB ts);omega) rb
 rw[a1]at k1
 rw[b1]at k2
 obtain⟨V1,e1⟩:∃V,V=yJ 1 286 (ints (xe (dA ts) KA)):=⟨_,rfl⟩
 obtain⟨V2,e2⟩:∃V,V=yJ 1 30 (ints (xe (dB ts) KB)):=⟨_,rfl⟩
 rw[←e1]at k1 ⊢
 rw[←e2]at k2 ⊢
 refine uz (fn:=AP.f340) (h2:=h') (e:=[(2,V1),(3,V2)]) (vs:=[V1,V2]) rfl rfl rfl ?_ rfl ?_
 · have st:(ints (List.replicate 286 0)).set 256 (.int .i64 1)=ints ((List.replicate 286 0).set 256 1):=xj _ _ _
   have lA:(ints (List.replicate 286 0)).length=286:=by simp
   have ga':g.get h.next=some (ints (List.replicate 286 0)):=gA
   have k1':aR AP.A 351 [.aE h.next 0 286 1,.int .i64 15] h'=some (.bM [V1,.int .i64 0],h'):=k1
   have k2':aR AP.A 351 [.aE (h.next+1) 0 30 1,.int .i64 15] h'=some (.bM [V2,.int .i64 0],h'):=k2
   rw[←st]at eg1
   clear L q1 q2 f2 x1 rd rd0 ra rb a2 b2 k1 k2 gB gA1 gB1 st ok lit
   generalize ints (List.replicate 286 0)=A0 at *
   have hN2:(h.dN.alloc (yE 286 [.int .i64 0])).next=h.next+1:=by simp
   simp (disch:=omega)only[go_sem,vT,AP.f340,hN,hN2,←eg,ga',lA,gf,←eg1,ln,sG,L',k1',k2']
 · have s1:snap h'.get h.next 15 true V1=some V1:=by rw[e1];unfold yJ;rfl
   have s2:snap h'.get h.next 15 true V2=some V2:=by rw[e2];unfold yJ;rfl
   show(fD (snap h'.get h.next 15 true) [V1,V2]).bind _=_
   simp only[fD,s1,s2,vi]
theorem Cw {x : AV} {l : List Int} (hl : l.length < 1000) (pos : ∀ y ∈ l, 0 ≤ y) (h : H) (rd : Rd h x (ints l)) (k : Nat) : ∀ i : Nat, k ≤ i → i ≤ l.length →
 ∃e',Lp AP.A [0,1,5] AP.f342L0 [(0,x),(1,.int .i64 k),(5,.int .i64 i)] h=some (.exit 0,e',h)∧look e' 0=x∧look e' 5=.int .i64 (wA l k i:Nat)
 | 0, hk, hi => by
   obtain rfl:k=0:=by omega
   refine⟨[(0,x),(1,.int .i64 (0:Nat)),(5,.int .i64 (0:Nat)),(18,.bool false)],tM ?_,rfl,rfl⟩
   have c:¬((0:Nat):Int)<((0:Nat):Int):=by omega
   generalize ((0:Nat):Int)=z at *
   simp (disch:=omega)only[go_sem,vT,AP.f342L0,c]
 | i + 1, hk, hi => by
   by_cases c:i+1≤k
   · obtain rfl:k=i+1:=by omega
     refine⟨[(0,x),(1,.int .i64 (i+1:Nat)),(5,.int .i64 (i+1:Nat)),(18,.bool false)],tM ?_,rfl,by rw[wA,if_pos c];rfl⟩
     have c:¬((i+1:Nat):Int)<((i+1:Nat):Int):=by omega
     generalize ((i+1:Nat):Int)=z at *
     simp (disch:=omega)only[go_sem,vT,AP.f342L0,c]
   · obtain⟨ad,a1,a2⟩:=rd.xi
     have b1:=a1 i ⟨by omega,by omega⟩
     have lg:l[i]?=some (l.getD i 0):=by rw[XN,XQ (by omega)];rfl
     have b2:=a2 h (Ext.refl h) i _ lg
     have yp:=pos _ (vq lg)
     have n1:((i+1:Nat):Int)-1=(i:Int):=by omega
     have c1:(k:Int)<((i+1:Nat):Int):=by omega
     rw[wA,if_neg c]
     generalize l.getD i 0=y at *
     have sb:((i+1:Nat):Int)<100000:=by omega
     have sb0:0≤((i+1:Nat):Int):=by omega
     by_cases c2:0<y
     · rw[if_pos c2]
       refine⟨[(0,x),(1,.int .i64 k),(5,.int .i64 (i+1:Nat)),(18,.bool false)],tM ?_,rfl,rfl⟩
       have cb:(y==0)=false:=by simp;omega
       generalize ((i+1:Nat):Int)=z at *
       clear rd a1 a2 pos
       simp (disch:=omega)only[go_sem,vT,AP.f342L0,c1,n1,b1,b2,cb]
     · rw[if_neg c2]
       have cb:(y==0)=true:=by simp;omega
       obtain⟨e',L,r1,r2⟩:=Cw hl pos h rd k i (by omega) (by omega)
       refine⟨e',tN ?_ L,r1,r2⟩
       clear L
       generalize ((i+1:Nat):Int)=z at *
       clear rd a1 a2 pos
       simp (disch:=omega)only[go_sem,vT,AP.f342L0,c1,n1,b1,b2,cb]
theorem GY (h:H) (l:List Int) (h1:1≤l.length) (hl:l.length<1000) (pos:∀y∈l,0≤y) (k:Nat) (hk:k≤l.length):aR AP.A 342 [yJ 1 l.length (ints l),.int .i64 k] h=some (.aV false (ints l) 0 (wA l k l.length) 1,h):=by
 have ex:yJ 1 l.length (ints l)=.aV false (ints l) 0 l.length 1:=by unfold yJ;rw[if_neg (by omega)]
 rw[ex]
 have y9:Rd h.dN (.aV false (ints l) 0 l.length 1) (ints l):=by rw[←ex];exact Ad h.dN l
 obtain⟨e',L,r1,r2⟩:=Cw hl pos h.dN y9 k l.length hk (vm _)
 have ur:=xB l k l.length
 have s1:sx h.dN 1 (.aV false (ints l) 0 l.length 1) none (some (.int .i64 (wA l k l.length:Nat))) none=some (.aV false (ints l) 0 (wA l k l.length) 1):=by
  have:wA l k l.length≤l.length:=by omega
  have q:(ints l).length=l.length:=pY l
  simp [sx,aB,j9,nR,q,this]
 refine uz (fn:=AP.f342) (h2:=h.dN) (e:=[(4,.aV false (ints l) 0 (wA l k l.length) 1)]) (vs:=[.aV false (ints l) 0 (wA l k l.length) 1]) rfl rfl rfl ?_ rfl rfl
 clear y9 pos ex ur
 generalize wA l k l.length=U at *
 generalize ints l=P at *
 simp (disch:=omega)only[go_sem,vT,AP.f342,JU,sG,L,r1,r2,s1]
theorem Mw (h:H) (id:Nat) (l:List Int) (g:h.get id=some (ints l)) (hl:l.length<1000) (pos:∀y∈l,0≤y) (k:Nat) (hk:k≤l.length):aR AP.A 342 [.aE id 0 l.length 1,.int .i64 k] h=some (.aE id 0 (wA l k l.length) 1,h):=by
 have y9:Rd h.dN (.aE id 0 l.length 1) (ints l):=(HQ g rfl).mono (vX h)
 obtain⟨e',L,r1,r2⟩:=Cw hl pos h.dN y9 k l.length hk (vm _)
 have ur:=xB l k l.length
 have gl:=h.lt _ _ g
 have s1:sx h.dN 1 (.aE id 0 l.length 1) none (some (.int .i64 (wA l k l.length:Nat))) none=some (.aE id 0 (wA l k l.length) 1):=by
  have q:(ints l).length=l.length:=pY l
  have:=Pr (h:=h.dN) (m:=(wA l k l.length:Nat)) (p:=id) (o:=0) (k:=l.length) (n:=1) g (by omega) (by omega) ⟨by omega,by simp;omega⟩
  rw[show(((wA l k l.length:Nat):Int)).toNat=wA l k l.length by omega]at this
  exact this
 refine uz (fn:=AP.f342) (h2:=h.dN) (e:=[(4,.aE id 0 (wA l k l.length) 1)]) (vs:=[.aE id 0 (wA l k l.length) 1]) rfl rfl rfl ?_ rfl ?_
 · clear y9 pos ur
   generalize wA l k l.length=U at *
   simp (disch:=omega)only[go_sem,vT,AP.f342,Bi,sG,L,r1,r2,s1]
 · show snap h.dN.get h.next 16 true (.aE id 0 _ 1)=_
   simp [snap,gl]
end Ab
