/- Part C3. -/
import Derived.Test.YtcpjlemfholepaaGreatC2
set_option linter.unusedSimpArgs false
set_option linter.unusedVariables false
set_option maxRecDepth 100000
namespace Ab
open Go
theorem Es {p q:Prop} [Decidable p] [Decidable q] {α:Type} {a b:α} (h:p↔q):(if p then a else b)=if q then a else b:=by
 by_cases c:p
 · rw[if_pos c,if_pos (h.1 c)]
 · rw[if_neg c,if_neg (fun x=>c (h.2 x))]
def wU (p:Int×Int):List AV:=[.int .i64 p.1,.int .i64 p.2]
theorem yU (p:Int×Int):(wU p).length=2:=rfl
theorem Ke {α:Type} {C:α→List AV} {n:Nat} (hC:∀x,(C x).length=n):∀(l:List α) (i:Nat) (x:α),i<l.length→setFrom (l.flatMap C) (i* n) (C x)=(l.set i x).flatMap C
 |[],i,x,h=>by simp at h
 | y :: l, 0, x, h => by
   have:=Av (C y) (C x) [] (l.flatMap C) (by rw[hC,hC])
   simpa using this
 | y :: l, i + 1, x, h => by
   have ih:=Ke hC l i x (by simpa using h)
   rw[XW,List.set_cons_succ,XW,←ih]
   have e:=Bx hC l
   have:i<l.length:=by simpa using h
   have hi:i* n+n≤l.length* n:=by
    have:=vp n (show i+1≤l.length from this)
    rwa [Nat.succ_mul]at this
   have hs:(i+1)* n=n+i* n:=by rw[Nat.succ_mul];omega
   rw[Cy _ _ _ (by rw[vI,hC,hC,e,hs];omega),Cy _ _ _ (by rw[hC,e];omega),hs,hC]
   rw[List.take_append,List.drop_append,hC]
   rw[vD (by rw[hC];omega),List.drop_of_length_le (by rw[hC];omega)]
   rw[show n+i* n-n=i* n by omega,show n+i* n+n-n=i* n+n by omega]
   simp
def AB (l:List Int) (i:Nat):Int×Int:=if 1≤l.getD i 0 then(l.getD i 0,vR l (l.getD i 0).toNat+xw (l.take i) (l.getD i 0).toNat)else(0,0)
def vO (l:List Int):List (Int×Int):=(List.range l.length).map (AB l)
def xg (l:List Int) (b i:Nat):List (Int×Int):=(List.range l.length).map fun j=>if 1≤l.getD j 0∧(l.getD j 0<b∨(l.getD j 0=b∧j<i))then AB l j else(0,0)
theorem AD (l:List Int) (b i:Nat):(xg l b i).length=l.length:=by simp [xg]
theorem Gd {l:List Int} {b i:Nat} (hi:i<l.length) (hb:1≤b) (hl:l.getD i 0=(b:Int)):(xg l b i).set i ((b:Int),vR l b+xw (l.take i) b)=xg l b (i+1):=by
 apply List.ext_getElem?
 intro j
 rw[X8]
 by_cases e:i=j
 · subst e
   rw[if_pos rfl,if_pos (by rw[AD];exact hi)]
   simp only[xg,vx,Yl hi,XU]
   rw[if_pos ⟨by omega,.inr ⟨hl,by omega⟩⟩,AB,if_pos (by omega),hl];rfl
 · rw[if_neg e]
   simp only[xg,vx]
   by_cases hj:j<l.length
   · rw[Yl hj]
     simp only[XU]
     exact Yh some (Es (by omega))
   · rw[X5 (by simp;omega)];rfl
theorem EJ {l:List Int} {b i:Nat} (hl:¬l.getD i 0=(b:Int)):xg l b (i+1)=xg l b i:=by
 unfold xg
 refine Ym fun j hj=> ?_
 by_cases e:j=i
 · subst e
   exact Es (by omega)
 · exact Es (by omega)
theorem EK (l:List Int) (b:Nat):xg l (b+1) 0=xg l b l.length:=by
 unfold xg
 refine Ym fun j hj=> ?_
 have hj':j<l.length:=List.mem_range.1 hj
 exact Es (by omega)
theorem Gc {l:List Int} (hr:∀y∈l,0≤y∧y<16):xg l 16 0=vO l:=by
 unfold xg vO
 refine Ym fun j hj=> ?_
 have hj':j<l.length:=List.mem_range.1 hj
 have hm:=hr (l.getD j 0) (by rw[XN,XQ hj'];simp)
 by_cases c:1≤l.getD j 0
 · rw[if_pos ⟨c,.inl (by omega)⟩]
 · rw[if_neg (fun q=>c q.1),AB,if_neg c]
theorem EL (l:List Int):xg l 1 0=List.replicate l.length (0,0):=by
 unfold xg
 have:(List.range l.length).map (fun j=>if 1≤l.getD j 0∧(l.getD j 0<(1:Nat)∨(l.getD j 0=(1:Nat)∧j<0))then AB l j else((0:Int),(0:Int)))=(List.range l.length).map (fun _=>((0:Int),(0:Int))):=by
  refine Ym fun j hj=> ?_
  rw[if_neg (by omega)]
 rw[this,List.map_const',List.length_range]
theorem B5 {l:List Int} {i:Nat} (hi:i<l.length) (b:Nat) (hb:1≤b):xw (l.take (i+1)) b=xw (l.take i) b+if l.getD i 0=(b:Int)then 1 else 0:=by
 have e:l.take (i+1)=l.take i++[l.getD i 0]:=by
  rw[List.take_add_one,XQ hi,XN,XQ hi];rfl
 rw[e,AA]
 congr 1
 by_cases c:l.getD i 0=(b:Int)
 · rw[if_pos ⟨by omega,c⟩,if_pos c]
 · rw[if_neg (fun q=>c q.2),if_neg c]
theorem ES {x : AV} {l : List Int} (hl : l.length < 1000) (h0 : H) (rd : Rd h0 x (ints l)) (id b : Nat) (hid : h0.next ≤ id) (hb1 : 1 ≤ b) (hb : b ≤ 15) : ∀ (m i : Nat) (h : H), i + m = l.length → Ext h0 h → h.floor ≤ id → h.get id = some ((xg l b i).flatMap wU) →
 ∃h',Lp AP.A [0,5,6,7,8] AP.f34L0 [(0,x),(5,.aE id 0 l.length 2),(6,.int .i64 (vR l b+xw (l.take i) b)),(7,.int .i64 b),(8,.int .i64 i)] h=some (.exit 2,[(0,x),(5,.aE id 0 l.length 2),(6,.int .i64 (vR l b+xw l b)),(7,.int .i64 b),(8,.int .i64 l.length),(30,.bool false)],h')∧Ext h0 h'∧h'.floor=h.floor∧h'.get id=some ((xg l b l.length).flatMap wU)
 | 0, i, h, hi, hx, hf, hg => by
   obtain rfl:i=l.length:=by omega
   have ln:=rd.len
   rw[pY]at ln
   simp only[I]at ln
   rw[List.take_length]
   refine⟨h,tM ?_,hx,rfl,hg⟩
   simp (disch:=omega)only[go_sem,vT,AP.f34L0,ln]
 | m + 1, i, h, hi, hx, hf, hg => by
   have ln:=rd.len
   rw[pY]at ln
   simp only[I]at ln
   have hil:i<l.length:=by omega
   obtain⟨ad,a1,a2⟩:=rd.xi
   have b1:=a1 i ⟨by omega,by omega⟩
   have lg:l[i]?=some (l.getD i 0):=by rw[XN,XQ hil];rfl
   have b2:=a2 h hx i _ lg
   have n1:((i+1:Nat):Int)=(i:Int)+1:=by omega
   have ct:=B5 hil b hb1
   have fb:=zQ (l:=l) (by omega) b
   have pw:=zV hb
   have cl:=Ay (l.take i) b
   have tl:=List.length_take_le i l
   generalize hy:l.getD i 0=y at *
   by_cases c:y=(b:Int)
   · have st:uD h id (i* 2) 2 [.int .i64 (b:Int),.int .i64 (vR l b+xw (l.take i) b)] (some ((xg l b i).flatMap wU))=some (h.set id ((xg l b (i+1)).flatMap wU)):=by
      rw[Lq,←Gd hil hb1 (hy.trans c),←Ke yU _ _ _ (by rw[AD];exact hil)]
      have:=Bx yU (xg l b i)
      rw[AD]at this
      simp only[this,hf,XO,XR,decide_true,AV.aC,AV.sc,Bool.and_true,Bool.true_and,show i* 2+2≤l.length* 2 by omega]
      rfl
     rw[if_pos c]at ct
     have g2:(h.set id ((xg l b (i+1)).flatMap wU)).get id=some ((xg l b (i+1)).flatMap wU):=by rw[v9 rfl,hg];rfl
     obtain⟨h',r1,r2,r3,r4⟩:=ES hl h0 rd id b hid hb1 hb m (i+1) _ (by omega) (hx.set hid _) (by simpa using hf) g2
     have e1:vR l b+(xw (l.take i) b:Int)+1=vR l b+(xw (l.take (i+1)) b:Nat):=by rw[ct];omega
     refine⟨h',tN ?_ r1,r2,by rw[r3];simp,r4⟩
     rw[←e1,n1]
     subst c
     clear r1 r2 r3 r4 g2 ct e1 hx
     generalize vR l b=F at *
     generalize xw (l.take i) b=K at *
     generalize (xg l b i).flatMap wU=CS at *
     generalize (xg l b (i+1)).flatMap wU=CS2 at *
     simp (disch:=omega)only[go_sem,vT,AP.f34L0,ln,b1,b2,hg,st]
   · rw[if_neg c,Nat.add_zero]at ct
     obtain⟨h',r1,r2,r3,r4⟩:=ES hl h0 rd id b hid hb1 hb m (i+1) h (by omega) hx hf (by rw[EJ (fun q=>c (hy.symm.trans q))];exact hg)
     rw[ct]at r1
     refine⟨h',tN ?_ r1,r2,r3,r4⟩
     rw[n1]
     generalize vR l b=F at *
     generalize xw (l.take i) b=K at *
     simp (disch:=omega)only[go_sem,vT,AP.f34L0,ln,b1,b2]
theorem Iy {x:AV} {l:List Int} (hl:l.length<1000) (h0:H) (rd:Rd h0 x (ints l)) (id:Nat) (hid:h0.next≤id):∀(m b:Nat) (h:H) (F:Int),b+m=16→1≤b→F+F=vR l b→Ext h0 h→h.floor≤id→h.get id=some ((xg l b 0).flatMap wU)→
 ∃e' h',Lp AP.A [0,5,6,7] AP.f34L1 [(0,x),(5,.aE id 0 l.length 2),(6,.int .i64 F),(7,.int .i64 b)] h=some (.exit 0,e',h')∧look e' 5=.aE id 0 l.length 2∧h'.floor=h.floor∧h'.get id=some ((xg l 16 0).flatMap wU)
 | 0, b, h, F, hb, hb1, hF, hx, hf, hg => by
   obtain rfl:b=16:=by omega
   refine⟨[(0,x),(5,.aE id 0 l.length 2),(6,.int .i64 F),(7,.int .i64 16),(22,.bool false)],h,tM ?_,rfl,rfl,hg⟩
   simp (disch:=omega)only[go_sem,vT,AP.f34L1]
 | m + 1, b, h, F, hb, hb1, hF, hx, hf, hg => by
   obtain⟨h1,q1,q2,q3,q4⟩:=ES hl h0 rd id b hid hb1 (by omega) l.length 0 h (by omega) hx hf hg
   rw[←EK]at q4
   have c0:xw (l.take 0) b=0:=by rw[Yz];exact Hq b
   rw[c0]at q1
   have fb:=zQ (l:=l) (by omega) b
   have pw:=zV (m:=b) (by omega)
   have q1':Lp AP.A [0,5,6,7,8] AP.f34L0 [(0,x),(5,.aE id 0 l.length 2),(6,.int .i64 (vR l b)),(7,.int .i64 b),(8,.int .i64 0)] h=some (.exit 2,[(0,x),(5,.aE id 0 l.length 2),(6,.int .i64 (vR l b+xw l b)),(7,.int .i64 b),(8,.int .i64 l.length),(30,.bool false)],h1):=by
    have e:(vR l b+((0:Nat):Int))=vR l b:=by omega
    rw[e]at q1;exact q1
   obtain⟨e',h',r1,r2,r3,r4⟩:=Iy hl h0 rd id hid m (b+1) h1 (vR l b+xw l b) (by omega) (by omega) (by rw[vR];omega) q2 (by omega) q4
   have n1:((b+1:Nat):Int)=(b:Int)+1:=by omega
   have n2:2* F=vR l b:=by omega
   have hFb:0≤F∧F<100000000000:=by omega
   refine⟨e',h',tN ?_ r1,r2,by omega,r4⟩
   rw[n1]
   clear q1 r1 r2 r3 r4 q4 hx rd
   generalize vR l b=G at *
   simp (disch:=omega)only[go_sem,vT,AP.f34L1,n2,sG,q1']
theorem Ac:∀E:List (Int×Int),E.flatMap wU=ints (E.flatMap fun p=>[p.1,p.2])
 |[]=>rfl
 |p::E=>by rw[XW,XW,pX,Ac E];rfl
theorem BK:∀n,yE n [.int .i64 0,.int .i64 0]=(List.replicate n ((0:Int),(0:Int))).flatMap wU
 |0=>rfl
 | n + 1 => by
   have:=BK n
   unfold yE at *
   rw[dG,this,List.replicate_succ,XW];rfl
def zG (l:List Int):AV:=yJ 2 l.length ((vO l).flatMap wU)
theorem CQ (h:H) (x:AV) (l:List Int) (h1:1≤l.length) (hl:l.length<1000) (rd:Rd h x (ints l)) (hc:we l=0∨we l=302):aR AP.A 34 [x] h=some (.bM [zG l,.int .i64 0],h):=by
 have k:=CO h.dN x l (by omega) (rd.mono (vX h))
 simp only[I]at k
 have hr:∀y∈l,0≤y∧y<16:=by
  refine AM ?_
  unfold we at hc
  by_cases q:AL l=false
  · rw[if_pos q]at hc;omega
  · simpa using q
 have y9:Rd h.dN x (ints l):=rd.mono (vX h)
 obtain⟨g,eg⟩:∃g,g=h.dN.alloc (yE l.length [.int .i64 0,.int .i64 0]):=⟨_,rfl⟩
 have hn:h.dN.next=h.next:=rfl
 have ex:Ext h.dN g:=by rw[eg];exact(Ext.refl _).alloc _
 have gg:g.get h.next=some ((xg l 1 0).flatMap wU):=by rw[eg,vZ (by simp),BK,EL]
 obtain⟨e',h',r1,r2,r3,r4⟩:=Iy hl h.dN y9 h.next (by simp) 15 1 g 0 (by omega) (by omega) (by simp [vR,xw]) ex (by rw[eg];simp) gg
 have r1':Lp AP.A [0,5,6,7] AP.f34L1 [(0,x),(5,.aE h.next 0 l.length 2),(6,.int .i64 0),(7,.int .i64 1)] g=some (.exit 0,e',h'):=r1
 have ln:=rd.len
 rw[pY]at ln
 simp only[I]at ln
 rw[Gc hr]at r4
 have ce:(vO l).length=l.length:=by simp [vO]
 have ow:wz 2 h' (.aE h.next 0 l.length 2) l.length ((vO l).flatMap wU):=⟨by rw[Bx yU,ce],.inr ⟨h.next,rfl,r4,by rw[r3,eg];simp,by omega⟩⟩
 have kk:(¬we l=0∧¬we l=302)=False:=by simp;omega
 refine uz (fn:=AP.f34) (h2:=h') (e:=[(2,.aE h.next 0 l.length 2),(3,.int .i64 0)]) (vs:=[.aE h.next 0 l.length 2,.int .i64 0]) rfl rfl rfl ?_ rfl ?_
 · clear r1 r4 ow rd y9 hr kk gg ex
   rcases hc with q|q
   · rw[q]at k
     simp (disch:=omega)only[go_sem,vT,AP.f34,k,ln,←eg,hn,sG,r1',r2]
   · rw[q]at k
     simp (disch:=omega)only[go_sem,vT,AP.f34,k,ln,←eg,hn,sG,r1',r2]
 · have o':=ow
   rw[Ac]at o'
   have s1:=o'.yi (fl:=h.next) (m:=13) (t:=true) (by rw[r3,eg];simp)
   show(fD (snap h'.get h.next 15 true) [.aE h.next 0 l.length 2,.int .i64 0]).bind _=_
   simp only[fD,s1,vi]
   rw[←Ac];rfl
def wA (l:List Int) (least:Nat):Nat→Nat
 |0=>least
 |i+1=>if i+1≤least then least else if 0<l.getD i 0 then i+1 else wA l least i
theorem Hc {x : AV} {l : List Int} (hl : l.length < 1000) (h : H) (rd : Rd h x (ints l)) (k : Nat) (hk : k < 1000) : ∀ i : Nat, i ≤ l.length →
 (∃e',Lp AP.A [0,1,5] AP.f31L0 [(0,x),(1,.int .i64 k),(5,.int .i64 i)] h=some (.exit 0,e',h)∧look e' 1=.int .i64 k∧wA l k i=k)∨
 Lp AP.A [0,1,5] AP.f31L0 [(0,x),(1,.int .i64 k),(5,.int .i64 i)] h=some (.ret,[(4,.int .i64 (wA l k i:Nat))],h)
 | 0, hi => by
   refine .inl ⟨[(0,x),(1,.int .i64 k),(5,.int .i64 0),(10,.bool false)],tM ?_,rfl,rfl⟩
   simp (disch:=omega)only[go_sem,vT,AP.f31L0]
 | i + 1, hi => by
   by_cases c:i+1≤k
   · refine .inl ⟨[(0,x),(1,.int .i64 k),(5,.int .i64 (i+1:Nat)),(10,.bool false)],tM ?_,rfl,by rw[wA,if_pos c]⟩
     simp (disch:=omega)only[go_sem,vT,AP.f31L0]
   · obtain⟨ad,a1,a2⟩:=rd.xi
     have b1:=a1 i ⟨by omega,by omega⟩
     have lg:l[i]?=some (l.getD i 0):=by rw[XN,XQ (by omega)];rfl
     have b2:=a2 h (Ext.refl h) i _ lg
     have n1:((i+1:Nat):Int)-1=(i:Int):=by omega
     rw[wA,if_neg c]
     generalize hy:l.getD i 0=y at *
     by_cases c2:0<y
     · rw[if_pos c2]
       refine .inr (uh ?_)
       simp (disch:=omega)only[go_sem,vT,AP.f31L0,n1,b1,b2]
     · rw[if_neg c2]
       have step:aL (aR AP.A) bq AP.f31L0 (ay [(0,x),(1,.int .i64 k),(5,.int .i64 (i+1:Nat))] [0,1,5]) h=some (.normal,[(0,x),(1,.int .i64 k),(5,.int .i64 i)],h):=by
        simp (disch:=omega)only[go_sem,vT,AP.f31L0,n1,b1,b2]
       rcases Hc hl h rd k hk i (by omega)with ⟨e',r1,r2,r3⟩|r1
       · exact .inl ⟨e',tN step r1,r2,r3⟩
       · exact .inr (tN step r1)
theorem KH (h:H) (x:AV) (l:List Int) (hl:l.length<1000) (rd:Rd h x (ints l)) (k:Nat) (hk:k<1000):aR AP.A 31 [x,.int .i64 k] h=some (.int .i64 (wA l k l.length:Nat),h):=by
 have ln:=rd.len
 rw[pY]at ln
 simp only[I]at ln
 have y9:Rd h.dN x (ints l):=rd.mono (vX h)
 rcases Hc hl h.dN y9 k hk l.length (vm _)with ⟨e',r1,r2,r3⟩|r1
 · rw[r3]
   refine uz (fn:=AP.f31) (h2:=h.dN) (e:=[(4,.int .i64 k)]) rfl rfl rfl ?_ rfl rfl
   simp (disch:=omega)only[go_sem,vT,AP.f31,ln,sG,r1,r2]
 · refine uz (fn:=AP.f31) (h2:=h.dN) (e:=[(4,.int .i64 (wA l k l.length:Nat))]) rfl rfl rfl ?_ rfl rfl
   generalize wA l k l.length=U at *
   simp (disch:=omega)only[go_sem,vT,AP.f31,ln,sG,r1]
structure WX (h0 h:H) (w:Nat) (bs:List Nat) (ov:AV):Prop where
 wr:Wr h w bs ov
 ext:Ext h0 h
 lw:h0.next≤w
 ln:h0.next≤h.next
 lo:∀j,ov.id?=some j→h0.next≤j
theorem WX.step {h0 h h':H} {w:Nat} {bs bs':List Nat} {ov ov':AV} (x:WX h0 h w bs ov) (wr:Wr h' w bs' ov') (f:Ej h w ov h' ov'):WX h0 h' w bs' ov':=
 ⟨wr,fun i c hi=>by
  have:=h0.lt _ _ hi
  have:=x.ln
  have:=x.lw
  rw[f.wV i (by omega) (by omega) (fun q=>by have:=x.lo i q;omega),x.ext i c hi],x.lw,by have:=f.next;have:=x.ln;omega,fun j hj=>by
  rcases f.ids j hj with q|q
  · exact x.lo j q
  · have:=x.ln;omega⟩
theorem WX.turn {h0 h h':H} {w:Nat} {bs:List Nat} {ov:AV} (x:WX h0 h w bs ov) (hf:h'.floor=h.floor) (hn:h.next≤h'.next) (hk:∀i,i<h.next→h'.get i=h.get i):WX h0 h' w bs ov:=
 ⟨⟨by rw [hk w (h.lt _ _ x.wr.get), x.wr.get], x.wr.own.mono hf fun i q => hk i (x.wr.own.lt q).2, by rw [hf]; exact x.wr.fl, by rw [hf]; exact vG x.wr.H5 hn, x.wr.ne, x.wr.FW⟩,
   fun i c hi=>by have:=h0.lt _ _ hi;have:=x.ln;rw[hk i (by omega),x.ext i c hi],x.lw,vG x.ln hn,x.lo⟩
def B9 (E:List (Int×Int)) (s:Nat):Prop:=∃n v:Nat,E[s]?=some ((n:Int),(v:Int))∧1≤n∧n≤15∧v<2^n
def vY (E:List (Int×Int)) (s:Nat):List Nat:=yQ (E.getD s (0,0)).2.toNat (E.getD s (0,0)).1.toNat
theorem B9.bits {E:List (Int×Int)} {s:Nat} (o:B9 E s):∃n v:Nat,E[s]?=some ((n:Int),(v:Int))∧1≤n∧n≤15∧v<2^n∧vY E s=yQ v n:=by
 obtain⟨n,v,h,h1,h2,h3⟩:=o
 refine⟨n,v,h,h1,h2,h3, ?_⟩
 unfold vY
 rw[XN,h];rfl
theorem B9.lt {E:List (Int×Int)} {s:Nat} (o:B9 E s):s<E.length:=by
 obtain⟨n,v,h,_⟩:=o
 exact(vh.1 h).1
theorem yC.GP {h:H} {v:AV} {E:List (Int×Int)} (r:yC 2 h v E.length (E.flatMap wU)):∃ad:Int→AV,
 (∀i:Int,0≤i∧i<E.length→fM 2 v (.int .i64 i)=some (ad i))∧
 ∀g:H,Ext h g→∀(i:Nat) (p:Int×Int),E[i]?=some p→bQ true 2 (ad i) g=some (.agg [.int .i64 p.1,.int .i64 p.2]):=by
 obtain⟨ad,a1,a2,_,a3⟩:=r.at_
 refine⟨fun i=>ad i 0,a1,fun g hg i t ht=> ?_⟩
 obtain⟨b1,b2⟩:=a3 g hg
 have hi:i<E.length:=(vh.1 ht).1
 have hI:(0:Int)≤(i:Int)∧(i:Int)<E.length:=⟨by omega,by omega⟩
 have ti:((i:Int)).toNat=i:=by omega
 rw[b2 i hI,ti,Ht yU ht];rfl
def wH (E D:List (Int×Int)) (t:Tok):List Nat:=
 if t.len=0 then vY E t.lit.toNat
 else vY E (xF t.len.toNat)++(wc (zC t.len.toNat) (za t.len.toNat)++(vY D (xN t.wB.toNat)++wc (zH t.wB.toNat) (zg t.wB.toNat)))
def w9 (E D:List (Int×Int)) (ts:List Tok):List Nat:=ts.flatMap (wH E D)
def HF (E D:List (Int×Int)) (t:Tok):Prop:=
 (t.len=0∧0≤t.lit∧B9 E t.lit.toNat)∨(3≤t.len∧t.len≤258∧1≤t.wB∧t.wB≤32768∧B9 E (xF t.len.toNat)∧B9 D (xN t.wB.toNat))
theorem Eu {k:Nat} (h1:3≤k) (h2:k≤258):za k≤5∧zC k<2^za k:=by
 obtain⟨a1,a2,a3,a4⟩:=zj h1 h2
 obtain⟨a,b,hab⟩:=A9 a1 a2
 have:=BB hab
 refine⟨by unfold za;rw[hab];show b≤5;omega, ?_⟩
 unfold zC za;omega
theorem Er {k:Nat} (h1:1≤k) (h2:k≤32768):zg k≤13∧zH k<2^zg k:=by
 obtain⟨a2,a3,a4⟩:=zh h1 h2
 obtain⟨a,b,hab⟩:=Ar a2
 have:=AG hab
 refine⟨by unfold zg;rw[hab];show b≤13;omega, ?_⟩
 unfold zH zg;omega
theorem BQ {E D:List (Int×Int)} {t:Tok} (o:HF E D t):(wH E D t).length≤48:=by
 rcases o with ⟨h1,h2,h3⟩|⟨h1,h2,h3,h4,h5,h6⟩
 · obtain⟨n,v,_,q1,q2,q3,q4⟩:=h3.bits
   rw[wH,if_pos h1,q4,xc];omega
 · obtain⟨n,v,_,q1,q2,q3,q4⟩:=h5.bits
   obtain⟨n',v',_,q1',q2',q3',q4'⟩:=h6.bits
   have l:=Eu (k:=t.len.toNat) (by omega) (by omega)
   have d:=Er (k:=t.wB.toNat) (by omega) (by omega)
   rw[wH,if_neg (by omega),q4,q4']
   simp only[vI,xc,wc,wm];omega
theorem ME {v lv dv:AV} {ts:List Tok} {E D:List (Int×Int)} (hn:ts.length<1000000) (h0:H) (rd:yC 3 h0 v ts.length (wJ ts)) (rl:yC 2 h0 lv E.length (E.flatMap wU)) (rx:yC 2 h0 dv D.length (D.flatMap wU)) (w i:Nat) (t:Tok) (ht:ts[i]?=some t) (o:HF E D t) (h:H) (bs:List Nat) (ov:AV) (x:WX h0 h w bs ov) (hb:bs.length+48≤65000):
 ∃h' ov',aL (aR AP.A) bq AP.f36L0 (ay [(0,.aD w 0),(1,v),(2,lv),(3,dv),(8,.int .i64 i)] [0,1,2,3,8]) h=some (.normal,[(0,.aD w 0),(1,v),(2,lv),(3,dv),(8,.int .i64 (i+1:Nat))],h')∧WX h0 h' w (bs++wH E D t) ov':=by
 have ln:=rd.len
 obtain⟨ad,a1,a2,a3⟩:=rd.HZ
 have hi:i<ts.length:=(vh.1 ht).1
 have hI:(0:Int)≤(i:Int)∧(i:Int)<ts.length:=⟨by omega,by omega⟩
 have b1:=a1 _ hI
 have b2:=a2 i 0 1 hI
 have b20:=a2 i 0 0 hI
 have b22:=a2 i 0 2 hI
 obtain⟨b3,b4,b5,_⟩:=a3 h x.ext _ _ ht
 obtain⟨le,l1,l2⟩:=rl.GP
 have n1:((i+1:Nat):Int)=(i:Int)+1:=by omega
 rcases o with ⟨c0,h2,h3⟩|⟨h1,h2,h3,h4,h5,h6⟩
 · obtain⟨y,hy⟩:∃y:Nat,t.lit=y:=XT h2
   have yt:t.lit.toNat=y:=by omega
   have yl:=h3.lt
   obtain⟨n,c,q0,q1,q2,q3,q4⟩:=h3.bits
   rw[yt]at q0 q4 yl
   have e1:=l1 y ⟨by omega,by omega⟩
   have e2:=l2 h x.ext _ _ q0
   obtain⟨h',ov',k1,k2,k3⟩:=Dl x.wr c n q1 q2 q3 (by omega)
   rw[hy]at b3
   rw[c0]at b4
   refine⟨h',ov', ?_, ?_⟩
   · rw[n1]
     clear rd rl rx a1 a2 a3 l1 l2 x k2 k3 q4 b5 h3 ht q3
     simp (disch:=omega)only[go_sem,vT,AP.f36L0,ln,b1,b2,b20,b3,b4,e1,e2,k1]
   · rw[wH,if_pos c0,yt,q4]
     exact x.step k2 k3
 · obtain⟨L,hL⟩:∃y:Nat,t.len=y:=XT (by omega)
   obtain⟨K,hK⟩:∃y:Nat,t.wB=y:=XT (by omega)
   have Lt:t.len.toNat=L:=by omega
   have Kt:t.wB.toNat=K:=by omega
   rw[Lt]at h5
   rw[Kt]at h6
   have lb:=Eu (k:=L) (by omega) (by omega)
   have db:=Er (k:=K) (by omega) (by omega)
   obtain⟨de,d1,d2⟩:=rx.GP
   have ll:=h5.lt
   have dl:=h6.lt
   obtain⟨n,c,q0,q1,q2,q3,q4⟩:=h5.bits
   obtain⟨n',c',p0,p1,p2,p3,p4⟩:=h6.bits
   have kl:∀g:H,aR AP.A 28 [.int .i64 L] g=_:=fun g=>Jb g L (by omega) (by omega)
   have kd:∀g:H,aR AP.A 29 [.int .i64 K] g=_:=fun g=>M6 g K (by omega) (by omega)
   have e1:=l1 (xF L) ⟨by omega,by omega⟩
   have f1:=d1 (xN K) ⟨by omega,by omega⟩
   obtain⟨h1',eh1⟩:∃g,g=(h.alloc [.int .i64 0,.int .i64 0,.int .i64 0]).set h.next [.int .i64 (xF L:Nat),.int .i64 (za L:Nat),.int .i64 (zC L:Nat)]:=⟨_,rfl⟩
   have x1:WX h0 h1' w bs ov:=x.turn (by rw[eh1];simp) (by rw[eh1];simp) fun j hj=>by rw[eh1,vN (by omega),vW (by omega)]
   have g1:h1'.get h.next=some [.int .i64 (xF L:Nat),.int .i64 (za L:Nat),.int .i64 (zC L:Nat)]:=by rw[eh1,v9 rfl,vZ rfl];rfl
   have nx1:h1'.next=h.next+1:=by rw[eh1];simp
   have e2:=l2 h1' x1.ext _ _ q0
   obtain⟨h2',o2,k1,k2,k3⟩:=Dl x1.wr c n q1 q2 q3 (by omega)
   have x2:=x1.step k2 k3
   have hw:=h.lt _ _ x.wr.get
   have hon:ov.id?≠some h.next:=fun q=>by have:=(x.wr.own.lt q).2;omega
   have g2:h2'.get h.next=_:=(k3.wV h.next (by omega) (by omega) hon).trans g1
   obtain⟨h3',o3,k4,k5,k6⟩:=Aj x2.wr (zC L) (za L) (by omega) lb.2 (by simp [xc];omega)
   have x3:=x2.step k5 k6
   have nx3:h1'.next≤h3'.next:=vG k3.next k6.next
   obtain⟨_,_,b5',_⟩:=a3 h3' x3.ext _ _ ht
   obtain⟨h4,eh4⟩:∃g,g=(h3'.alloc [.int .i64 0,.int .i64 0,.int .i64 0]).set h3'.next [.int .i64 (xN K:Nat),.int .i64 (zg K:Nat),.int .i64 (zH K:Nat)]:=⟨_,rfl⟩
   have x4:WX h0 h4 w _ o3:=x3.turn (h':=h4) (by rw[eh4];simp) (by rw[eh4];simp) fun j hj=>by rw[eh4,vN (by omega),vW (by omega)]
   have g4:h4.get h3'.next=some [.int .i64 (xN K:Nat),.int .i64 (zg K:Nat),.int .i64 (zH K:Nat)]:=by rw[eh4,v9 rfl,vZ rfl];rfl
   have f2:=d2 h4 x4.ext _ _ p0
   obtain⟨h5',o5,m1,m2,m3⟩:=Dl x4.wr c' n' p1 p2 p3 (by simp [xc,wc,wm];omega)
   have x5:=x4.step m2 m3
   have hw3:=h3'.lt _ _ x3.wr.get
   have hon3:o3.id?≠some h3'.next:=fun q=>by have:=(x3.wr.own.lt q).2;omega
   have g5:h5'.get h3'.next=_:=(m3.wV h3'.next (by rw[eh4];simp) (by omega) hon3).trans g4
   obtain⟨h6',o6,m4,m5,m6⟩:=Aj x5.wr (zH K) (zg K) (by omega) db.2 (by simp [xc,wc,wm];omega)
   have x6:=x5.step m5 m6
   rw[hL]at b4
   rw[hK]at b5'
   have fl1:h.floor≤h.next:=x.wr.H5
   have fl3:h3'.floor≤h3'.next:=x3.wr.H5
   have cL:¬(L:Int)=0:=by omega
   refine⟨h6',o6, ?_, ?_⟩
   · rw[n1]
     clear rd rl rx a1 a2 a3 l1 l2 d1 d2 x x1 x2 x3 x4 x5 x6 k2 k3 k5 k6 m2 m3 m5 m6 q4 p4 b5 h5 h6 ht b3 hon hon3 lb db p3 q3 hI hb
     generalize xF L=S at *
     generalize za L=B at *
     generalize zC L=V at *
     generalize xN K=S' at *
     generalize zg K=B' at *
     generalize zH K=V' at *
     simp (disch:=omega)only[go_sem,vT,AP.f36L0,ln,b1,b2,b22,b4,b5',e1,e2,f1,f2,kl,kd,cL,←eh1,←eh4,g1,g2,g4,g5,k1,k4,m1,m4]
   · rw[wH,if_neg (by omega),Lt,Kt,q4,p4]
     rw[XV,XV,XV]at x6
     exact x6
theorem DR {E D:List (Int×Int)}:∀{ts:List Tok},(∀t∈ts,HF E D t)→(w9 E D ts).length≤48* ts.length
 |[],_=>by simp [w9]
 | t :: ts, h => by
   have a:=BQ (h t (by simp))
   have b:=DR (E:=E) (D:=D) (ts:=ts) fun u hu=>h u (by simp [hu])
   unfold w9 at *
   simp only[XW,vI,XO];omega
theorem Hb {v lv dv:AV} {ts:List Tok} {E D:List (Int×Int)} (hn:ts.length<1000000) (h0:H) (rd:yC 3 h0 v ts.length (wJ ts)) (rl:yC 2 h0 lv E.length (E.flatMap wU)) (rx:yC 2 h0 dv D.length (D.flatMap wU)) (ok:∀t∈ts,HF E D t) (w:Nat):∀(q p:List Tok) (bs:List Nat) (h:H) (ov:AV),ts=p++q→WX h0 h w bs ov→bs.length+48* q.length≤65000→
 ∃e' h' ov',Lp AP.A [0,1,2,3,8] AP.f36L0 [(0,.aD w 0),(1,v),(2,lv),(3,dv),(8,.int .i64 p.length)] h=some (.exit 0,e',h')∧look e' 0=.aD w 0∧look e' 2=lv∧WX h0 h' w (bs++w9 E D q) ov'
 | [], p, bs, h, ov, hp, x, hb => by
   rw[XZ]at hp;subst hp
   have ln:=rd.len
   refine⟨[(0,.aD w 0),(1,v),(2,lv),(3,dv),(8,.int .i64 ts.length),(16,.bool false)],h,ov,tM ?_,rfl,rfl,by simpa [w9]using x⟩
   simp (disch:=omega)only[go_sem,vT,AP.f36L0,ln]
 | t :: q, p, bs, h, ov, hp, x, hb => by
   have ht:ts[p.length]?=some t:=by rw[hp];simp
   have o:=ok t (vq ht)
   have tl:=BQ o
   simp only[XO]at hb
   obtain⟨h1,o1,s1,x1⟩:=ME hn h0 rd rl rx w p.length t ht o h bs ov x (by omega)
   have hlen:(((p++[t]).length:Nat):Int)=((p.length+1:Nat):Int):=by simp
   obtain⟨e',h',ov',r1,r2,r3,r4⟩:=Hb hn h0 rd rl rx ok w q (p++[t]) _ h1 o1 (by rw[hp];simp) x1 (by simp;omega)
   rw[hlen]at r1
   refine⟨e',h',ov',tN s1 r1,r2,r3, ?_⟩
   have e:bs++w9 E D (t::q)=bs++wH E D t++w9 E D q:=by unfold w9;rw[XW,XV]
   rw[e];exact r4
theorem Oi {v lv dv:AV} {ts:List Tok} {E D:List (Int×Int)} (hn:ts.length<1000000) (h0:H) (rd:yC 3 h0 v ts.length (wJ ts)) (rl:yC 2 h0 lv E.length (E.flatMap wU)) (rx:yC 2 h0 dv D.length (D.flatMap wU)) (ok:∀t∈ts,HF E D t) (o256:B9 E 256) (w:Nat) (bs:List Nat) (h:H) (ov:AV) (x:WX h0 h w bs ov) (hb:bs.length+48* ts.length≤65000):
 ∃h' ov',aR AP.A 36 [.aD w 0,v,lv,dv] h=some (.bM [],h')∧WX h0 h' w (bs++(w9 E D ts++vY E 256)) ov':=by
 obtain⟨e',h1,o1,r1,r2,r3,x1⟩:=Hb hn h0 rd rl rx ok w ts [] bs h ov rfl x hb
 have r1':Lp AP.A [0,1,2,3,8] AP.f36L0 [(0,.aD w 0),(1,v),(2,lv),(3,dv),(8,.int .i64 0)] h=some (.exit 0,e',h1):=r1
 obtain⟨n,c,q0,q1,q2,q3,q4⟩:=o256.bits
 obtain⟨le,l1,l2⟩:=rl.GP
 have ll:=o256.lt
 have e1:=l1 256 ⟨by omega,by omega⟩
 have e2:bQ true 2 (le 256) h1=_:=l2 h1 x1.ext _ _ q0
 have tb:=DR ok
 obtain⟨h',ov',k1,k2,k3⟩:=Dl x1.wr c n q1 q2 q3 (by rw[vI];omega)
 have x2:=x1.step k2 k3
 rw[←q4,XV]at x2
 obtain⟨e2',he⟩:∃e2',aL (aR AP.A) bq AP.f36.body (params 0 [.aD w 0,v,lv,dv]) h=some (.normal,e2',h'):=by
  clear rd rl rx x x1 k2 k3 x2 q4 l1 l2 ok o256 r1
  refine⟨?_, ?_⟩
  rotate_left
  · simp (disch:=omega)only[go_sem,vT,AP.f36,sG,r1',r2,r3,e1,e2,k1]
    rfl
 exact⟨h',ov',wF (fn:=AP.f36) (e:=e2') (vs:=[]) rfl rfl rfl he rfl,x2⟩
structure Ro (h:H) (f:Nat) (vs:List AV) (cs:List (List AV)):Prop where
 get:h.get f=some vs
 own:∀(i:Nat) (v:AV) (c:List AV),vs[i]?=some v→cs[i]?=some c→wz 1 h v c.length c
 len:vs.length=cs.length
 ne:∀(i:Nat) (v:AV),vs[i]?=some v→v.id?≠some f
 Om:∀(i j:Nat) (v u:AV),i≠j→vs[i]?=some v→vs[j]?=some u→∀id,v.id?=some id→u.id?≠some id
 fl:h.floor≤f
 H5:h.floor≤h.next
structure Lo (h h':H):Prop where
 floor:h'.floor=h.floor
 next:h.next≤h'.next
 wV:∀i,i<h.floor→h'.get i=h.get i
theorem Lo.refl (h:H):Lo h h:=⟨rfl,vm _,fun _ _=>rfl⟩
theorem Lo.trans {a b c:H} (x:Lo a b) (y:Lo b c):Lo a c:=⟨y.floor.trans x.floor,vG x.next y.next,fun i hi=>(y.wV i (by rw[x.floor];exact hi)).trans (x.wV i hi)⟩
theorem Ext.lo {h0 a b:H} (x:Ext h0 a) (y:Lo a b) (hf:a.floor=h0.next):Ext h0 b:=fun i c hi=>by
 rw[y.wV i (by rw[hf];exact h0.lt _ _ hi),x i c hi]
theorem Ro.push {h : H} {f : Nat} {vs : List AV} {cs : List (List AV)} (r : Ro h f vs cs) (k : Nat) {v : AV} {c : List AV} (hv : vs[k]? = some v) (hc : cs[k]? = some c) (x : AV) (sc : x.sc = true) {z : Nat} (hz : roomy z (c.length + 1) = true) :
 ∃v' h1,kM (h.alloc [x]) 1 z v (.aE h.next 0 1 1)=some (v',h1)∧h1.get f=some vs∧h1.floor=h.floor∧Ro (h1.set f (vs.set k v')) f (vs.set k v') (cs.set k (c++[x]))∧Lo h (h1.set f (vs.set k v')):=by
 have o:=r.own k v c hv hc
 have hfl:=h.lt _ _ r.get
 obtain⟨v',h1,p1,p2,p3,p4,p5,p6⟩:=o.push r.H5 (z:=z) (m:=1) (by omega) (by omega) [x] rfl (by simp [AV.aC,sc]) hz
 have hk:k<vs.length:=(vh.1 hv).1
 have gf:h1.get f=some vs:=by rw[p5 f (r.ne k v hv) hfl,r.get]
 have key:∀(i:Nat) (u:AV),(vs.set k v')[i]?=some u→(i=k∧u=v')∨(i≠k∧vs[i]?=some u):=by
  intro i u hu
  by_cases e:k=i
  · subst e
    rw[X8,if_pos rfl,if_pos hk]at hu
    exact .inl ⟨rfl,(u6 hu).symm⟩
  · rw[X8,if_neg e]at hu
    exact .inr ⟨fun q=>e q.symm,hu⟩
 have iF:∀(i:Nat) (u:AV),vs[i]?=some u→∀id,u.id?=some id→id<h.next:=by
  intro i u hu id hid
  have hi:i<cs.length:=by rw[←r.len];exact(vh.1 hu).1
  exact((r.own i u _ hu (XQ hi)).lt hid).2
 refine⟨v',h1,p1,gf,p3,⟨?_, ?_, ?_, ?_, ?_, ?_, ?_⟩,⟨by simp [p3],by simp;omega, ?_⟩⟩
 · rw[v9 rfl,gf];rfl
 · intro i u d hu hd
   rcases key i u hu with ⟨rfl,rfl⟩|⟨hne,hu⟩
   · rw[X8,if_pos rfl,if_pos (by rw[←r.len];exact hk)]at hd
     obtain rfl:=u6 hd
     have:(c++[x]).length=c.length+1:=by simp
     rw[this]
     exact p2.mono (by simp) fun j hj=>by rw[vN];rw[p6]at hj;have:=u6 hj;omega
   · rw[X8,if_neg (fun q=>hne q.symm)]at hd
     exact(r.own i u d hu hd).mono (by simp [p3]) fun j hj=>by
      rw[vN (fun q=>r.ne i u hu (by rw[hj,q])),p5 j (fun q=>r.Om i k u v hne hu hv j hj q) (iF i u hu j hj)]
 · simp [r.len]
 · intro i u hu
   rcases key i u hu with ⟨rfl,rfl⟩|⟨hne,hu⟩
   · rw[p6];intro q;have:=u6 q;omega
   · exact r.ne i u hu
 · intro i j u w hij hu hw id hid
   rcases key i u hu with ⟨e1,e2⟩|⟨hne,hu2⟩
   · rcases key j w hw with ⟨e3,e4⟩|⟨hne2,hw2⟩
     · exact absurd (e1.trans e3.symm) hij
     · intro q;have:=iF j w hw2 id q;rw[e2,p6]at hid;have:=u6 hid;omega
   · rcases key j w hw with ⟨e3,e4⟩|⟨hne2,hw2⟩
     · intro q;have:=iF i u hu2 id hid;rw[e4,p6]at q;have:=u6 q;omega
     · exact r.Om i j u w hij hu2 hw2 id hid
 · simpa [p3]using r.fl
 · simp [p3];have:=r.H5;omega
 · intro i hi
   have:=r.fl
   rw[vN (by omega),p5 i (fun q=>by have:=(o.lt q).1;omega) (by have:=r.H5;omega)]
theorem Ro.put {h:H} {f:Nat} {vs:List AV} {cs:List (List AV)} (r:Ro h f vs cs) (k i:Nat) {v:AV} {c:List AV} (hv:vs[k]?=some v) (hc:cs[k]?=some c) (x:AV) (sc:x.sc=true) (hi:i<c.length):
 ∃id,v=.aE id 0 c.length 1∧h.get id=some c∧h.floor≤id∧id≠f∧(∀(j:Nat) (u:AV),j≠k→vs[j]?=some u→u.id?≠some id)∧Ro (h.set id (c.set i x)) f vs (cs.set k (c.set i x))∧Lo h (h.set id (c.set i x)):=by
 have o:=r.own k v c hv hc
 rcases o.2 with ⟨_,q⟩|⟨id,q1,q2,q3,q4⟩
 · omega
 have hid:v.id?=some id:=by rw[q1];rfl
 have hne:id≠f:=fun q=>r.ne k v hv (by rw[hid,q])
 have hk:k<vs.length:=(vh.1 hv).1
 refine⟨id,q1,q2,q3,hne,fun j u hj hu q=>r.Om j k u v hj hu hv id q hid,⟨?_, ?_, ?_,r.ne,r.Om,by simpa using r.fl,by simpa using r.H5⟩,⟨by simp,by simp,fun j hj=>by rw[vN (by omega)]⟩⟩
 · rw[vN hne.symm,r.get]
 · intro j u d hu hd
   by_cases e:k=j
   · subst e
     rw[hv]at hu
     obtain rfl:=u6 hu
     rw[X8,if_pos rfl,if_pos (by rw[←r.len];exact hk)]at hd
     obtain rfl:=u6 hd
     have lc:(c.set i x).length=c.length:=X6
     rw[lc]
     exact⟨by omega,.inr ⟨id,q1,by rw[v9 rfl,q2];rfl,by simpa using q3,q4⟩⟩
   · rw[X8,if_neg e]at hd
     exact(r.own j u d hu hd).mono (by simp) fun m hm=>by rw[vN];intro q;subst q;exact r.Om j k u v (fun q=>e q.symm) hu hv m hm hid
 · simp [r.len]
def Ga (F:List Bool):List AV:=F.map .bool
theorem CN (F:List Bool):(Ga F).length=F.length:=by simp [Ga]
theorem Ox {F:List Bool} {i:Nat} {b:Bool} (h:F[i]?=some b):(Ga F)[i]?=some (.bool b):=by simp [Ga,h]
abbrev Pj (W U:List Int) (F:List Bool):List (List AV):=[ints W,ints U,Ga F]
theorem wz.cells {n:Nat} {h:H} {v:AV} {k:Nat} {cs:List AV} (o:wz n h v k cs):v.cells=[v]:=by
 rcases o.2 with ⟨e,_⟩|⟨id,e,_⟩<;>rw[e]<;>rfl
theorem Na {h:H} {f:Nat} {W U:List Int} {F:List Bool} {wv uv fv:AV} (r:Ro h f [wv,uv,fv] (Pj W U F)) (x:Int) (hl:W.length<100000∧U.length<100000∧F.length<100000):
 ∃h' wv' uv' fv',aR AP.A 70 [.aD f 0,.int .i64 x] h=some (.bM [],h')∧Ro h' f [wv',uv',fv'] (Pj (W++[x]) (U++[-1]) (F++[true]))∧Lo h h':=by
 have rz:∀n z,n<100000→1≤z→z≤8→roomy z (n+1)=true:=fun n z h1 h2 h3=>xP ⟨h2,by
  have:(n+1+(n+1)/4+512)* z≤1000000* 8:=Yx (by omega) h3
  omega⟩
 obtain⟨v1,h1,a1,a2,a3,a4,a5⟩:=r.push 0 rfl rfl (.int .i64 x) rfl (z:=8) (rz _ _ (by rw[pY];exact hl.1) (by omega) (by omega))
 simp only[List.set_cons_zero]at a4 a5
 obtain⟨g1,eg1⟩:∃g,g=h1.set f [v1,uv,fv]:=⟨_,rfl⟩
 rw[←eg1]at a4 a5
 obtain⟨v2,h2,b1,b2,b3,b4,b5⟩:=a4.push 1 rfl rfl (.int .i64 (-1)) rfl (z:=8) (rz _ _ (by rw[pY];exact hl.2.1) (by omega) (by omega))
 simp only[List.set_cons_succ,List.set_cons_zero]at b4 b5
 obtain⟨g2,eg2⟩:∃g,g=h2.set f [v1,v2,fv]:=⟨_,rfl⟩
 rw[←eg2]at b4 b5
 obtain⟨v3,h3,c1,c2,c3,c4,c5⟩:=b4.push 2 rfl rfl (.bool true) rfl (z:=1) (rz _ _ (by rw[CN];exact hl.2.2) (by omega) (by omega))
 simp only[List.set_cons_succ,List.set_cons_zero]at c4 c5
 obtain⟨g3,eg3⟩:∃g,g=h3.set f [v1,v2,v3]:=⟨_,rfl⟩
 rw[←eg3]at c4 c5
 have e:Pj (W++[x]) (U++[-1]) (F++[true])=[ints W++[.int .i64 x],ints U++[.int .i64 (-1)],Ga F++[.bool true]]:=by
  unfold Pj Ga;rw[pX,pX,List.map_append];rfl
 have gf:=r.get
 have gf1:=a4.get
 have gf2:=b4.get
 have f1:h1.floor≤f:=by have:=r.fl;omega
 have f2:h2.floor≤f:=by have:=a4.fl;omega
 have f3:h3.floor≤f:=by have:=b4.fl;omega
 have k1:=(a4.own 0 _ _ rfl rfl).cells
 have k2:=(b4.own 1 _ _ rfl rfl).cells
 have k3:=(c4.own 2 _ _ rfl rfl).cells
 have s1:v1.sc=true:=(a4.own 0 _ _ rfl rfl).sc
 have s2:v2.sc=true:=(b4.own 1 _ _ rfl rfl).sc
 have s3:v3.sc=true:=(c4.own 2 _ _ rfl rfl).sc
 refine⟨g3,v1,v2,v3,wF (fn:=AP.f70) (e:=[]) (vs:=[]) rfl rfl rfl ?_ rfl,by rw[e];exact c4,a5.trans (b5.trans c5)⟩
 clear a4 a5 b4 b5 c4 c5 r e rz
 simp (disch:=omega)only[go_sem,vT,AP.f70,gf,gf1,gf2,a1,a2,b1,b2,c1,c2,s1,s2,s3,k1,k2,k3,f1,f2,f3,←eg1,←eg2,←eg3]
def xn (W:List Int) (F:List Bool):Nat→Nat→Int→Int
 |0,_,a=>a
 |m+1,i,a=>xn W F m (i+1) (if F.getD i false=true∧(a<0∨W.getD i 0<W.getD a.toNat 0)then i else a)
theorem Co {W:List Int} {F:List Bool} {n:Nat}:∀(m i:Nat) (a:Int),i+m=n→(a= -1∨(0≤a∧a<n))→(xn W F m i a= -1∨(0≤xn W F m i a∧xn W F m i a<n))
 |0,i,a,_,h=>h
 | m + 1, i, a, hi, h => by
   rw[xn]
   refine Co m (i+1) _ (by omega) ?_
   split
   · right;omega
   · exact h
theorem D5 {h : H} {f iw ifr n : Nat} {uv : AV} {W : List Int} {F : List Bool} (gf : h.get f = some [.aE iw 0 n 1, uv, .aE ifr 0 n 1]) (gw : h.get iw = some (ints W)) (gb : h.get ifr = some (Ga F)) (hW : W.length = n) (hF : F.length = n) (hn : n < 100000) : ∀ (m i : Nat) (a : Int), i + m = n → (a = -1 ∨ (0 ≤ a ∧ a < n)) →
 Lp AP.A [0,3,4] AP.f71L0 [(0,.aD f 0),(3,.int .i64 a),(4,.int .i64 i)] h=some (.exit 0,[(0,.aD f 0),(3,.int .i64 (xn W F m i a)),(4,.int .i64 n),(11,.bool false)],h)
 | 0, i, a, hi, ha => by
   obtain rfl:i=n:=by omega
   refine tM ?_
   rw[xn]
   simp (disch:=omega)only[go_sem,vT,AP.f71L0,gf]
 | m + 1, i, a, hi, ha => by
   have lw:(ints W).length=n:=by rw[pY,hW]
   have lb:(Ga F).length=n:=by rw[CN,hF]
   have n1:((i+1:Nat):Int)=(i:Int)+1:=by omega
   obtain⟨b,hb⟩:∃b,F[i]?=some b:=⟨_,XQ (by omega)⟩
   obtain⟨x,hx⟩:∃x,W[i]?=some x:=⟨_,XQ (by omega)⟩
   have gb':=Ox hb
   have gx:=tu hx
   simp only[I]at gx
   have fb:F.getD i false=b:=by rw[XN,hb];rfl
   have fx:W.getD i 0=x:=by rw[XN,hx];rfl
   have hk:0≤a→∃k:Nat,a=k∧k<n∧(ints W)[k]?=some (.int .i64 (W.getD k 0)):=fun h0=>by
    refine⟨a.toNat,by omega,by omega, ?_⟩
    have:=tu (l:=W) (i:=a.toNat) (x:=W.getD a.toNat 0) (by rw[XN,XQ (by omega)];rfl)
    exact this
   have r1:=D5 gf gw gb hW hF hn m (i+1) (if F.getD i false=true∧(a<0∨W.getD i 0<W.getD a.toNat 0)then i else a) (by omega) (by
    split
    · right;omega
    · exact ha)
   rw[xn]
   refine tN ?_ r1
   rw[n1,fb,fx]
   clear r1 hb hx
   generalize ints W=IW at *
   generalize Ga F=BF at *
   cases b with
   | false =>
     rw[if_neg (by simp)]
     simp (disch:=omega)only[go_sem,vT,AP.f71L0,gf,gw,gb,lw,lb,gb']
   | true =>
     by_cases c:a<0
     · rw[if_pos ⟨rfl,.inl c⟩]
       simp (disch:=omega)only[go_sem,vT,AP.f71L0,gf,gw,gb,lw,lb,gb',XS c]
     · obtain⟨k,rfl,hkn,gk⟩:=hk (by omega)
       have tk:((k:Nat):Int).toNat=k:=by omega
       rw[tk]
       have c':¬((k:Nat):Int)<0:=c
       by_cases c2:x<W.getD k 0
       · rw[if_pos ⟨rfl,.inr c2⟩]
         generalize W.getD k 0=y at *
         clear fx fb ha hk c
         simp (disch:=omega)only[go_sem,vT,AP.f71L0,gf,gw,gb,lw,lb,gb',gx,gk,XP c',XS c2]
       · rw[if_neg (by rintro ⟨_,q|q⟩;exact c' q;exact c2 q)]
         generalize W.getD k 0=y at *
         clear fx fb ha hk c
         simp (disch:=omega)only[go_sem,vT,AP.f71L0,gf,gw,gb,lw,lb,gb',gx,gk,XP c',XP c2]
def wW (W:List Int) (F:List Bool):Nat:=(xn W F W.length 0 (-1)).toNat
theorem IL {h:H} {f:Nat} {W U:List Int} {F:List Bool} {wv uv fv:AV} (r:Ro h f [wv,uv,fv] (Pj W U F)) (hF:F.length=W.length) (hn:W.length<100000) (h0:0≤xn W F W.length 0 (-1)):
 ∃h',aR AP.A 71 [.aD f 0] h=some (.int .i64 (wW W F:Nat),h')∧Ro h' f [wv,uv,fv] (Pj W U (F.set (wW W F) false))∧Lo h h':=by
 have rg:=Co (W:=W) (F:=F) (n:=W.length) W.length 0 (-1) (by omega) (.inl rfl)
 have hA:xn W F W.length 0 (-1)=((wW W F:Nat):Int):=by unfold wW;omega
 have hAn:wW W F<W.length:=by omega
 obtain⟨n,en⟩:∃n,n=W.length:=⟨_,rfl⟩
 obtain⟨ifr,q1,q2,q3,q4,q5,q6,q7⟩:=r.put 2 (wW W F) (v:=fv) (c:=Ga F) rfl rfl (.bool false) rfl (by rw[CN,hF];exact hAn)
 rw[CN,hF,←en]at q1
 obtain⟨iw,p1,p2,_⟩:=r.put 0 (wW W F) (v:=wv) (c:=ints W) rfl rfl (.int .i64 0) rfl (by rw[pY];exact hAn)
 rw[pY,←en]at p1
 have gf:=r.get
 rw[q1,p1]at gf
 have L:=D5 gf p2 q2 en.symm (hF.trans en.symm) (by omega) n 0 (-1) (by omega) (.inl rfl)
 rw[en,hA,←en]at L
 have L':Lp AP.A [0,3,4] AP.f71L0 [(0,.aD f 0),(3,.int .i64 (-1)),(4,.int .i64 0)] h=_:=L
 have lb:(Ga F).length=n:=by rw[CN,hF,en]
 have es:(Ga F).set (wW W F) (.bool false)=Ga (F.set (wW W F) false):=by simp [Ga,List.map_set]
 rw[es]at q6 q7
 have q6':Ro (h.set ifr (Ga (F.set (wW W F) false))) f [wv,uv,fv] (Pj W U (F.set (wW W F) false)):=q6
 have fl:=r.fl
 refine⟨h.set ifr (Ga (F.set (wW W F) false)),tZ (fn:=AP.f71) (e:=[(2,.int .i64 (wW W F:Nat))]) (vs:=[.int .i64 (wW W F:Nat)]) rfl rfl rfl ?_ rfl,q6',q7⟩
 rw[←en]at hAn
 clear q6 q6' q7 q5 r rg hA L p1 q1 h0
 generalize wW W F=A at *
 generalize Ga F=BF at *
 generalize Ga (F.set A false)=BF2 at *
 simp (disch:=omega)only[go_sem,vT,AP.f71,sG,L',gf,q2,lb,es]
structure FS where
 W:List Int
 U:List Int
 F:List Bool
def FS.add (s:FS) (x:Int):FS:=⟨s.W++[x],s.U++[-1],s.F++[true]⟩
def FS.a (s:FS):Nat:=wW s.W s.F
def FS.F1 (s:FS):List Bool:=s.F.set s.a false
def FS.b (s:FS):Nat:=wW s.W s.F1
def FS.F2 (s:FS):List Bool:=s.F1.set s.b false
def FS.sum (s:FS):Int:=s.W.getD s.a 0+s.W.getD s.b 0
def FS.FY (s:FS):FS:=FS.add ⟨s.W,(s.U.set s.a s.U.length).set s.b s.U.length,s.F2⟩ s.sum
structure FS.ok (s:FS):Prop where
 lu:s.U.length=s.W.length
 lf:s.F.length=s.W.length
 l1:0≤xn s.W s.F s.W.length 0 (-1)
 l2:0≤xn s.W s.F1 s.W.length 0 (-1)
 sm:0≤s.sum∧s.sum<1000000000000000
abbrev FS.C (s:FS):List (List AV):=Pj s.W s.U s.F
theorem GC {W:List Int} {F:List Bool} (h:0≤xn W F W.length 0 (-1)):wW W F<W.length:=by
 have rg:=Co (W:=W) (F:=F) (n:=W.length) W.length 0 (-1) (by omega) (.inl rfl)
 unfold wW;omega
theorem xj (l:List Int) (i:Nat) (x:Int):(ints l).set i (.int .i64 x)=ints (l.set i x):=by simp [ints,List.map_set,I]
theorem RN {h:H} {f:Nat} {s:FS} {wv uv fv:AV} {N:Nat} {x:AV} {i:Nat} (r:Ro h f [wv,uv,fv] s.C) (ok:s.ok) (hn:s.W.length<10000) (ln:jc false x=some (.int .i64 N)) (hi:i<N) (hN:N<100000):
 ∃h' wv' uv' fv',aL (aR AP.A) bq AP.f56L2 (ay [(0,x),(3,.aD f 0),(5,.int .i64 i)] [0,3,5]) h=some (.normal,[(0,x),(3,.aD f 0),(5,.int .i64 (i+1:Nat))],h')∧Ro h' f [wv',uv',fv'] s.FY.C∧Lo h h':=by
 obtain⟨lu,lf,l1,l2,sm⟩:=ok
 have la:=GC l1
 have lb:=GC l2
 change s.a<s.W.length at la
 change s.b<s.W.length at lb
 obtain⟨h1,k1,r1,o1⟩:=IL r lf (by omega) l1
 obtain⟨h2,k2,r2,o2⟩:=IL r1 (by rw[X6];exact lf) (by omega) l2
 change aR AP.A 71 [.aD f 0] h=some (.int .i64 (s.a:Nat),h1)at k1
 change aR AP.A 71 [.aD f 0] h1=some (.int .i64 (s.b:Nat),h2)at k2
 obtain⟨iw,p1,p2,p3,p4,p5,_⟩:=r2.put 0 s.a (v:=wv) (c:=ints s.W) rfl rfl (.int .i64 0) rfl (by rw[pY];exact la)
 obtain⟨iu,q1,q2,q3,q4,q5,r3,o3⟩:=r2.put 1 s.a (v:=uv) (c:=ints s.U) rfl rfl (.int .i64 s.U.length) rfl (by rw[pY];omega)
 rw[xj]at r3 o3
 obtain⟨h3,eh3⟩:∃g,g=h2.set iu (ints (s.U.set s.a s.U.length)):=⟨_,rfl⟩
 rw[←eh3]at r3 o3
 obtain⟨iu2,q1',q2',q3',q4',q5',r4,o4⟩:=r3.put 1 s.b (v:=uv) (c:=ints (s.U.set s.a s.U.length)) rfl rfl (.int .i64 s.U.length) rfl (by rw[pY,X6];omega)
 rw[xj]at r4 o4
 have:iu2=iu:=by rw[q1]at q1';injection q1' with a _ _ _;exact a.symm
 subst this
 obtain⟨h4,eh4⟩:∃g,g=h3.set iu2 (ints ((s.U.set s.a s.U.length).set s.b s.U.length)):=⟨_,rfl⟩
 rw[←eh4]at r4 o4
 obtain⟨h5,wv',uv',fv',k5,r5,o5⟩:=Na r4 s.sum (by
  refine⟨by omega,by rw[X6,X6];omega,by rw[X6,X6];omega⟩)
 refine⟨h5,wv',uv',fv', ?_,r5,o1.trans (o2.trans (o3.trans (o4.trans o5)))⟩
 have hwu:iw≠iu2:=by
  intro e
  exact p5 1 uv (by omega) rfl (by rw[q1,e];rfl)
 have gf2:=r2.get
 have gf3:=r3.get
 have gf4:=r4.get
 have gw4:h4.get iw=some (ints s.W):=by rw[eh4,vN hwu,eh3,vN hwu,p2]
 rw[p1,q1]at gf2 gf3 gf4
 rw[pY]at gf2 gf3 gf4
 rw[pY]at gf2 gf3 gf4
 have n1:((i+1:Nat):Int)=(i:Int)+1:=by omega
 have luI:=pY s.U
 have lwI:=pY s.W
 have lsI:=pY (s.U.set s.a s.U.length)
 rw[X6]at lsI
 have e1:=xj s.U s.a s.U.length
 have e2:=xj (s.U.set s.a s.U.length) s.b s.U.length
 have ga:(ints s.W)[s.a]?=some (.int .i64 (s.W.getD s.a 0)):=tu (by rw[XN,XQ la];rfl)
 have gb:(ints s.W)[s.b]?=some (.int .i64 (s.W.getD s.b 0)):=tu (by rw[XN,XQ lb];rfl)
 have es:s.W.getD s.a 0+s.W.getD s.b 0=s.sum:=rfl
 clear r r1 r2 r3 r4 r5 o1 o2 o3 o4 o5 p5 q5 q5' l1 l2 p1 q1 q1'
 rw[n1]
 generalize ints ((s.U.set s.a s.U.length).set s.b s.U.length)=U2 at *
 generalize ints (s.U.set s.a s.U.length)=U1 at *
 generalize ints s.U=U0 at *
 generalize ints s.W=W0 at *
 generalize s.W.getD s.a 0=wa at *
 generalize s.W.getD s.b 0=wb0 at *
 generalize s.sum=S at *
 generalize s.a=a at *
 generalize s.b=b at *
 generalize s.U.length=ul at *
 generalize s.W.length=wl at *
 subst lu
 simp (disch:=omega)only[go_sem,vT,AP.f56L2,ln,k1,k2,gf2,gf3,gf4,q2,q2',gw4,luI,lwI,lsI,ga,gb,e1,e2,es,←eh3,←eh4,k5]
def FS.yV:Nat→FS→FS
 |0,s=>s
 |n+1,s=>FS.yV n s.FY
theorem FS.Hy (s:FS):s.FY.W.length=s.W.length+1:=by simp [FS.FY,FS.add]
theorem FS.BE:∀(n:Nat) (s:FS),(FS.yV n s).W.length=s.W.length+n
 |0,s=>rfl
 |n+1,s=>by rw[FS.yV,FS.BE n,FS.Hy];omega
theorem Gn {f:Nat} {N:Nat} {x:AV} (hN:N<1000):∀(m i:Nat) (s:FS) (h:H) (wv uv fv:AV),i+m=N→Ro h f [wv,uv,fv] s.C→(∀k,k<m→(FS.yV k s).ok)→s.W.length+m<10000→jc false x=some (.int .i64 N)→
 ∃h' wv' uv' fv',Lp AP.A [0,3,5] AP.f56L2 [(0,x),(3,.aD f 0),(5,.int .i64 i)] h=some (.exit 2,[(0,x),(3,.aD f 0),(5,.int .i64 N),(29,.bool false)],h')∧Ro h' f [wv',uv',fv'] (FS.yV m s).C∧Lo h h'
 | 0, i, s, h, wv, uv, fv, hi, r, ok, hl, ln => by
   obtain rfl:i=N:=by omega
   refine⟨h,wv,uv,fv,tM ?_,r,Lo.refl h⟩
   simp (disch:=omega)only[go_sem,vT,AP.f56L2,ln]
 | m + 1, i, s, h, wv, uv, fv, hi, r, ok, hl, ln => by
   obtain⟨h1,w1,u1,f1,k1,r1,o1⟩:=RN r (ok 0 (by omega)) (by omega) ln (show i<N by omega) (by omega)
   obtain⟨h',w',u',f',k2,r2,o2⟩:=Gn hN m (i+1) s.FY h1 w1 u1 f1 (by omega) r1 (fun k hk=>ok (k+1) (by omega)) (by rw[FS.Hy];omega) ln
   exact⟨h',w',u',f',tN k1 k2,r2,o1.trans o2⟩
def Az (ws:List Int):FS:=⟨ws,List.replicate ws.length (-1),List.replicate ws.length true⟩
theorem Nj (p:List Int) (x:Int):Az (p++[x])=(Az p).add x:=by
 unfold Az FS.add
 simp only[vI,Ye,List.replicate_succ']
theorem Gk {f:Nat} {x:AV} {ws:List Int} (hn:ws.length<1000) (h0:H) (rd:Rd h0 x (ints ws)):∀(q p:List Int) (h:H) (wv uv fv:AV),ws=p++q→Ext h0 h→h.floor=h0.next→Ro h f [wv,uv,fv] (Az p).C→
 ∃h' wv' uv' fv',Lp AP.A [0,3,4] AP.f56L3 [(0,x),(3,.aD f 0),(4,.int .i64 p.length)] h=some (.exit 0,[(0,x),(3,.aD f 0),(4,.int .i64 ws.length),(17,.bool false)],h')∧Ro h' f [wv',uv',fv'] (Az ws).C∧Lo h h'
 | [], p, h, wv, uv, fv, hp, hx, hf, r => by
   rw[XZ]at hp;subst hp
   have ln:=rd.len
   rw[pY]at ln
   simp only[I]at ln
   refine⟨h,wv,uv,fv,tM ?_,r,Lo.refl h⟩
   simp (disch:=omega)only[go_sem,vT,AP.f56L3,ln]
 | y :: q, p, h, wv, uv, fv, hp, hx, hf, r => by
   have ln:=rd.len
   rw[pY]at ln
   simp only[I]at ln
   have hl:ws.length=p.length+(q.length+1):=by rw[hp];simp
   obtain⟨ad,a1,a2⟩:=rd.xi
   have b1:=a1 p.length ⟨by omega,by omega⟩
   have b2:=a2 h hx p.length y (by rw[hp];simp)
   obtain⟨h1,w1,u1,f1,k1,r1,o1⟩:=Na r y (by simp [Az];omega)
   have r1':Ro h1 f [w1,u1,f1] (Az (p++[y])).C:=by rw[Nj];exact r1
   obtain⟨h',w',u',f',k2,r2,o2⟩:=Gk hn h0 rd q (p++[y]) h1 w1 u1 f1 (by rw[hp];simp) (hx.lo o1 hf) (by rw[o1.floor,hf]) r1'
   have n1:(((p++[y]).length:Nat):Int)=(p.length:Int)+1:=by simp
   refine⟨h',w',u',f',tN ?_ k2,r2,o1.trans o2⟩
   rw[n1]
   clear r r1 r1' k2 r2 o1 o2 hx rd a1 a2
   simp (disch:=omega)only[go_sem,vT,AP.f56L3,ln,b1,b2,k1]
def Ap (U:List Int):Nat→Int→Nat
 |0,_=>0
 |m+1,j=>if 0≤j then Ap U m (U.getD j.toNat (-1))+1 else 0
def F4 (U:List Int):Prop:=∀j:Nat,j<U.length→U.getD j (-1)= -1∨((j:Int)<U.getD j (-1)∧U.getD j (-1)<U.length)
theorem He {h:H} {f iu n:Nat} {wv fv x ov:AV} {U:List Int} {i:Nat} (gf:h.get f=some [wv,.aE iu 0 n 1,fv]) (gu:h.get iu=some (ints U)) (hU:U.length=n) (hn:n<10000) (ok:F4 U):∀(m:Nat) (j:Int) (k:Nat),(j= -1∨(0≤j∧j<n))→(0≤j→(n:Int)≤j+m)→k+m<100000→
 ∃j',Lp AP.A [0,3,8,9,10,11] AP.f56L0 [(0,x),(3,.aD f 0),(8,ov),(9,.int .i64 i),(10,.int .i64 k),(11,.int .i64 j)] h=some (.exit 6,[(0,x),(3,.aD f 0),(8,ov),(9,.int .i64 i),(10,.int .i64 (k+Ap U m j:Nat)),(11,.int .i64 j'),(89,.bool false)],h)
 | 0, j, k, hj, hm, hk => by
   obtain rfl:j= -1:=by omega
   refine⟨-1,tM ?_⟩
   rw[Ap]
   simp (disch:=omega)only[go_sem,vT,AP.f56L0]
 | m + 1, j, k, hj, hm, hk => by
   by_cases c:0≤j
   · obtain⟨q,rfl⟩:=XT c
     have hq:q<n:=by omega
     have o:=ok q (by omega)
     have lu:(ints U).length=n:=by rw[pY,hU]
     have gq:(ints U)[q]?=some (.int .i64 (U.getD q (-1))):=tu (by rw[XN,XQ (by omega)];rfl)
     rw[hU]at o
     obtain⟨j',r1⟩:=He (x:=x) (ov:=ov) (i:=i) gf gu hU hn ok m (U.getD q (-1)) (k+1) (by omega) (by omega) (by omega)
     have n1:((k+1:Nat):Int)=(k:Int)+1:=by omega
     have tq:((q:Nat):Int).toNat=q:=by omega
     rw[Ap,if_pos c,tq]
     rw[show k+(Ap U m (U.getD q (-1))+1)=k+1+Ap U m (U.getD q (-1))by omega]
     refine⟨j',tN ?_ r1⟩
     rw[n1]
     clear r1 o ok
     generalize U.getD q (-1)=y at *
     generalize ints U=IU at *
     simp (disch:=omega)only[go_sem,vT,AP.f56L0,gf,gu,lu,gq]
   · rw[Ap,if_neg c]
     refine⟨j,tM ?_⟩
     simp (disch:=omega)only[go_sem,vT,AP.f56L0]
def Ch (U:List Int) (n:Nat):List Int:=(List.range n).map fun i=>((Ap U U.length (U.getD i (-1)):Nat):Int)
theorem LS (U:List Int) (n:Nat):Ch U (n+1)=Ch U n++[((Ap U U.length (U.getD n (-1)):Nat):Int)]:=by simp [Ch,List.range_succ]
theorem M4 (U:List Int) (n:Nat):(Ch U n).length=n:=by simp [Ch]
theorem IA {f iu n N:Nat} {wv fv x:AV} {U:List Int} (hU:U.length=n) (hn:n<10000) (ok:F4 U) (hN:N≤n) (ln:jc false x=some (.int .i64 N)) (B:Nat):∀(m i:Nat) (h:H) (ov:AV),i+m=N→h.get f=some [wv,.aE iu 0 n 1,fv]→h.get iu=some (ints U)→f<B→iu<B→B≤h.next→wz 1 h ov i (ints (Ch U i))→h.floor≤h.next→(∀j,ov.id?=some j→B≤j)→
 ∃h' ov',Lp AP.A [0,3,8,9] AP.f56L1 [(0,x),(3,.aD f 0),(8,ov),(9,.int .i64 i)] h=some (.exit 4,[(0,x),(3,.aD f 0),(8,ov'),(9,.int .i64 N),(78,.bool false)],h')∧wz 1 h' ov' N (ints (Ch U N))∧h'.floor=h.floor
 | 0, i, h, ov, hi, gf, gu, hf, hiu, hB, ow, hfl, hov => by
   obtain rfl:i=N:=by omega
   refine⟨h,ov,tM ?_,ow,rfl⟩
   simp (disch:=omega)only[go_sem,vT,AP.f56L1,ln]
 | m + 1, i, h, ov, hi, gf, gu, hf, hiu, hB, ow, hfl, hov => by
   have o:=ok i (by omega)
   rw[hU]at o
   have lu:(ints U).length=n:=by rw[pY,hU]
   have gq:(ints U)[i]?=some (.int .i64 (U.getD i (-1))):=tu (by rw[XN,XQ (by omega)];rfl)
   obtain⟨j',L⟩:=He (x:=x) (ov:=ov) (i:=i) gf gu hU hn ok n (U.getD i (-1)) 0 (by omega) (by omega) (by omega)
   rw[vr]at L
   obtain⟨v',h1,p1,p2,p3,p4,p5,p6⟩:=ow.push hfl (z:=8) (m:=1) (by omega) (by omega) [.int .i64 (Ap U n (U.getD i (-1)):Nat)] rfl rfl (xP (by omega))
   have e:=LS U i
   rw[hU]at e
   have ow2:wz 1 h1 v' (i+1) (ints (Ch U (i+1))):=by rw[e,pX];exact p2
   obtain⟨h',ov',r1,r2,r3⟩:=IA hU hn ok hN ln B m (i+1) h1 v' (by omega) (by rw[p5 f (fun q=>by have:=hov f q;omega) (by omega),gf]) (by rw[p5 iu (fun q=>by have:=hov iu q;omega) (by omega),gu]) hf hiu (by omega) ow2 (by omega) (fun j hj=>by rw[p6]at hj;have:=u6 hj;omega)
   have n1:((i+1:Nat):Int)=(i:Int)+1:=by omega
   have L':Lp AP.A [0,3,8,9,10,11] AP.f56L0 [(0,x),(3,.aD f 0),(8,ov),(9,.int .i64 i),(10,.int .i64 0),(11,.int .i64 (U.getD i (-1)))] h=_:=L
   refine⟨h',ov',tN ?_ r1,r2,by omega⟩
   rw[n1]
   clear r1 r2 r3 ow2 e p2 p5 p6 ok o L hov ow
   generalize Ap U n (U.getD i (-1))=K at *
   generalize U.getD i (-1)=y at *
   generalize ints U=IU at *
   simp (disch:=omega)only[go_sem,vT,AP.f56L1,ln,gf,gu,lu,gq,sG,L',p1]
def wg (ws:List Int):List Int:=Ch (FS.yV (ws.length-1) (Az ws)).U ws.length
theorem M5 (h : H) (x : AV) (ws : List Int) (h2 : 1 ≤ ws.length) (hn : ws.length < 1000) (rd : Rd h x (ints ws)) (ok : ∀ k, k < ws.length - 1 → (FS.yV k (Az ws)).ok) (up : F4 (FS.yV (ws.length - 1) (Az ws)).U) (lu : (FS.yV (ws.length - 1) (Az ws)).U.length = (FS.yV (ws.length - 1) (Az ws)).W.length) :
 aR AP.A 56 [x] h=some (yJ 1 ws.length (ints (wg ws)),h):=by
 have y9:Rd h.dN x (ints ws):=rd.mono (vX h)
 have ln:=rd.len
 rw[pY]at ln
 simp only[I]at ln
 obtain⟨h1,eh1⟩:∃g,g=h.dN.alloc [.aP,.aP,.aP]:=⟨_,rfl⟩
 have g1:h1.get h.next=some [.aP,.aP,.aP]:=by rw[eh1,vZ (by simp)]
 have r0:Ro h1 h.next [.aP,.aP,.aP] (Az []).C:=by
  have nl:∀(i:Nat) (v:AV),([.aP,.aP,.aP]:List AV)[i]?=some v→v=.aP:=by
   intro i v hv
   have:=vq hv
   simp at this;exact this
  refine⟨g1, ?_,rfl, ?_, ?_,by rw[eh1];simp,by rw[eh1];simp⟩
  · intro i v c hv hc
    have:=nl i v hv
    subst this
    have hc':c=[]:=by
     have:=vq hc
     simp [Az,ints,Ga]at this;exact this
    subst hc'
    exact wz.nil
  · intro i v hv;rw[nl i v hv];simp [AV.id?]
  · intro i j v u _ hv _ id hid;rw[nl i v hv]at hid;simp [AV.id?]at hid
 obtain⟨h2',w2,u2,f2,k2,r2,o2⟩:=Gk hn h.dN y9 ws [] h1 .aP .aP .aP rfl (by rw[eh1];exact(Ext.refl _).alloc _) (by rw[eh1];simp) r0
 have k2':Lp AP.A [0,3,4] AP.f56L3 [(0,x),(3,.aD h.next 0),(4,.int .i64 0)] h1=_:=k2
 obtain⟨h3,w3,u3,f3,k3,r3,o3⟩:=Gn (N:=ws.length) (x:=x) hn (ws.length-1) 1 (Az ws) h2' w2 u2 f2 (by omega) r2 ok (by simp [Az];omega) ln
 have k3':Lp AP.A [0,3,5] AP.f56L2 [(0,x),(3,.aD h.next 0),(5,.int .i64 1)] h2'=_:=k3
 unfold wg
 have wl:=FS.BE (ws.length-1) (Az ws)
 have wl0:(Az ws).W.length=ws.length:=rfl
 generalize hS:FS.yV (ws.length-1) (Az ws)=S at *
 obtain⟨iu,q1,q2,q3,q4,q5,_⟩:=r3.put 1 0 (v:=u3) (c:=ints S.U) rfl rfl (.int .i64 0) rfl (by rw[pY];omega)
 rw[pY]at q1
 have gf:=r3.get
 rw[q1]at gf
 obtain⟨h4,o4,k4,ow4,fl4⟩:=IA (x:=x) (N:=ws.length) (f:=h.next) (iu:=iu) (wv:=w3) (fv:=f3) (n:=S.U.length) (U:=S.U) rfl (by omega) up (by omega) ln h3.next ws.length 0 h3 .aP (by omega) gf q2 (h3.lt _ _ gf) (h3.lt _ _ q2) (vm _) wz.nil r3.H5 (fun j hj=>by simp [AV.id?]at hj)
 have k4':Lp AP.A [0,3,8,9] AP.f56L1 [(0,x),(3,.aD h.next 0),(8,.aP),(9,.int .i64 0)] h3=_:=k4
 have hnx:h.dN.next=h.next:=rfl
 have fl:h4.floor=h.next:=by rw[fl4,o3.floor,o2.floor,eh1];simp
 refine uz (fn:=AP.f56) (h2:=h4) (e:=[(2,o4)]) (vs:=[o4]) rfl rfl rfl ?_ rfl ?_
 · clear k2 k3 k4 r0 r2 r3 ow4 rd y9 ok up o2 o3 q5
   simp (disch:=omega)only[go_sem,vT,AP.f56,hnx,←eh1,sG,k2',k3',k4']
 · exact ow4.yi (fl:=h.next) (m:=14) (t:=true) (by omega)
def CH (u v:AV):Prop:=∀j,u.id?=some j→v.id?≠some j
theorem CH.symm {u v:AV} (a:CH u v):CH v u:=fun j h q=>a j q h
def vV:Nat→List Int→List Int
 |_,[]=>[]
 |i,c::r=>if 0<c then(i:Int)::vV (i+1) r else vV (i+1) r
def v7:List Int→List Int
 |[]=>[]
 |c::r=>if 0<c then c::v7 r else v7 r
theorem wz.y9 {h:H} {v:AV} {cs:List AV} (o:wz 1 h v cs.length cs):Rd h v cs:=⟨o.rd.1,o.rd.2.2⟩
theorem wz.Pq {h:H} {v:AV} {l:List Int} (o:wz 1 h v l.length (ints l)):Rd h v (ints l):=by
 refine wz.y9 ?_
 rw[pY];exact o
theorem Ff {x mv : AV} {C : List Int} (hC : C.length < 1000) (hr : ∀ y ∈ C, 0 ≤ y ∧ y ≤ 2147483647) (h0 : H) (rd : Rd h0 x (ints C)) : ∀ (q p S W : List Int) (h : H) (sv wv : AV), C = p ++ q → Ext h0 h → h.floor = h0.next → h.floor ≤ h.next → wz 1 h sv S.length (ints S) → wz 1 h wv W.length (ints W) → CH sv wv → S.length ≤ p.length → W.length ≤ p.length →
 ∃h' sv' wv',Lp AP.A [0,1,6,7,8] AP.f30L3 [(0,x),(1,mv),(6,sv),(7,wv),(8,.int .i64 p.length)] h=some (.exit 0,[(0,x),(1,mv),(6,sv'),(7,wv'),(8,.int .i64 C.length),(33,.bool false)],h')∧wz 1 h' sv' (S++vV p.length q).length (ints (S++vV p.length q))∧wz 1 h' wv' (W++v7 q).length (ints (W++v7 q))∧CH sv' wv'∧h'.floor=h.floor∧h'.floor≤h'.next
 | [], p, S, W, h, sv, wv, hp, hx, hf, hfl, os, ow, ap, hS, hW => by
   rw[XZ]at hp;subst hp
   have ln:=rd.len
   rw[pY]at ln
   simp only[I]at ln
   refine⟨h,sv,wv,tM ?_,by simpa [vV]using os,by simpa [v7]using ow,ap,rfl,hfl⟩
   simp (disch:=omega)only[go_sem,vT,AP.f30L3,ln]
 | y :: q, p, S, W, h, sv, wv, hp, hx, hf, hfl, os, ow, ap, hS, hW => by
   have ln:=rd.len
   rw[pY]at ln
   simp only[I]at ln
   have hl:C.length=p.length+(q.length+1):=by rw[hp];simp
   obtain⟨ad,a1,a2⟩:=rd.xi
   have b1:=a1 p.length ⟨by omega,by omega⟩
   have hyC:C[p.length]?=some y:=by rw[hp];simp
   have b2:=a2 h hx p.length y hyC
   have yr:=hr y (vq hyC)
   have n1:(((p++[y]).length:Nat):Int)=(p.length:Int)+1:=by simp
   have n2:(p++[y]).length=p.length+1:=by simp
   by_cases c:0<y
   · obtain⟨v1,h1,p1,p2,p3,p4,p5,p6⟩:=os.push hfl (z:=8) (m:=1) (by omega) (by omega) [.int .i64 p.length] rfl rfl (xP (by omega))
     have ow1:wz 1 h1 wv W.length (ints W):=ow.mono p3 fun j hj=>p5 j (fun e=>ap j e hj) (ow.lt hj).2
     have hx1:Ext h0 h1:=fun i d hi=>by
      have:=h0.lt _ _ hi
      rw[p5 i (fun e=>by have:=(os.lt e).1;omega) (by omega),hx i d hi]
     have b3:=a2 h1 hx1 p.length y hyC
     obtain⟨v2,h2,q1,q2,q3,q4,q5,q6⟩:=ow1.push (by omega) (z:=8) (m:=1) (by omega) (by omega) [.int .i64 y] rfl rfl (xP (by omega))
     have hx2:Ext h0 h2:=fun i d hi=>by
      have:=h0.lt _ _ hi
      rw[q5 i (fun e=>by have:=(ow1.lt e).1;omega) (by omega),hx1 i d hi]
     have os2:wz 1 h2 v1 (S++[(p.length:Int)]).length (ints (S++[(p.length:Int)])):=by
      rw[pX,vI]
      exact p2.mono (by omega) fun j hj=>q5 j (fun e=>by rw[p6]at hj;have:=u6 hj;have:=(ow.lt e).2;omega) (p2.lt hj).2
     have ow2:wz 1 h2 v2 (W++[y]).length (ints (W++[y])):=by rw[pX,vI];exact q2
     obtain⟨h',sv',wv',r1,r2,r3,r4,r5,r6⟩:=Ff hC hr h0 rd q (p++[y]) (S++[(p.length:Int)]) (W++[y]) h2 v1 v2 (by rw[hp];simp) hx2 (by omega) (by omega) os2 ow2 (fun j hj e=>by rw[p6]at hj;rw[q6]at e;have:=u6 hj;have:=u6 e;omega) (by simp;omega) (by simp;omega)
     rw[vV,if_pos c,v7,if_pos c]
     rw[n2,XV]at r2
     rw[XV]at r3
     refine⟨h',sv',wv',tN ?_ r1,r2,r3,r4,by omega,r6⟩
     rw[n1]
     clear r1 r2 r3 r4 os ow os2 ow2 ow1 hx hx1 hx2 rd a1 a2 hr p2 p5 q2 q5 ap
     simp (disch:=omega)only[go_sem,vT,AP.f30L3,ln,b1,b2,b3,p1,q1]
   · obtain⟨h',sv',wv',r1,r2,r3,r4,r5,r6⟩:=Ff hC hr h0 rd q (p++[y]) S W h sv wv (by rw[hp];simp) hx hf hfl os ow ap (by simp;omega) (by simp;omega)
     rw[vV,if_neg c,v7,if_neg c]
     rw[n2]at r2
     refine⟨h',sv',wv',tN ?_ r1,r2,r3,r4,by omega,r6⟩
     rw[n1]
     clear r1 r2 r3 r4 os ow hx rd a1 a2 hr ap
     simp (disch:=omega)only[go_sem,vT,AP.f30L3,ln,b1,b2]
def wO:List Int→List Int→List Int→List Int
 |s::ss,d::ds,o=>wO ss ds (o.set s.toNat d)
 |_,_,o=>o
theorem xu:∀(ss ds o:List Int),(wO ss ds o).length=o.length
 |[],_,o=>by simp [wO]
 |s::ss,[],o=>by simp [wO]
 |s::ss,d::ds,o=>by rw[wO,xu ss ds,X6]
def Aa:List Int→Int→Int
 |[],m=>m
 |d::ds,m=>Aa ds (DG m d)
theorem Ext.Df {hb h:H} {o:Nat} (x:Ext hb h) (hn:hb.get o=none) (c:List AV):Ext hb (h.set o c):=fun i d q=>by
 have:i≠o:=fun e=>by rw[e,hn]at q;cases q
 rw[vN this,x i d q]
theorem GL {mv wv dv sv:AV} {S D:List Int} {n oid:Nat} (hS:S.length<1000) (hDS:D.length=S.length) (hn:n<1000) (hr:∀s∈S,0≤s∧s<n) (hb:H) (rds:Rd hb sv (ints S)) (rdd:Rd hb dv (ints D)) (hno:hb.get oid=none):∀(q p s1 s2:List Int) (O:List Int) (m:Int) (h:H),D=p++q→S=s1++s2→s1.length=p.length→Ext hb h→O.length=n→h.get oid=some (ints O)→h.floor≤oid→(∀d∈q,0≤d∧d<1000)→0≤m→
 ∃h',Lp AP.A [1,6,7,9,10,11,12] AP.f30L1 [(1,mv),(6,sv),(7,wv),(9,.aE oid 0 n 1),(10,dv),(11,.int .i64 m),(12,.int .i64 p.length)] h=some (.exit 4,[(1,mv),(6,sv),(7,wv),(9,.aE oid 0 n 1),(10,dv),(11,.int .i64 (Aa q m)),(12,.int .i64 D.length),(103,.bool false)],h')∧h'.get oid=some (ints (wO s2 q O))∧h'.floor=h.floor∧h'.next=h.next∧(∀i,i≠oid→h'.get i=h.get i)
 | [], p, s1, s2, O, m, h, hp, hs, hl, hx, hO, go, hfo, hd, hm => by
   rw[XZ]at hp;subst hp
   have ln:=rdd.len
   rw[pY]at ln
   simp only[I]at ln
   have e:wO s2 [] O=O:=by cases s2<;>rfl
   rw[e]
   refine⟨h,tM ?_,go,rfl,rfl,fun _ _=>rfl⟩
   rw[Aa]
   simp (disch:=omega)only[go_sem,vT,AP.f30L1,ln]
 | d :: q, p, s1, s2, O, m, h, hp, hs, hl, hx, hO, go, hfo, hd, hm => by
   have ln:=rdd.len
   rw[pY]at ln
   simp only[I]at ln
   have hDl:D.length=p.length+(q.length+1):=by rw[hp];simp
   have hSl:S.length=s1.length+s2.length:=by rw[hs];simp
   obtain⟨s,s2,rfl⟩:∃s r,s2=s::r:=by
    cases s2 with
    |nil=>simp at hSl;omega
    |cons s r=>exact⟨s,r,rfl⟩
   have dr:=hd d (by simp)
   have hs':S[p.length]?=some s:=by rw[hs,←hl];simp
   have sr:=hr s (vq hs')
   obtain⟨sn,rfl⟩:=XT sr.1
   obtain⟨asv,a1,a2⟩:=rds.xi
   obtain⟨ad,d1,d2⟩:=rdd.xi
   have b1:=a1 p.length ⟨by omega,by omega⟩
   have b2:=a2 h hx p.length _ hs'
   have c1:=d1 p.length ⟨by omega,by omega⟩
   have c2:=d2 h hx p.length d (by rw[hp];simp)
   have lO:(ints O).length=n:=by rw[pY,hO]
   have es:=xj O sn d
   have tsn:((sn:Nat):Int).toNat=sn:=by omega
   have fr':∀i,i≠oid→(h.set oid (ints (O.set sn d))).get i=h.get i:=fun i hi=>vN hi
   have hx2:=hx.Df hno (ints (O.set sn d))
   have gO:(h.set oid (ints (O.set sn d))).get oid=some (ints (O.set sn d)):=by rw[v9 rfl,go];rfl
   obtain⟨h',k1,k2,k3,k4,k5⟩:=GL hS hDS hn hr hb rds rdd hno q (p++[d]) (s1++[(sn:Int)]) s2 (O.set sn d) (DG m d) (h.set oid (ints (O.set sn d))) (by rw[hp];simp) (by rw[hs];simp) (by simp [hl]) hx2 (by rw[X6,hO]) gO (by simpa using hfo) (fun e he=>hd e (by simp [he])) (by unfold DG;split<;>omega)
   have b1':fM 1 dv (.int .i64 p.length)=some (ad p.length):=c1
   have c3:bQ false 1 (ad p.length) (h.set oid (ints (O.set sn d)))=some (.int .i64 d):=d2 _ hx2 p.length d (by rw[hp];simp)
   have n1:(((p++[d]).length:Nat):Int)=(p.length:Int)+1:=by simp
   rw[wO,tsn,Aa]
   refine⟨h',tN ?_ k1,k2,by rw[k3];simp,by rw[k4];simp,fun i hi=>(k5 i hi).trans (fr' i hi)⟩
   rw[n1]
   have snn:sn<n:=by omega
   clear k1 k2 k3 k4 k5 fr' hx hx2 rds rdd a1 a2 d1 d2 hd hr hs hp hs'
   generalize ints (O.set sn d)=O2 at *
   generalize ints O=O1 at *
   simp (disch:=omega)only[go_sem,vT,AP.f30L1,ln,b1,b2,c1,c2,c3,go,lO,es,HG,El]
def zw (w:Int):Int:=(w+1)/2
def wM (ws:List Int):List Int:=ws.map zw
theorem yR (ws:List Int):(wM ws).length=ws.length:=by simp [wM]
theorem Gt {mv sv ov:AV} {n wid:Nat} (hn:n<1000):∀(q p:List Int) (h:H),p.length+q.length=n→(∀y∈q,0≤y∧y<1000000000000)→h.get wid=some (ints (wM p++q))→h.floor≤wid→h.floor≤h.next→
 ∃h',Lp AP.A [1,6,7,9,13] AP.f30L0 [(1,mv),(6,sv),(7,.aE wid 0 n 1),(9,ov),(13,.int .i64 p.length)] h=some (.exit 6,[(1,mv),(6,sv),(7,.aE wid 0 n 1),(9,ov),(13,.int .i64 n),(129,.bool false)],h')∧h'.get wid=some (ints (wM (p++q)))∧h'.floor=h.floor∧h'.next=h.next∧(∀i,i≠wid→h'.get i=h.get i)
 | [], p, h, hl, hr, hg, hf, hfl => by
   obtain rfl:p.length=n:=by simpa using hl
   refine⟨h,tM ?_,by simpa using hg,rfl,rfl,fun _ _=>rfl⟩
   simp (disch:=omega)only[go_sem,vT,AP.f30L0]
 | y :: q, p, h, hl, hr, hg, hf, hfl => by
   have yr:=hr y (by simp)
   simp only[XO]at hl
   have n1:(((p++[y]).length:Nat):Int)=(p.length:Int)+1:=by simp
   have hp:(wM p).length=p.length:=yR p
   have ix:(ints (wM p++y::q))[p.length]?=some (.int .i64 y):=tu (by rw[X0 (by omega),hp];simp)
   have il:(ints (wM p++y::q)).length=n:=by rw[pY,vI,hp,XO];omega
   have st:(ints (wM p++y::q)).set p.length (.int .i64 (zw y))=ints (wM (p++[y])++q):=by
    rw[xj,Yn _ _ (by omega),hp,YB]
    simp [wM]
   have q1:bj .quo (.int .i64 (y+1)) (.int .i64 2)=some (.int .i64 (zw y)):=by
    rw[sg _ _ _ (by omega),Int.tdiv_eq_ediv_of_nonneg (by omega),wi (by omega)];rfl
   have g2:(h.set wid (ints (wM (p++[y])++q))).get wid=some (ints (wM (p++[y])++q)):=by rw[v9 rfl,hg];rfl
   obtain⟨h',k1,k2,k3,k4,k5⟩:=Gt (mv:=mv) (sv:=sv) (ov:=ov) hn q (p++[y]) (h.set wid (ints (wM (p++[y])++q))) (by simp;omega) (fun e he=>hr e (by simp [he])) g2 (by simpa using hf) (by simpa using hfl)
   refine⟨h',tN ?_ k1,by rw[k2];simp,by rw[k3];simp,by rw[k4];simp,fun i hi=>by rw[k5 i hi,vN hi]⟩
   rw[n1]
   clear k1 k2 k3 k4 k5 g2 hr
   generalize ints (wM p++y::q)=A at *
   generalize ints (wM (p++[y])++q)=B at *
   simp (disch:=omega)only[go_sem,vT,AP.f30L0,ix,il,st,q1,hg]
def GO (ws:List Int):Prop:=ws=[]∨(1≤ws.length∧ws.length≤288∧(∀k,k<ws.length-1→(FS.yV k (Az ws)).ok)∧F4 (FS.yV (ws.length-1) (Az ws)).U∧(FS.yV (ws.length-1) (Az ws)).U.length=(FS.yV (ws.length-1) (Az ws)).W.length)
theorem Lx (U:List Int):∀(m:Nat) (j:Int),Ap U m j≤m
 |0,j=>vm _
 | m + 1, j => by
   rw[Ap]
   split
   · have:=Lx U m (U.getD j.toNat (-1));omega
   · omega
theorem DZ {ws:List Int} (o:GO ws):∀d∈wg ws,0≤d∧d<1000:=by
 intro d hd
 rcases o with rfl|⟨h1,h2,_,_,h5⟩
 · simp [wg,Ch]at hd
 · unfold wg Ch at hd
   obtain⟨i,_,rfl⟩:=X1.1 hd
   have:=Lx (FS.yV (ws.length-1) (Az ws)).U (FS.yV (ws.length-1) (Az ws)).U.length ((FS.yV (ws.length-1) (Az ws)).U.getD i (-1))
   rw[h5,FS.BE]at this
   rw[h5,FS.BE]
   have:(Az ws).W.length=ws.length:=rfl
   omega
theorem xH (ws:List Int):(wg ws).length=ws.length:=M4 _ _
theorem LU (h:H) (x:AV) (ws:List Int) (rd:Rd h x (ints ws)) (o:GO ws):aR AP.A 56 [x] h=some (yJ 1 ws.length (ints (wg ws)),h):=by
 rcases o with rfl|⟨h1,h2,h3,h4,h5⟩
 · have ln:=rd.len
   simp only[I,pY]at ln
   have ln':jc false x=some (.int .i64 0):=ln
   have l3:∀g:H,Lp AP.A [0,3,4] AP.f56L3 [(0,x),(3,.aD h.next 0),(4,.int .i64 0)] g=some (.exit 0,[(0,x),(3,.aD h.next 0),(4,.int .i64 0),(17,.bool false)],g):=fun g=>by
    refine tM ?_
    simp (disch:=omega)only[go_sem,vT,AP.f56L3,ln']
   have l2:∀g:H,Lp AP.A [0,3,5] AP.f56L2 [(0,x),(3,.aD h.next 0),(5,.int .i64 1)] g=some (.exit 2,[(0,x),(3,.aD h.next 0),(5,.int .i64 1),(29,.bool false)],g):=fun g=>by
    refine tM ?_
    simp (disch:=omega)only[go_sem,vT,AP.f56L2,ln']
   have l1:∀g:H,Lp AP.A [0,3,8,9] AP.f56L1 [(0,x),(3,.aD h.next 0),(8,.aP),(9,.int .i64 0)] g=some (.exit 4,[(0,x),(3,.aD h.next 0),(8,.aP),(9,.int .i64 0),(78,.bool false)],g):=fun g=>by
    refine tM ?_
    simp (disch:=omega)only[go_sem,vT,AP.f56L1,ln']
   have hnx:h.dN.next=h.next:=rfl
   refine uz (fn:=AP.f56) (h2:=h.dN.alloc [.aP,.aP,.aP]) (e:=[(2,.aP)]) (vs:=[.aP]) rfl rfl rfl ?_ rfl rfl
   simp (disch:=omega)only[go_sem,vT,AP.f56,hnx,sG,l1,l2,l3]
 · exact M5 h x ws h1 (by omega) rd h3 h4 h5
def zc (S:List Int):Nat→List Int→List Int→List Int
 |0,W,O=>wO S (wg W) O
 |K+1,W,O=>zc S K (wM W) (wO S (wg W) O)
theorem Ez {h:H} {v:AV} {k:Nat} {cs:List AV} (o:wz 1 h v k cs) (hk:0<k):∃id,v=.aE id 0 k 1∧h.get id=some cs∧h.floor≤id:=by
 rcases o.2 with ⟨_,q⟩|⟨id,q1,q2,q3,_⟩
 · omega
 · exact⟨id,q1,q2,q3⟩
theorem Nw {S W O:List Int} {h:H} {sv wv:AV} {n oid:Nat} {most:Int} (hW:W.length=S.length) (hS:S.length≤288) (hn:n≤288) (hO:O.length=n) (hr:∀s∈S,0≤s∧s<n) (hfl:h.floor≤h.next) (os:wz 1 h sv S.length (ints S)) (ow:wz 1 h wv W.length (ints W)) (go:h.get oid=some (ints O)) (hfo:h.floor≤oid) (ap:CH sv wv) (ns:sv.id?≠some oid) (nw:wv.id?≠some oid) (o:GO W) (hm:1≤most∧most≤15) (wr:∀y∈W,0≤y∧y<1000000000000):
 (Aa (wg W) 0≤most→∃h',aL (aR AP.A) bq AP.f30L2 (ay [(1,.int .i64 most),(6,sv),(7,wv),(9,.aE oid 0 n 1)] [1,6,7,9]) h=some (.ret,[(4,.aE oid 0 n 1),(5,.int .i64 0)],h')∧h'.get oid=some (ints (wO S (wg W) O))∧h'.floor=h.floor)∧
 (most<Aa (wg W) 0→W≠[]→∃h',aL (aR AP.A) bq AP.f30L2 (ay [(1,.int .i64 most),(6,sv),(7,wv),(9,.aE oid 0 n 1)] [1,6,7,9]) h=some (.normal,[(1,.int .i64 most),(6,sv),(7,wv),(9,.aE oid 0 n 1)],h')∧h'.get oid=some (ints (wO S (wg W) O))∧wz 1 h' sv S.length (ints S)∧wz 1 h' wv (wM W).length (ints (wM W))∧h'.floor=h.floor∧h'.floor≤h'.next):=by
 have k1:=LU h wv W ow.Pq o
 have dl:=xH W
 have dr:=DZ o
 obtain⟨D,eD⟩:∃D,D=wg W:=⟨_,rfl⟩
 rw[←eD]at k1 dl dr ⊢
 obtain⟨hb,ehb⟩:∃g,g=h.del oid:=⟨_,rfl⟩
 have hbn:hb.get oid=none:=by rw[ehb,H.dQ,if_pos rfl]
 have ext:Ext hb h:=fun i c q=>by
  rw[ehb,H.dQ]at q
  split at q
  · cases q
  · exact q
 have hbk:∀i,i≠oid→hb.get i=h.get i:=fun i hi=>by rw[ehb,H.dQ,if_neg hi]
 have rs:Rd hb sv (ints S):=(os.mono (by rw[ehb];simp) fun i q=>hbk i (fun e=>ns (by rw[q,e]))).Pq
 have rdd:Rd hb (yJ 1 W.length (ints D)) (ints D):=by
  have:=Fv (n:=1) (k:=D.length) (h:=hb) (cs:=ints D) (by rw[pY];omega)
  rw[dl]at this
  exact⟨by have:=this.1;rw[pY,dl];exact this,this.2.2⟩
 obtain⟨h1,L1,g1,f1,n1,t1⟩:=GL (mv:=.int .i64 most) (wv:=wv) (O:=O) (oid:=oid) (h:=h) (s1:=[]) (p:=[]) (q:=D) (s2:=S) (m:=0) (by omega) (dl.trans hW) (by omega) hr hb rs rdd hbn rfl rfl rfl ext hO go hfo dr (by omega)
 have L1':Lp AP.A [1,6,7,9,10,11,12] AP.f30L1 [(1,.int .i64 most),(6,sv),(7,wv),(9,.aE oid 0 n 1),(10,yJ 1 W.length (ints D)),(11,.int .i64 0),(12,.int .i64 0)] h=_:=L1
 constructor
 · intro c
   refine⟨h1, ?_,g1,f1⟩
   clear L1 rs rdd os ow dr hr wr
   generalize yJ 1 W.length (ints D)=dv at *
   generalize Aa D 0=M at *
   simp (disch:=omega)only[go_sem,vT,AP.f30L2,k1,sG,L1',XS c]
 · intro c hne
   have hWp:0<W.length:=Yv.2 hne
   obtain⟨wid,q1,q2,q3⟩:=Ez ow hWp
   have hwo:wid≠oid:=fun e=>nw (by rw[q1,e];rfl)
   have hsw:∀j,sv.id?=some j→j≠wid:=fun j hj e=>ap j hj (by rw[q1,e];rfl)
   obtain⟨h2,L2,g2,f2,n2,t2⟩:=Gt (mv:=.int .i64 most) (sv:=sv) (ov:=.aE oid 0 n 1) (n:=W.length) (wid:=wid) (by omega) W [] h1 (by simp) wr (by rw[t1 wid hwo,q2];rfl) (by omega) (by omega)
   have L2':Lp AP.A [1,6,7,9,13] AP.f30L0 [(1,.int .i64 most),(6,sv),(7,.aE wid 0 W.length 1),(9,.aE oid 0 n 1),(13,.int .i64 0)] h1=_:=L2
   have os2:wz 1 h2 sv S.length (ints S):=os.mono (by omega) fun j hj=>by
    rw[t2 j (hsw j hj),t1 j (fun e=>ns (by rw[hj,e]))]
   have ow2:wz 1 h2 wv (wM W).length (ints (wM W)):=by
    rw[yR]
    exact⟨by rw[pY,yR];omega,.inr ⟨wid,q1,by simpa using g2,by omega,hWp⟩⟩
   refine⟨h2, ?_,by rw[t2 oid hwo.symm,g1],os2,ow2,by omega,by omega⟩
   clear L1 L2 rs rdd os ow os2 ow2 dr hr wr
   rw[q1]at L1' k1 ⊢
   have c':¬Aa D 0≤most:=by omega
   generalize yJ 1 W.length (ints D)=dv at *
   generalize Aa D 0=M at *
   simp (disch:=omega)only[go_sem,vT,AP.f30L2,k1,sG,L1',L2',XP c']
inductive yc (most:Int):Nat→List Int→Prop
 |last {W:List Int}:GO W→Aa (wg W) 0≤most→yc most 0 W
 |more {K:Nat} {W:List Int}:GO W→most<Aa (wg W) 0→W≠[]→yc most K (wM W)→yc most (K+1) W
theorem Mb {W:List Int} (wr:∀y∈W,0≤y∧y<1000000000000):∀y∈wM W,0≤y∧y<1000000000000:=by
 intro y hy
 obtain⟨z,hz,rfl⟩:=X1.1 hy
 have:=wr z hz
 unfold zw;omega
theorem K8 {S:List Int} {sv wv:AV} {n oid:Nat} {most:Int} (hS:S.length≤288) (hn:n≤288) (hr:∀s∈S,0≤s∧s<n) (ap:CH sv wv) (ns:sv.id?≠some oid) (nw:wv.id?≠some oid) (hm:1≤most∧most≤15):∀(K:Nat) (W O:List Int) (h:H),yc most K W→W.length=S.length→O.length=n→h.floor≤h.next→wz 1 h sv S.length (ints S)→wz 1 h wv W.length (ints W)→h.get oid=some (ints O)→h.floor≤oid→(∀y∈W,0≤y∧y<1000000000000)→
 ∃h',Lp AP.A [1,6,7,9] AP.f30L2 [(1,.int .i64 most),(6,sv),(7,wv),(9,.aE oid 0 n 1)] h=some (.ret,[(4,.aE oid 0 n 1),(5,.int .i64 0)],h')∧h'.get oid=some (ints (zc S K W O))∧h'.floor=h.floor
 | 0, W, O, h, r, hW, hO, hfl, os, ow, go, hfo, wr => by
   cases r with
   | last o c =>
     obtain⟨h',k,g,f⟩:=(Nw hW hS hn hO hr hfl os ow go hfo ap ns nw o hm wr).1 c
     exact⟨h',uh k,g,f⟩
 | K + 1, W, O, h, r, hW, hO, hfl, os, ow, go, hfo, wr => by
   cases r with
   | more o c hne r =>
     obtain⟨h1,k,g,os1,ow1,f,fl⟩:=(Nw hW hS hn hO hr hfl os ow go hfo ap ns nw o hm wr).2 c hne
     obtain⟨h',k2,g2,f2⟩:=K8 hS hn hr ap ns nw hm K (wM W) _ h1 r (by rw[yR,hW]) (by rw[xu,hO]) fl os1 ow1 g (by omega) (Mb wr)
     exact⟨h',tN k k2,g2,by omega⟩
def Al (S:List Int):List Int:=if S.length=1 then(if 0<S.getD 0 0 then [0,S.getD 0 0]else S++[1])else S
def BH (S W:List Int):List Int:=if S.length=1 then(if 0<S.getD 0 0 then [1,W.getD 0 0]else W++[1])else W
theorem O0 {S W:List Int} (h:W.length=S.length):(BH S W).length=(Al S).length:=by
 unfold BH Al
 split
 · split
   · rfl
   · simp [h]
 · exact h
theorem Wc {x : AV} {most : Int} {S W : List Int} {h : H} {sv wv : AV} (hl : W.length = S.length) (hS : S.length ≤ 288) (hfl : h.floor ≤ h.next) (os : wz 1 h sv S.length (ints S)) (ow : wz 1 h wv W.length (ints W)) (ap : CH sv wv) :
 ∃h' sv' wv',aL (aR AP.A) bq (at_ 4 AP.f30.body) [(0,x),(1,.int .i64 most),(6,sv),(7,wv)] h=some (.normal,[(0,x),(1,.int .i64 most),(6,sv'),(7,wv')],h')∧wz 1 h' sv' (Al S).length (ints (Al S))∧wz 1 h' wv' (BH S W).length (ints (BH S W))∧CH sv' wv'∧h'.floor=h.floor∧h'.floor≤h'.next:=by
 have ln:=os.rd.len
 by_cases c1:S.length=1
 · obtain⟨s0,rfl⟩:∃s,S=[s]:=by
    match S,c1 with
    |[s],_=>exact⟨s,rfl⟩
   obtain⟨w0,rfl⟩:∃s,W=[s]:=by
    match W,hl with
    |[s],_=>exact⟨s,rfl⟩
   obtain⟨sid,q1,q2,q3⟩:=Ez os (by simp)
   obtain⟨wid,p1,p2,p3⟩:=Ez ow (by simp)
   simp only[XO,XR,ints,XX,Yk,I]at q1 q2 p1 p2
   subst q1
   subst p1
   by_cases c2:0<s0
   · have e1:Al [s0]=[0,s0]:=by simp [Al,c2]
     have e2:BH [s0] [w0]=[1,w0]:=by simp [BH,c2]
     rw[e1,e2]
     refine⟨(h.alloc [.int .i64 0,.int .i64 s0]).alloc [.int .i64 1,.int .i64 w0],.aE h.next 0 2 1,.aE (h.next+1) 0 2 1, ?_,⟨rfl,.inr ⟨h.next,rfl, ?_,by simpa using hfl,by simp⟩⟩,⟨rfl,.inr ⟨h.next+1,rfl, ?_,by simp;omega,by simp⟩⟩, ?_,by simp,by simp;omega⟩
     · have w2:=h.lt _ _ p2
       simp (disch:=first|omega|(simp only[xk,XO,XR,vr,Nat.reduceAdd];first|done|omega|fail)|(simp (disch:=first|omega|(simp only[xk,XO,XR,vr,Nat.reduceAdd];first|done|omega|fail)|fail)only[xk,Bb,XU,XO,XR,vr,Nat.reduceAdd];done)|fail)only[go_sem,vT,Ba,AP.f30,q2,p2,XS c2]
     · rw[vW (by simp),vZ rfl];rfl
     · rw[vZ (by simp)];rfl
     · intro j hj e;have:=u6 hj;have:=u6 e;omega
   · have e1:Al [s0]=[s0,1]:=by simp [Al,c2]
     have e2:BH [s0] [w0]=[w0,1]:=by simp [BH,c2]
     rw[e1,e2]
     obtain⟨v1,h1,a1,a2,a3,a4,a5,a6⟩:=os.push hfl (z:=8) (m:=1) (by omega) (by omega) [.int .i64 1] rfl rfl (xP (by simp))
     have ow1:wz 1 h1 (.aE wid 0 1 1) 1 (ints [w0]):=ow.mono a3 fun j hj=>a5 j (fun e=>ap j e hj) (ow.lt hj).2
     obtain⟨v2,h2,b1,b2,b3,b4,b5,b6⟩:=ow1.push (by omega) (z:=8) (m:=1) (by omega) (by omega) [.int .i64 1] rfl rfl (xP (by simp))
     refine⟨h2,v1,v2, ?_, ?_,b2,fun j hj e=>by rw[a6]at hj;rw[b6]at e;have:=u6 hj;have:=u6 e;omega,by omega,by omega⟩
     · clear os ow ow1 ap a2 b2 a5 b5
       simp only[XO,XR]at a1 b1 ln
       simp (disch:=omega)only[go_sem,vT,AP.f30,xR,xW,ln,q2,p2,a1,b1,XP c2]
     · exact a2.mono b3 fun j hj=>b5 j (fun e=>by rw[a6]at hj;have:=u6 hj;have:=u6 e;have:=h.lt _ _ p2;omega) (a2.lt hj).2
 · have e1:Al S=S:=by simp [Al,c1]
   have e2:BH S W=W:=by simp [BH,c1]
   rw[e1,e2]
   refine⟨h,sv,wv, ?_,os,ow,ap,rfl,hfl⟩
   have c1':¬((S.length:Int)=1):=by omega
   clear os ow ap
   simp (disch:=omega)only[go_sem,vT,AP.f30,xR,xW,ln]
theorem wG:∀(i:Nat) (C:List Int),(vV i C).length=(v7 C).length
 |i,[]=>rfl
 | i, c :: r => by
   rw[vV,v7]
   split
   · simp [wG (i+1) r]
   · exact wG (i+1) r
theorem xI:∀(i:Nat) (C:List Int),(vV i C).length≤C.length
 |i,[]=>vm _
 | i, c :: r => by
   have:=xI (i+1) r
   rw[vV]
   split<;>simp<;>omega
theorem yg:∀(i:Nat) (C:List Int),∀s∈vV i C,(i:Int)≤s∧s<i+C.length
 |i,[],s,h=>by simp [vV]at h
 | i, c :: r, s, h => by
   rw[vV]at h
   split at h
   · rcases vF.1 h with q|q
     · subst q;simp;omega
     · have:=yg (i+1) r s q;simp only[XO];omega
   · have:=yg (i+1) r s h;simp only[XO];omega
theorem zm:∀(C:List Int),∀y∈v7 C,y∈C∧0<y
 |[],y,h=>by simp [v7]at h
 | c :: r, y, h => by
   rw[v7]at h
   split at h
   · rcases vF.1 h with q|q
     · subst q;exact⟨by simp,by assumption⟩
     · have:=zm r y q;exact⟨by simp [this.1],this.2⟩
   · have:=zm r y h;exact⟨by simp [this.1],this.2⟩
theorem Jt {S : List Int} {n : Nat} (hn : 2 ≤ n) (h : ∀ s ∈ S, 0 ≤ s ∧ s < n) : ∀ s ∈ Al S, 0 ≤ s ∧ s < n := by
 intro s hs
 unfold Al at hs
 split at hs
 · split at hs
   · rename_i h1 h2
     rcases vF.1 hs with q|q
     · subst q;omega
     · simp at q
       subst q
       match S,h1 with
       |[t],_=>exact h t (by simp)
   · rcases Ya.1 hs with q|q
     · exact h s q
     · simp at q;subst q;omega
 · exact h s hs
theorem NI {S W : List Int} (hl : W.length = S.length) (h : ∀ y ∈ W, 0 ≤ y ∧ y < 1000000000000) : ∀ y ∈ BH S W, 0 ≤ y ∧ y < 1000000000000 := by
 intro s hs
 unfold BH at hs
 split at hs
 · split at hs
   · rename_i h1 h2
     rcases vF.1 hs with q|q
     · subst q;omega
     · simp at q
       subst q
       rw[←hl]at h1
       match W,h1 with
       |[t],_=>exact h t (by simp)
   · rcases Ya.1 hs with q|q
     · exact h s q
     · simp at q;subst q;omega
 · exact h s hs
theorem Ec {S:List Int} {n:Nat} (hn:2≤n) (h:S.length≤n):(Al S).length≤n:=by
 unfold Al
 split
 · split
   · simpa using hn
   · simp;omega
 · exact h
theorem yd (n:Nat):yE n [.int .i64 0]=ints (List.replicate n 0):=by
 unfold yE;rw[HR];simp [ints,I]
def xm (C:List Int):List Int:=Al (vV 0 C)
def xE (C:List Int):List Int:=BH (vV 0 C) (v7 C)
theorem Hx (C:List Int):(xE C).length=(xm C).length:=O0 (wG 0 C).symm
def xe (C:List Int) (K:Nat):List Int:=zc (xm C) K (xE C) (List.replicate C.length 0)
theorem Cr (h:H) (x:AV) (C:List Int) (m K:Nat) (h2:2≤C.length) (hn:C.length≤288) (rd:Rd h x (ints C)) (hm:1≤m∧m≤15) (hr:∀y∈C,0≤y∧y≤2147483647) (hs:(xm C).length≤2^m) (ro:yc m K (xE C)):
 aR AP.A 30 [x,.int .i64 m] h=some (.bM [yJ 1 C.length (ints (xe C K)),.int .i64 0],h):=by
 have y9:Rd h.dN x (ints C):=rd.mono (vX h)
 have ln:=rd.len
 rw[pY]at ln
 simp only[I]at ln
 obtain⟨h1,sv,wv,L1,os,ow,ap,f1,fl1⟩:=Ff (mv:=.int .i64 m) (by omega) hr h.dN y9 C [] [] [] h.dN .aP .aP rfl (Ext.refl _) rfl (by simp) wz.nil wz.nil (fun j hj=>by simp [AV.id?]at hj) (by simp) (by simp)
 have L1':Lp AP.A [0,1,6,7,8] AP.f30L3 [(0,x),(1,.int .i64 m),(6,.aP),(7,.aP),(8,.int .i64 0)] h.dN=_:=L1
 simp only[Yr,XR]at os ow
 have sl:=xI 0 C
 obtain⟨h2',sv2,wv2,P,os2,ow2,ap2,f2,fl2⟩:=Wc (x:=x) (most:=m) (wG 0 C).symm (by omega) fl1 os ow ap
 change wz 1 h2' sv2 (xm C).length (ints (xm C))at os2
 change wz 1 h2' wv2 (xE C).length (ints (xE C))at ow2
 have hSl:(xm C).length≤C.length:=Ec h2 sl
 have hSr:∀s∈xm C,0≤s∧s<C.length:=Jt h2 fun s hs=>by have:=yg 0 C s hs;omega
 have hWr:∀y∈xE C,0≤y∧y<1000000000000:=NI (wG 0 C).symm fun y hy=>by
  have:=hr y (zm C y hy).1;omega
 have hWS:=Hx C
 obtain⟨h3,eh3⟩:∃g,g=h2'.alloc (yE C.length [.int .i64 0]):=⟨_,rfl⟩
 have g3:h3.get h2'.next=some (ints (List.replicate C.length 0)):=by rw[eh3,vZ rfl,yd]
 have os3:wz 1 h3 sv2 (xm C).length (ints (xm C)):=os2.mono (by rw[eh3];simp) fun j hj=>by rw[eh3,vW (by have:=(os2.lt hj).2;omega)]
 have ow3:wz 1 h3 wv2 (xE C).length (ints (xE C)):=ow2.mono (by rw[eh3];simp) fun j hj=>by rw[eh3,vW (by have:=(ow2.lt hj).2;omega)]
 have fl3:h3.floor=h.next:=by rw[eh3];simp [f2,f1]
 obtain⟨h4,L4,g4,f4⟩:=K8 (n:=C.length) (oid:=h2'.next) (most:=m) (by omega) hn hSr ap2 (fun q=>by have:=(os2.lt q).2;omega) (fun q=>by have:=(ow2.lt q).2;omega) (by omega) K (xE C) (List.replicate C.length 0) h3 ro hWS (by simp) (by rw[eh3];simp;omega) os3 ow3 g3 (by rw[eh3];simp;omega) hWr
 have s1:pF .shl .i64 1 (m:Int)=some (.int .i64 ((2^m:Nat):Int)):=by
  have:=ym (a:=1) (s:=m) (by omega) (by
   have:2^m≤2^15:=XY (by omega) hm.2
   omega)
  rwa [Nat.one_mul]at this
 have lS:jc false sv2=some (.int .i64 (xm C).length):=os2.rd.len
 have t5:aL (aR AP.A) bq (Lv 5 AP.f30.body) [(0,x),(1,.int .i64 m),(6,sv2),(7,wv2)] h2'=some (.ret,[(4,.aE h2'.next 0 C.length 1),(5,.int .i64 0)],h4):=by
  clear os ow os2 ow2 os3 ow3 rd y9 hSr hWr ro hr L1 P
  generalize 2^m=M at *
  generalize (xm C).length=sL at *
  simp (disch:=omega)only[go_sem,vT,AP.f30,Oe,Od,lS,s1,ln,←eh3,sG,L4]
 have lo:(xe C K).length=C.length:=by
  unfold xe
  have:∀(K:Nat) (S W O:List Int),(zc S K W O).length=O.length:=by
   intro K
   induction K with
   |zero=>intro S W O;rw[zc,xu]
   |succ K ih=>intro S W O;rw[zc,ih,xu]
  rw[this];simp
 have ow4:wz 1 h4 (.aE h2'.next 0 C.length 1) C.length (ints (xe C K)):=⟨by rw[pY,lo];omega,.inr ⟨h2'.next,rfl,g4,by rw[f4,fl3];have:=fl2;rw[f2,f1]at this;simpa using this,by omega⟩⟩
 refine uz (fn:=AP.f30) (h2:=h4) (e:=[(4,.aE h2'.next 0 C.length 1),(5,.int .i64 0)]) (vs:=[.aE h2'.next 0 C.length 1,.int .i64 0]) rfl rfl rfl ?_ rfl ?_
 · have hb:AP.f30.body=.seq (at_ 0 AP.f30.body) (.seq (at_ 1 AP.f30.body) (.seq (at_ 2 AP.f30.body) (.seq (at_ 3 AP.f30.body) (.seq (at_ 4 AP.f30.body) (Lv 5 AP.f30.body))))):=rfl
   have a0:aL (aR AP.A) bq (at_ 0 AP.f30.body) (params 0 [x,.int .i64 m]) h.dN=some (.normal,[(0,x),(1,.int .i64 m)],h.dN):=by
    simp (disch:=omega)only[go_sem,vT,AP.f30,xR,xW]
   have a1:aL (aR AP.A) bq (at_ 1 AP.f30.body) [(0,x),(1,.int .i64 m)] h.dN=some (.normal,[(0,x),(1,.int .i64 m)],h.dN):=by
    clear os ow os2 ow2 os3 ow3 rd y9 hSr hWr ro hr L1 P t5
    simp (disch:=omega)only[go_sem,vT,AP.f30,xR,xW,ln]
   have a2:aL (aR AP.A) bq (at_ 2 AP.f30.body) [(0,x),(1,.int .i64 m)] h.dN=some (.normal,[(0,x),(1,.int .i64 m),(6,.aP),(7,.aP)],h.dN):=by
    simp (disch:=omega)only[go_sem,vT,AP.f30,xR,xW]
   have a3:aL (aR AP.A) bq (at_ 3 AP.f30.body) [(0,x),(1,.int .i64 m),(6,.aP),(7,.aP)] h.dN=some (.normal,[(0,x),(1,.int .i64 m),(6,sv),(7,wv)],h1):=by
    simp (disch:=omega)only[go_sem,vT,AP.f30,xR,xW,sG,L1']
   rw[hb,se,a0,sZ,se,a1,sZ,se,a2,sZ,se,a3,sZ,se,P,sZ,t5]
 · have s1:=ow4.yi (fl:=h.next) (m:=13) (t:=true) (by omega)
   show(fD (snap h4.get h.next 15 true) [.aE h2'.next 0 C.length 1,.int .i64 0]).bind _=_
   simp only[fD,s1,vi]
   rfl
theorem Fb (W : List Int) (F : List Bool) : ∀ (m i : Nat) (a : Int), (a = -1 ∧ (∀ j, j < i → F.getD j false = false)) ∨ (∃ k : Nat, a = k ∧ k < i ∧ F.getD k false = true ∧ ∀ j, j < i → F.getD j false = true → W.getD k 0 ≤ W.getD j 0) →
 (xn W F m i a= -1∧(∀j,j<i+m→F.getD j false=false))∨(∃k:Nat,xn W F m i a=k∧k<i+m∧F.getD k false=true∧∀j,j<i+m→F.getD j false=true→W.getD k 0≤W.getD j 0)
 |0,i,a,h=>by simpa [xn]using h
 | m + 1, i, a, h => by
   rw[xn]
   have e:i+(m+1)=i+1+m:=by omega
   rw[e]
   refine Fb W F m (i+1) _ ?_
   by_cases c:F.getD i false=true∧(a<0∨W.getD i 0<W.getD a.toNat 0)
   · rw [if_pos c]
     refine .inr ⟨i,rfl,by omega,c.1,fun j hj hf=> ?_⟩
     by_cases q:j=i
     · subst q;exact Yq _
     · rcases h with ⟨_,h2⟩|⟨k,rfl,h1,h2,h3⟩
       · rw[h2 j (by omega)]at hf;cases hf
       · have:=h3 j (by omega) hf
         have tk:((k:Nat):Int).toNat=k:=by omega
         rw[tk]at c
         have:=c.2
         omega
   · rw [if_neg c]
     rcases h with ⟨rfl,h2⟩|⟨k,rfl,h1,h2,h3⟩
     · refine .inl ⟨rfl,fun j hj=> ?_⟩
       by_cases q:j=i
       · subst q
         cases e:F.getD j false with
         |false=>rfl
         |true=>exact absurd ⟨e,.inl (by omega)⟩ c
       · exact h2 j (by omega)
     · refine .inr ⟨k,rfl,by omega,h2,fun j hj hf=> ?_⟩
       by_cases q:j=i
       · subst q
         have tk:((k:Nat):Int).toNat=k:=by omega
         rw[tk]at c
         have:¬(W.getD j 0<W.getD k 0):=fun x=>c ⟨hf,.inr x⟩
         omega
       · exact h3 j (by omega) hf
theorem Cp {W:List Int} {F:List Bool} (hl:F.length=W.length) {i:Nat} (hi:F.getD i false=true):0≤xn W F W.length 0 (-1)∧wW W F<W.length∧F.getD (wW W F) false=true∧∀j,F.getD j false=true→W.getD (wW W F) 0≤W.getD j 0:=by
 have hiL:∀j,F.getD j false=true→j<F.length:=by
  intro j hj
  rw[XN]at hj
  cases e:F[j]? with
  |none=>rw[e]at hj;cases hj
  |some b=>exact(vh.1 e).1
 rcases Fb W F W.length 0 (-1) (.inl ⟨rfl,fun j hj=>by omega⟩)with ⟨_,h2⟩|⟨k,h1,h2,h3,h4⟩
 · have:=h2 i (by have:=hiL i hi;omega)
   rw[hi]at this;cases this
 · have ek:wW W F=k:=by unfold wW;rw[h1];omega
   rw[ek]
   exact⟨by omega,by omega,h3,fun j hj=>h4 j (by have:=hiL j hj;omega) hj⟩
def O5 (U:List Int):Nat→Nat→Nat→Prop
 |0,i,r=>i=r
 |d+1,i,r=>∃j:Nat,U[i]?=some (j:Int)∧O5 U d j r
theorem Fp {U:List Int}:∀{d i r:Nat} {j:Nat},O5 U d i r→U[r]?=some (j:Int)→O5 U (d+1) i j
 | 0, i, r, j, h, hj => by
   have:i=r:=h
   subst this
   exact⟨j,hj,rfl⟩
 |d+1,i,r,j,⟨k,h1,h2⟩,hj=>⟨k,h1,Fp h2 hj⟩
theorem HO {U:List Int} (up:F4 U):∀{d i r:Nat},O5 U d i r→U.getD r (-1)= -1→∀m,d≤m→Ap U m (U.getD i (-1))=d
 | 0, i, r, h, hr, m, hm => by
   have:i=r:=h
   subst this
   rw[hr]
   cases m with
   |zero=>rfl
   |succ m=>rw[Ap,if_neg (by omega)]
 | d + 1, i, r, ⟨j, h1, h2⟩, hr, m, hm => by
   obtain⟨m,rfl⟩:∃k,m=k+1:=⟨m-1,by omega⟩
   have e:U.getD i (-1)=(j:Int):=by rw[XN,h1];rfl
   rw[e,Ap,if_pos (by omega)]
   have tj:((j:Nat):Int).toNat=j:=by omega
   rw[tj,HO up h2 hr m (by omega)]
theorem HN {U:List Int} (up:F4 U):∀{d i r:Nat},O5 U d i r→i+d≤r
 | 0, i, r, h => by
   have:i=r:=h
   omega
 | d + 1, i, r, ⟨j, h1, h2⟩ => by
   have:=HN up h2
   have hi:=(vh.1 h1).1
   have e:U.getD i (-1)=(j:Int):=by rw[XN,h1];rfl
   have:=up i hi
   rw[e]at this
   omega
def z7 (U:List Int) (a b:Nat):List Int:=(U.set a U.length).set b U.length++[-1]
theorem GA (U:List Int) (a b:Nat):(z7 U a b).length=U.length+1:=by simp [z7]
theorem DE {U:List Int} {a b i:Nat} (hi:i<U.length) (ha:a≠i) (hb:b≠i):(z7 U a b)[i]?=U[i]?:=by
 unfold z7
 rw[X2 (by simpa using hi),X8,if_neg hb,X8,if_neg ha]
theorem K3 {U:List Int} {a b:Nat} (ha:a<U.length):(z7 U a b)[a]?=some (U.length:Int):=by
 unfold z7
 rw[X2 (by simpa using ha),X8]
 split
 · rename_i e;subst e;simp [ha]
 · rw[X8,if_pos rfl,if_pos ha]
theorem K4 {U:List Int} {a b:Nat} (hb:b<U.length):(z7 U a b)[b]?=some (U.length:Int):=by
 unfold z7
 rw[X2 (by simpa using hb),X8,if_pos rfl,if_pos (by simpa using hb)]
theorem K5 {U:List Int} {a b:Nat}:(z7 U a b)[U.length]?=some (-1):=by
 unfold z7
 rw[X0 (by simp)];simp
theorem De {U:List Int} {a b:Nat} (ha:U[a]?=some (-1)) (hb:U[b]?=some (-1)):∀{d i r:Nat},O5 U d i r→O5 (z7 U a b) d i r
 |0,i,r,h=>h
 | d + 1, i, r, ⟨j, h1, h2⟩ => by
   refine⟨j, ?_,De ha hb h2⟩
   rw[DE (vh.1 h1).1 (fun e=>by rw[e,h1]at ha;have:=u6 ha;omega) (fun e=>by rw[e,h1]at hb;have:=u6 hb;omega),h1]
theorem MH {U : List Int} {a b : Nat} (ha : a < U.length) (hb : b < U.length) (up : F4 U) : F4 (z7 U a b) := by
 intro j hj
 rw[GA]at hj ⊢
 by_cases e:j=U.length
 · subst e
   left
   rw[XN,K5];rfl
 · by_cases ea:a=j
   · subst ea
     right
     rw[XN,K3 ha]
     simp;omega
   · by_cases eb:b=j
     · subst eb
       right
       rw[XN,K4 hb]
       simp;omega
     · have:=up j (by omega)
       rw[XN,DE (by omega) ea eb,←XN]
       omega
theorem FS.Vm (s:FS):s.FY.U=z7 s.U s.a s.b:=rfl
abbrev Tr:=Nat×List (Nat×Nat)
def kr (D:Nat) (l:List (Nat×Nat)):Nat:=(l.map fun p=>2^(D-p.2)).sum
structure Ax (bal:Bool) (n:Nat) (tot:Int) (s:FS) (T:List Tr):Prop where
 lu:s.U.length=s.W.length
 lf:s.F.length=s.W.length
 root:∀t∈T,s.F.getD t.1 false=true∧s.U[t.1]?=some (-1)
 free:∀i,s.F.getD i false=true→∃t∈T,t.1=i
 nd:(T.map (·.1)).Nodup
 pt:∀t∈T,∀p∈t.2,O5 s.U p.2 p.1 t.1
 leaves:(T.flatMap fun t=>t.2.map (·.1)).Perm (List.range n)
 Fa:∀t∈T,∀D,(∀p∈t.2,p.2≤D)→kr D t.2=2^D
 ne:∀t∈T,t.2≠[]
 KI:∀t∈T,1≤s.W.getD t.1 0
 up:F4 s.U
 sum:(T.map fun t=>s.W.getD t.1 0).sum=tot
 Ov:bal=true→∀t∈T,∀u∈T,s.W.getD t.1 0≤2* s.W.getD u.1 0
 LN:bal=true→∀t∈T,∀p∈t.2,(3:Int)^p.2≤s.W.getD t.1 0* 2^p.2
theorem Mq {l l':List Int} (p:l.Perm l'):l.sum=l'.sum:=by
 induction p with
 |nil=>rfl
 |cons x _ ih=>simp only[Yj,ih]
 |swap x y l=>simp only[Yj];omega
 |trans _ _ h1 h2=>exact h1.trans h2
theorem GS {l l':List Nat} (p:l.Perm l'):l.sum=l'.sum:=by
 induction p with
 |nil=>rfl
 |cons x _ ih=>simp only[Yj,ih]
 |swap x y l=>simp only[Yj];omega
 |trans _ _ h1 h2=>exact h1.trans h2
theorem Ax.perm {bal:Bool} {n:Nat} {tot:Int} {s:FS} {T T':List Tr} (v:Ax bal n tot s T) (p:T.Perm T'):Ax bal n tot s T' where
 lu:=v.lu
 lf:=v.lf
 root t h:=v.root t (p.mem_iff.2 h)
 free i h:=by
  obtain⟨t,h1,h2⟩:=v.free i h
  exact⟨t,p.mem_iff.1 h1,h2⟩
 nd:=(p.map _).nodup_iff.1 v.nd
 pt t h:=v.pt t (p.mem_iff.2 h)
 leaves:=((p.flatMap_right _).symm).trans v.leaves
 Fa t h:=v.Fa t (p.mem_iff.2 h)
 ne t h:=v.ne t (p.mem_iff.2 h)
 KI t h:=v.KI t (p.mem_iff.2 h)
 up:=v.up
 sum:=by rw[←v.sum];exact(Mq (p.map _)).symm
 Ov hb t h u h2:=v.Ov hb t (p.mem_iff.2 h) u (p.mem_iff.2 h2)
 LN hb t h:=v.LN hb t (p.mem_iff.2 h)
def yX (l:List (Nat×Nat)):List (Nat×Nat):=l.map fun p=>(p.1,p.2+1)
theorem Mf {D:Nat} {l:List (Nat×Nat)}:kr (D+1) (yX l)=kr D l:=by
 unfold kr yX
 rw[List.map_map]
 congr 1
 refine Ym fun p _=> ?_
 show 2^(D+1-(p.2+1))=_
 rw[Nat.add_sub_add_right]
theorem RU (D:Nat) (a b:List (Nat×Nat)):kr D (a++b)=kr D a+kr D b:=by simp [kr]
theorem getD_set_ne {α:Type} {l:List α} {i j:Nat} {x d:α} (h:i≠j):(l.set i x).getD j d=l.getD j d:=by
 rw[XN,X8,if_neg h,←XN]
theorem A7 {l:List Bool} {i:Nat}:(l.set i false).getD i false=false:=by
 rw[XN,X8,if_pos rfl]
 split<;>rfl
theorem Ax.two {bal:Bool} {n:Nat} {tot:Int} {s:FS} {T:List Tr} (v:Ax bal n tot s T) (h2:2≤T.length):
 ∃ta tb T2,T.Perm (ta::tb::T2)∧ta.1=s.a∧tb.1=s.b∧0≤xn s.W s.F s.W.length 0 (-1)∧0≤xn s.W s.F1 s.W.length 0 (-1)∧s.W.getD s.a 0≤s.W.getD s.b 0∧(∀t∈T2,s.W.getD s.b 0≤s.W.getD t.1 0):=by
 obtain⟨t0,t1,T0,rfl⟩:∃t0 t1 T0,T=t0::t1::T0:=by
  match T,h2 with
  |t0::t1::T0,_=>exact⟨t0,t1,T0,rfl⟩
 obtain⟨l1,la,fa,ma⟩:=Cp v.lf (v.root t0 (by simp)).1
 obtain⟨ta,hta,ea⟩:=v.free _ fa
 have p1:=List.perm_cons_erase hta
 have v1:=v.perm p1
 obtain⟨T1,eT1⟩:∃T1,T1=(t0::t1::T0).erase ta:=⟨_,rfl⟩
 rw[←eT1]at p1 v1
 have lT1:T1≠[]:=by
  intro e
  have:=p1.length_eq
  rw[e]at this
  simp at this
 obtain⟨tx,hx⟩:=List.exists_mem_of_ne_nil _ lT1
 have nd1:∀t∈T1,t.1≠ta.1:=by
  intro t ht e
  have:=v1.nd
  rw[XX,YA]at this
  exact this.1 (X1.2 ⟨t,ht,e⟩)
 have f1:∀t∈T1,s.F1.getD t.1 false=true:=by
  intro t ht
  have:=(v1.root t (by simp [ht])).1
  show(s.F.set s.a false).getD t.1 false=true
  rw[getD_set_ne (by have:=nd1 t ht;intro e;exact this (by rw[ea,←e];rfl)),this]
 obtain⟨l2,lb,fb,mb⟩:=Cp (W:=s.W) (F:=s.F1) (by show(s.F.set s.a false).length=_;rw[X6];exact v.lf) (f1 tx hx)
 have hnb:s.a≠s.b:=by
  intro e
  have fb':s.F1.getD s.b false=true:=fb
  rw[←e]at fb'
  have:(s.F.set s.a false).getD s.a false=true:=fb'
  rw[A7]at this;cases this
 have fb2:s.F.getD s.b false=true:=by
  have fb':(s.F.set s.a false).getD s.b false=true:=fb
  rwa [getD_set_ne hnb]at fb'
 obtain⟨tb,htb,eb⟩:=v1.free _ fb2
 have htb1:tb∈T1:=by
  rcases vF.1 htb with q|q
  · subst q;exact absurd (ea.symm.trans eb) hnb
  · exact q
 have p2:=List.perm_cons_erase htb1
 refine⟨ta,tb,T1.erase tb,p1.trans (p2.cons ta),ea,eb,l1,l2,ma _ fb2,fun t ht=>mb _ (f1 t (List.mem_of_mem_erase ht))⟩
theorem Ax.N8 {bal : Bool} {n : Nat} {tot : Int} {s : FS} {T T2 : List Tr} {ta tb : Tr} (v : Ax bal n tot s T) (p : T.Perm (ta :: tb :: T2)) (ea : ta.1 = s.a) (eb : tb.1 = s.b) (l1 : 0 ≤ xn s.W s.F s.W.length 0 (-1)) (l2 : 0 ≤ xn s.W s.F1 s.W.length 0 (-1)) (wab : s.W.getD s.a 0 ≤ s.W.getD s.b 0) (wbt : ∀ t ∈ T2, s.W.getD s.b 0 ≤ s.W.getD t.1 0) (ht : tot < 1000000000000000) : s.ok ∧ Ax bal n tot s.FY ((s.U.length, yX (ta.2 ++ tb.2)) :: T2) := by
 have lT:=p.length_eq
 have v1:=v.perm p
 have nd:=v1.nd
 rw[XX,XX,YA,YA]at nd
 obtain⟨nd1,nd2,nd3⟩:=nd
 have ra:=v1.root ta (by simp)
 have rb:=v1.root tb (by simp)
 rw[ea]at ra
 rw[eb]at rb
 have hla:s.a<s.U.length:=(vh.1 ra.2).1
 have hlb:s.b<s.U.length:=(vh.1 rb.2).1
 have wa:=v1.KI ta (by simp)
 have wb1:=v1.KI tb (by simp)
 rw[ea]at wa
 rw[eb]at wb1
 have sm:=v1.sum
 rw[XX,XX,Yj,Yj,ea,eb]at sm
 have nn:0≤(T2.map fun t=>s.W.getD t.1 0).sum:=by
  have:∀l:List Tr,(∀t∈l,1≤s.W.getD t.1 0)→0≤(l.map fun t=>s.W.getD t.1 0).sum:=by
   intro l
   induction l with
   |nil=>intro _;simp
   |cons x l ih=>intro h;have:=ih fun t ht=>h t (by simp [ht]);have:=h x (by simp);simp only[XX,Yj];omega
  exact this T2 fun t ht=>v1.KI t (by simp [ht])
 have es:s.sum=s.W.getD s.a 0+s.W.getD s.b 0:=rfl
 refine⟨⟨v.lu,v.lf,l1,l2,by omega⟩, ?_⟩
 have nT2:∀t∈T2,t.1≠s.a∧t.1≠s.b∧t.1<s.U.length:=fun t ht=>⟨fun e=>nd1 (by simp only[vF,X1];exact .inr ⟨t,ht,by rw[e,ea]⟩),fun e=>nd2 (X1.2 ⟨t,ht,by rw[e,eb]⟩),(vh.1 (v1.root t (by simp [ht])).2).1⟩
 have mW:∀i,i<s.W.length→s.FY.W.getD i 0=s.W.getD i 0:=fun i hi=>by
  show(s.W++[s.sum]).getD i 0=_
  rw[XN,X2 hi,←XN]
 have mWn:s.FY.W.getD s.U.length 0=s.sum:=by
  show(s.W++[s.sum]).getD s.U.length 0=_
  rw[v.lu,XN,X0 (vm _)];simp
 have lF2:s.F2.length=s.W.length:=by show((s.F.set s.a false).set s.b false).length=_;rw[X6,X6,v.lf]
 have mF:∀i,i<s.W.length→s.FY.F.getD i false=s.F2.getD i false:=fun i hi=>by
  show(s.F2++[true]).getD i false=_
  rw[XN,X2 (by omega),←XN]
 have mFn:s.FY.F.getD s.U.length false=true:=by
  show(s.F2++[true]).getD s.U.length false=_
  rw[v.lu,XN,X0 (by omega),lF2];simp
 have F2o:∀i,i≠s.a→i≠s.b→s.F2.getD i false=s.F.getD i false:=fun i h1 h2=>by
  show((s.F.set s.a false).set s.b false).getD i false=_
  rw[getD_set_ne h2.symm,getD_set_ne h1.symm]
 have F2a:s.a≠s.b→s.F2.getD s.a false=false:=fun h=>by
  show((s.F.set s.a false).set s.b false).getD s.a false=_
  rw[getD_set_ne h.symm,A7]
 have F2b:s.F2.getD s.b false=false:=A7
 have hab:s.a≠s.b:=fun e=>nd1 (by simp only[vF];exact .inl (by rw[ea,eb,e]))
 have jl:∀p∈ta.2++tb.2,O5 (z7 s.U s.a s.b) (p.2+1) p.1 s.U.length:=fun q hq=>by
  rcases Ya.1 hq with h|h
  · have:=v1.pt ta (by simp) q h
    rw[ea]at this
    exact Fp (De ra.2 rb.2 this) (K3 hla)
  · have:=v1.pt tb (by simp) q h
    rw[eb]at this
    exact Fp (De ra.2 rb.2 this) (K4 hlb)
 have lu:=v.lu
 have lf:=v.lf
 have getT2:∀t∈T2,s.FY.W.getD t.1 0=s.W.getD t.1 0:=fun t ht=>mW _ (by have:=(nT2 t ht).2.2;omega)
 have W2:∀t∈(s.U.length,yX (ta.2++tb.2))::T2,(t.1=s.U.length∧t.2=yX (ta.2++tb.2)∧s.FY.W.getD t.1 0=s.sum)∨(t∈T2∧s.FY.W.getD t.1 0=s.W.getD t.1 0):=fun t ht=>by
  rcases vF.1 ht with q|q
  · subst q;exact .inl ⟨rfl,rfl,mWn⟩
  · exact .inr ⟨q,getT2 t q⟩
 constructor
 · show(z7 s.U s.a s.b).length=(s.W++[s.sum]).length
   rw[GA];simp [lu]
 · show(s.F2++[true]).length=(s.W++[s.sum]).length
   simp [lF2]
 · intro t ht
   rcases vF.1 ht with q|q
   · subst q
     exact⟨mFn,K5⟩
   · have n:=nT2 t q
     have r:=v1.root t (by simp [q])
     refine⟨by rw[mF _ (by omega),F2o _ n.1 n.2.1];exact r.1, ?_⟩
     rw[FS.Vm,DE n.2.2 n.1.symm n.2.1.symm];exact r.2
 · intro i hi
   by_cases e:i=s.U.length
   · exact⟨_,List.mem_cons_self ..,e.symm⟩
   · have hiL:i<s.W.length:=by
      apply Yc
      intro c
      have:s.FY.F.length=s.W.length+1:=by show(s.F2++[true]).length=_;simp [lF2]
      rw[XN,X5 (by omega)]at hi
      cases hi
     rw[mF i hiL]at hi
     have h1:i≠s.a:=fun q=>by rw[q,F2a hab]at hi;cases hi
     have h2:i≠s.b:=fun q=>by rw[q,F2b]at hi;cases hi
     rw[F2o i h1 h2]at hi
     obtain⟨t,ht,et⟩:=v1.free i hi
     rcases vF.1 ht with q|q
     · subst q;exact absurd (et.symm.trans ea) h1
     · rcases vF.1 q with q|q
       · subst q;exact absurd (et.symm.trans eb) h2
       · exact⟨t,Ys _ q,et⟩
 · rw[XX,YA]
   refine⟨fun hm=> ?_,nd3⟩
   obtain⟨t,ht,e⟩:=X1.1 hm
   have:=(nT2 t ht).2.2
   rw[e]at this
   exact absurd this (by simp)
 · intro t ht
   rcases vF.1 ht with q|q
   · subst q
     intro q hq
     obtain⟨q',hq',rfl⟩:=X1.1 hq
     exact jl q' hq'
   · intro x hx
     exact De ra.2 rb.2 (v1.pt t (by simp [q]) x hx)
 · have lv:=v1.leaves
   refine List.Perm.trans ?_ lv
   rw[XW,XW,XW,←XV]
   have:(yX (ta.2++tb.2)).map (·.1)=ta.2.map (·.1)++tb.2.map (·.1):=by
    unfold yX;rw[List.map_map,List.map_append];rfl
   rw[this]
 · intro t ht
   rcases vF.1 ht with q|q
   · subst q
     intro D hD
     have hne:=v1.ne ta (by simp)
     obtain⟨x,hx⟩:=List.exists_mem_of_ne_nil _ hne
     have h1:=hD (x.1,x.2+1) (X1.2 ⟨x,List.mem_append_left _ hx,rfl⟩)
     obtain⟨D,rfl⟩:∃E,D=E+1:=⟨D-1,by simp at h1;omega⟩
     rw[Mf,RU]
     rw[v1.Fa ta (by simp) D fun y hy=>by have:=hD (y.1,y.2+1) (X1.2 ⟨y,List.mem_append_left _ hy,rfl⟩);simp at this;omega]
     rw[v1.Fa tb (by simp) D fun y hy=>by have:=hD (y.1,y.2+1) (X1.2 ⟨y,List.mem_append_right _ hy,rfl⟩);simp at this;omega]
     rw[Nat.pow_succ];omega
   · exact v1.Fa t (by simp [q])
 · intro t ht
   rcases vF.1 ht with q|q
   · subst q
     have hne:=v1.ne ta (by simp)
     intro e
     have:yX (ta.2++tb.2)=[]:=e
     unfold yX at this
     rw[List.map_eq_nil_iff,List.append_eq_nil_iff]at this
     exact hne this.1
   · exact v1.ne t (by simp [q])
 · intro t ht
   rcases W2 t ht with ⟨_,_,e⟩|⟨q,e⟩
   · rw[e];omega
   · rw[e];exact v1.KI t (by simp [q])
 · exact MH hla hlb v.up
 · rw[XX,Yj,mWn,Ym getT2];omega
 · intro hb t ht u hu
   have b1:=v1.Ov hb
   have ba:=b1 tb (by simp) ta (by simp)
   rw[ea,eb]at ba
   rcases W2 t ht with ⟨_,_,e⟩|⟨q,e⟩
   · rcases W2 u hu with ⟨_,_,e'⟩|⟨q',e'⟩
     · rw[e,e'];omega
     · rw[e,e'];have:=wbt u q';omega
   · rcases W2 u hu with ⟨_,_,e'⟩|⟨q',e'⟩
     · rw[e,e'];have:=b1 t (by simp [q]) ta (by simp);rw[ea]at this;omega
     · rw[e,e'];exact b1 t (by simp [q]) u (by simp [q'])
 · intro hb t ht x hx
   have b1:=v1.Ov hb
   have ba:=b1 tb (by simp) ta (by simp)
   have bb:=b1 ta (by simp) tb (by simp)
   rw[ea,eb]at ba bb
   rcases W2 t ht with ⟨_,e2,e⟩|⟨q,e⟩
   · rw[e]
     rw[e2]at hx
     obtain⟨y,hy,rfl⟩:=X1.1 hx
     have p2:(0:Int)<2^y.2:=Int.pow_pos (by omega)
     show(3:Int)^(y.2+1)≤s.sum* 2^(y.2+1)
     rw[Int.pow_succ,Int.pow_succ]
     have key:∀w:Int,(3:Int)^y.2≤w* 2^y.2→3* w≤2* s.sum→(3:Int)^y.2* 3≤s.sum* (2^y.2* 2):=fun w h1 h2=>by
      have a1:(3:Int)^y.2* 3≤(w* 2^y.2)* 3:=Int.mul_le_mul_of_nonneg_right h1 (by omega)
      have a2:(3* w)* 2^y.2≤(2* s.sum)* 2^y.2:=Int.mul_le_mul_of_nonneg_right h2 (by omega)
      have a3:(w* 2^y.2)* 3=(3* w)* 2^y.2:=by rw[Int.mul_comm 3 w,Int.mul_assoc,Int.mul_assoc,Int.mul_comm _ 3]
      have a4:s.sum* (2^y.2* 2)=(2* s.sum)* 2^y.2:=by rw[Int.mul_comm 2 s.sum,Int.mul_assoc,Int.mul_comm 2 (2^y.2)]
      omega
     rcases Ya.1 hy with h|h
     · have:=v1.LN hb ta (by simp) y h
       rw[ea]at this
       exact key _ this (by omega)
     · have:=v1.LN hb tb (by simp) y h
       rw[eb]at this
       exact key _ this (by omega)
   · rw[e];exact v1.LN hb t (by simp [q]) x hx
theorem Ax.step {bal:Bool} {n:Nat} {tot:Int} {s:FS} {T:List Tr} (v:Ax bal n tot s T) (h2:2≤T.length) (ht:tot<1000000000000000):s.ok∧∃T',T'.length+1=T.length∧Ax bal n tot s.FY T':=by
 obtain⟨ta,tb,T2,p,ea,eb,l1,l2,wab,wbt⟩:=v.two h2
 have lT:=p.length_eq
 obtain⟨a,b⟩:=v.N8 p ea eb l1 l2 wab wbt ht
 exact⟨a,_,by rw[lT];simp,b⟩
def T0 (n:Nat):List Tr:=(List.range n).map fun i=>(i,[(i,0)])
theorem FH:∀(ws:List Int),((List.range ws.length).map fun i=>ws.getD i 0).sum=ws.sum:=by
 intro ws
 have:(List.range ws.length).map (fun i=>ws.getD i 0)=ws:=by
  apply List.ext_getElem?
  intro i
  rw[vx]
  by_cases h:i<ws.length
  · rw[Yl h,XQ h];simp [XN,h]
  · rw[X5 (by simp;omega),X5 (by omega)];rfl
 rw[this]
theorem BX {α:Type} {n i:Nat} {x d:α} (h:i<n):(List.replicate n x).getD i d=x:=by
 rw[XN,Yi,if_pos h];rfl
theorem Ax.init (ws : List Int) (bal : Bool) (pos : ∀ y ∈ ws, 1 ≤ y) (hb : bal = true → ∀ y ∈ ws, y = 1) : Ax bal ws.length ws.sum (Az ws) (T0 ws.length) := by
 have mem:∀t∈T0 ws.length,∃i,i<ws.length∧t=(i,[(i,0)]):=fun t ht=>by
  obtain⟨i,hi,rfl⟩:=X1.1 ht
  exact⟨i,List.mem_range.1 hi,rfl⟩
 have gw:∀i,i<ws.length→ws.getD i 0∈ws:=fun i hi=>by
  rw[XN,XQ hi];exact X4 hi
 constructor
 · simp [Az]
 · simp [Az]
 · intro t ht
   obtain⟨i,hi,rfl⟩:=mem t ht
   exact⟨BX hi,by show(List.replicate ws.length (-1:Int))[i]?=_;rw[Yi,if_pos hi]⟩
 · intro i hi
   have:i<ws.length:=by
    apply Yc
    intro c
    have e:(Az ws).F.getD i false=false:=by
     show(List.replicate ws.length true).getD i false=false
     rw[XN,X5 (by simp;omega)];rfl
    rw[e]at hi;cases hi
   exact⟨(i,[(i,0)]),X1.2 ⟨i,List.mem_range.2 this,rfl⟩,rfl⟩
 · unfold T0
   rw[List.map_map]
   have:((fun t:Tr=>t.1)∘fun i=>((i,[(i,0)]):Tr))=id:=rfl
   rw[this,List.map_id];exact List.nodup_range
 · intro t ht q hq
   obtain⟨i,hi,rfl⟩:=mem t ht
   simp at hq
   subst hq
   exact rfl
 · have:(T0 ws.length).flatMap (fun t=>t.2.map (·.1))=List.range ws.length:=by
    unfold T0
    rw[List.flatMap_map]
    have:∀l:List Nat,(l.flatMap fun i=>([(i,0)]:List (Nat×Nat)).map (·.1))=l:=by
     intro l
     induction l with
     |nil=>rfl
     |cons x l ih=>rw[XW,ih];rfl
    exact this _
   rw[this]
 · intro t ht D _
   obtain⟨i,hi,rfl⟩:=mem t ht
   simp [kr]
 · intro t ht
   obtain⟨i,hi,rfl⟩:=mem t ht
   simp
 · intro t ht
   obtain⟨i,hi,rfl⟩:=mem t ht
   exact pos _ (gw i hi)
 · intro j hj
   have:j<ws.length:=by simpa [Az]using hj
   exact .inl (BX this)
 · unfold T0
   rw[List.map_map]
   exact FH ws
 · intro h t ht u hu
   obtain⟨i,hi,rfl⟩:=mem t ht
   obtain⟨j,hj,rfl⟩:=mem u hu
   have a:=hb h _ (gw i hi)
   have b:=hb h _ (gw j hj)
   show ws.getD i 0≤2* ws.getD j 0
   omega
 · intro h t ht q hq
   obtain⟨i,hi,rfl⟩:=mem t ht
   simp at hq
   subst hq
   have a:=hb h _ (gw i hi)
   show(3:Int)^0≤ws.getD i 0* 2^0
   rw[a];simp
theorem Ax.run {bal:Bool} {n:Nat} {tot:Int} (ht:tot<1000000000000000):∀(m:Nat) (s:FS) (T:List Tr),Ax bal n tot s T→T.length=m+1→(∀k,k<m→(FS.yV k s).ok)∧∃t,Ax bal n tot (FS.yV m s) [t]
 | 0, s, T, v, h => by
   refine⟨fun k hk=>by omega, ?_⟩
   match T,h with
   |[t],_=>exact⟨t,v⟩
 | m + 1, s, T, v, h => by
   obtain⟨ok,T',hl,v'⟩:=v.step (by omega) ht
   obtain⟨h1,t,h2⟩:=Ax.run ht m s.FY T' v' (by omega)
   refine⟨fun k hk=> ?_,t,h2⟩
   cases k with
   |zero=>exact ok
   |succ k=>exact h1 k (by omega)
theorem RS (ws:List Int) (bal:Bool) (h1:1≤ws.length) (pos:∀y∈ws,1≤y) (hs:ws.sum<1000000000000000) (hb:bal=true→∀y∈ws,y=1):
 (∀k,k<ws.length-1→(FS.yV k (Az ws)).ok)∧F4 (FS.yV (ws.length-1) (Az ws)).U∧(FS.yV (ws.length-1) (Az ws)).U.length=(FS.yV (ws.length-1) (Az ws)).W.length∧
 (∀D:Nat,(∀d∈wg ws,d≤(D:Int))→((wg ws).map fun d=>2^(D-d.toNat)).sum=2^D)∧
 (bal=true→∀d∈wg ws,(3:Int)^d.toNat≤ws.sum* 2^d.toNat)∧(2≤ws.length→∀d∈wg ws,1≤d):=by
 obtain⟨ok,t,v⟩:=Ax.run hs (ws.length-1) (Az ws) (T0 ws.length) (Ax.init ws bal pos hb) (by simp [T0];omega)
 obtain⟨S,hS⟩:∃S,S=FS.yV (ws.length-1) (Az ws):=⟨_,rfl⟩
 have eD:wg ws=Ch S.U ws.length:=by rw[hS];rfl
 rw[←hS]at v ⊢
 have up:=v.up
 have rt:=(v.root t (by simp)).2
 have rtD:S.U.getD t.1 (-1)= -1:=by rw[XN,rt];rfl
 have rl:=(vh.1 rt).1
 have lv:=v.leaves
 simp only[XW,List.flatMap_nil,XZ]at lv
 have dep:∀q∈t.2,Ap S.U S.U.length (S.U.getD q.1 (-1))=q.2:=fun q hq=>by
  have:=v.pt t (by simp) q hq
  have l:=HN up this
  exact HO up this rtD _ (by omega)
 have pm:(wg ws).Perm (t.2.map fun q=>((q.2:Nat):Int)):=by
  rw[eD]
  unfold Ch
  have:=lv.symm.map (fun i=>((Ap S.U S.U.length (S.U.getD i (-1)):Nat):Int))
  refine this.trans ?_
  rw[List.map_map]
  have e:t.2.map ((fun i=>((Ap S.U S.U.length (S.U.getD i (-1)):Nat):Int))∘fun x=>x.1)=t.2.map fun q=>((q.2:Nat):Int):=Ym fun q hq=>by
   show((Ap S.U S.U.length (S.U.getD q.1 (-1)):Nat):Int)=_
   rw[dep q hq]
  rw[e]
 have mem:∀d∈wg ws,∃q∈t.2,d=((q.2:Nat):Int):=fun d hd=>by
  obtain⟨q,hq,rfl⟩:=X1.1 (pm.mem_iff.1 hd)
  exact⟨q,hq,rfl⟩
 refine⟨ok,up,v.lu,fun D hD=> ?_,fun hbt d hd=> ?_,fun h2 d hd=> ?_⟩
 · have:=GS (pm.map fun d=>2^(D-d.toNat))
   rw[this,List.map_map]
   have kk:=v.Fa t (by simp) D fun q hq=>by
    have:=hD ((q.2:Nat):Int) (pm.mem_iff.2 (X1.2 ⟨q,hq,rfl⟩))
    omega
   rw[←kk]
   unfold kr
   congr 1
 · obtain⟨q,hq,rfl⟩:=mem d hd
   have:=v.LN hbt t (by simp) q hq
   have sm:=v.sum
   rw[XX,Yk,Yj,List.sum_nil,Int.add_zero]at sm
   rw[←sm]
   exact this
 · obtain⟨q,hq,rfl⟩:=mem d hd
   have pq:=v.pt t (by simp) q hq
   apply Yc
   intro c
   have z:q.2=0:=by omega
   rw[z]at pq
   have e:q.1=t.1:=pq
   have ql:q.1<ws.length:=List.mem_range.1 (lv.mem_iff.1 (X1.2 ⟨q,hq,rfl⟩))
   have rr:S.W.length=ws.length+(ws.length-1):=by rw[hS,FS.BE];rfl
   have kk:∀D,(∀p∈t.2,p.2≤D)→kr D t.2=2^D:=v.Fa t (by simp)
   obtain⟨D,hDD⟩:∃D,∀p∈t.2,p.2≤D:=⟨t.1,fun p hp=>by have:=HN up (v.pt t (by simp) p hp);omega⟩
   have k:=kk D hDD
   have l2:t.2.length=ws.length:=by
    have:=lv.length_eq
    simpa using this
   have pe:=List.perm_cons_erase hq
   have:kr D t.2=kr D (q::t.2.erase q):=GS (pe.map _)
   rw[this]at k
   have:kr D (q::t.2.erase q)=2^(D-q.2)+kr D (t.2.erase q):=by simp [kr]
   rw[this,z,Nat.sub_zero]at k
   have le:=pe.length_eq
   rw[XO]at le
   cases hE:t.2.erase q with
   |nil=>rw[hE]at le;simp at le;omega
   | cons y r =>
     rw[hE]at k
     have:kr D (y::r)=2^(D-y.2)+kr D r:=by simp [kr]
     have:=Nat.pow_pos (n:=D-y.2) (show 0<2 by omega)
     omega
def xz (l:List Int) (i:Nat):List Int:=l.set i (l.getD i 0+1)
theorem yo (l:List Int) (i:Nat):(xz l i).length=l.length:=by simp [xz]
theorem z5 {l:List Int} {i:Nat} {n:Int} (h:∀y∈l,0≤y∧y≤n) (hn:0≤n):∀y∈xz l i,0≤y∧y≤n+1:=by
 intro y hy
 rcases Yd hy with q|q
 · have:=h y q;omega
 · subst q
   rw[XN]
   cases e:l[i]? with
   |none=>simp;omega
   |some z=>have:=h z (vq e);simp;omega
def y6 (t:Tok):Prop:=(t.len=0∧0≤t.lit∧t.lit≤255)∨(3≤t.len∧t.len≤258∧1≤t.wB∧t.wB≤32768)
def zM:List Tok→List Int→List Int
 |[],A=>A
 |t::r,A=>zM r (if t.len=0 then xz A t.lit.toNat else xz A (xF t.len.toNat))
def zX:List Tok→List Int→List Int
 |[],B=>B
 |t::r,B=>zX r (if t.len=0 then B else xz B (xN t.wB.toNat))
structure LF (h h':H) (a b:Nat):Prop where
 floor:h'.floor=h.floor
 next:h.next≤h'.next
 wV:∀i,i<h.next→i≠a→i≠b→h'.get i=h.get i
theorem LF.refl (h:H) (a b:Nat):LF h h a b:=⟨rfl,vm _,fun _ _ _ _=>rfl⟩
theorem LF.trans {x y z:H} {a b:Nat} (p:LF x y a b) (q:LF y z a b):LF x z a b:=⟨q.floor.trans p.floor,vG p.next q.next,fun i h1 h2 h3=>(q.wV i (Nat.lt_of_lt_of_le h1 p.next) h2 h3).trans (p.wV i h1 h2 h3)⟩
theorem zu {l:List Int} {i:Nat} (h:i<l.length):(ints l)[i]?=some (.int .i64 (l.getD i 0)):=tu (by rw[XN,XQ h];rfl)
theorem Iz {v:AV} {ts:List Tok} (hn:ts.length<1000000) (h0:H) (rd:yC 3 h0 v ts.length (wJ ts)) (ia ib i:Nat) (t:Tok) (ht:ts[i]?=some t) (o:y6 t) (hab:ia≠ib) (hia:h0.next≤ia) (hib:h0.next≤ib) {A B:List Int} {h:H} (hx:Ext h0 h) (ga:h.get ia=some (ints A)) (gb:h.get ib=some (ints B)) (hA:A.length=286) (hB:B.length=30) (rA:∀y∈A,0≤y∧y≤(i:Int)+1) (rB:∀y∈B,0≤y∧y≤(i:Int)+1) (fa:h.floor≤ia) (fb:h.floor≤ib) (hfl:h.floor≤h.next):
 ∃h',aL (aR AP.A) bq AP.f13L4 (ay [(0,v),(4,.aE ia 0 286 1),(5,.aE ib 0 30 1),(6,.int .i64 i)] [0,4,5,6]) h=some (.normal,[(0,v),(4,.aE ia 0 286 1),(5,.aE ib 0 30 1),(6,.int .i64 (i+1:Nat))],h')∧h'.get ia=some (ints (zM [t] A))∧h'.get ib=some (ints (zX [t] B))∧LF h h' ia ib:=by
 have ln:=rd.len
 obtain⟨ad,a1,a2,a3⟩:=rd.HZ
 have hi:i<ts.length:=(vh.1 ht).1
 have hI:(0:Int)≤(i:Int)∧(i:Int)<ts.length:=⟨by omega,by omega⟩
 have b1:=a1 _ hI
 have b2:=a2 i 0 1 hI
 have b20:=a2 i 0 0 hI
 have b22:=a2 i 0 2 hI
 obtain⟨b3,b4,b5,_⟩:=a3 h hx _ _ ht
 have n1:((i+1:Nat):Int)=(i:Int)+1:=by omega
 have la:(ints A).length=286:=by rw[pY,hA]
 have lb:(ints B).length=30:=by rw[pY,hB]
 have hian:=h.lt _ _ ga
 have hibn:=h.lt _ _ gb
 rcases o with ⟨c0,h2,h3⟩|⟨h1,h2,h3,h4⟩
 · obtain⟨y,hy⟩:∃y:Nat,t.lit=y:=XT h2
   have yt:t.lit.toNat=y:=by omega
   have gx:=zu (l:=A) (i:=y) (by omega)
   have xr:0≤A.getD y 0∧A.getD y 0≤(i:Int)+1:=by
    rw[XN,XQ (by omega)]
    exact rA _ (X4 _)
   have es:=xj A y (A.getD y 0+1)
   change _=ints (xz A y)at es
   rw[hy]at b3
   rw[c0]at b4
   have yb:y≤255:=by omega
   have eA:zM [t] A=xz A y:=by rw[zM,if_pos c0,yt];rfl
   have eB:zX [t] B=B:=by rw[zX,if_pos c0];rfl
   rw[eA,eB]
   refine⟨h.set ia (ints (xz A y)), ?_,by rw[v9 rfl,ga];rfl,by rw[vN hab.symm,gb],⟨by simp,by simp,fun j _ h2 _=>vN h2⟩⟩
   rw[n1]
   clear rd a1 a2 a3 hx rA rB ht b5 h2 h3 eA eB
   generalize A.getD y 0=z at *
   generalize ints (xz A y)=A2 at *
   generalize ints A=A0 at *
   generalize ints B=B0 at *
   simp (disch:=omega)only[go_sem,vT,AP.f13L4,ln,b1,b2,b20,b3,b4,ga,la,gx,es]
 · obtain⟨L,hL⟩:∃y:Nat,t.len=y:=XT (by omega)
   obtain⟨K,hK⟩:∃y:Nat,t.wB=y:=XT (by omega)
   have Lt:t.len.toNat=L:=by omega
   have Kt:t.wB.toNat=K:=by omega
   have kl:∀g:H,aR AP.A 28 [.int .i64 L] g=_:=fun g=>Jb g L (by omega) (by omega)
   have kd:∀g:H,aR AP.A 29 [.int .i64 K] g=_:=fun g=>M6 g K (by omega) (by omega)
   have sl:=zj (k:=L) (by omega) (by omega)
   have sd:=zh (k:=K) (by omega) (by omega)
   have slt:xF L<286:=by omega
   have sdt:xN K<30:=by omega
   obtain⟨h1',eh1⟩:∃g,g=(h.alloc [.int .i64 0,.int .i64 0,.int .i64 0]).set h.next [.int .i64 (xF L:Nat),.int .i64 (za L:Nat),.int .i64 (zC L:Nat)]:=⟨_,rfl⟩
   have kp1:∀j,j<h.next→h1'.get j=h.get j:=fun j hj=>by rw[eh1,vN (by omega),vW (by omega)]
   have x1:Ext h0 h1':=fun j c hj=>by
    have hj2:=h.lt _ _ (hx j c hj)
    rw[kp1 j hj2,hx j c hj]
   have g1:h1'.get h.next=some [.int .i64 (xF L:Nat),.int .i64 (za L:Nat),.int .i64 (zC L:Nat)]:=by rw[eh1,v9 rfl,vZ rfl];rfl
   have nx1:h1'.next=h.next+1:=by rw[eh1];simp
   have fx1:h1'.floor=h.floor:=by rw[eh1];simp
   obtain⟨_,_,b5',_⟩:=a3 h1' x1 _ _ ht
   obtain⟨h2',eh2⟩:∃g,g=(h1'.alloc [.int .i64 0,.int .i64 0,.int .i64 0]).set h1'.next [.int .i64 (xN K:Nat),.int .i64 (zg K:Nat),.int .i64 (zH K:Nat)]:=⟨_,rfl⟩
   have kp2:∀j,j<h1'.next→h2'.get j=h1'.get j:=fun j hj=>by rw[eh2,vN (by omega),vW (by omega)]
   have g2:h2'.get h1'.next=some [.int .i64 (xN K:Nat),.int .i64 (zg K:Nat),.int .i64 (zH K:Nat)]:=by rw[eh2,v9 rfl,vZ rfl];rfl
   have g21:h2'.get h.next=some [.int .i64 (xF L:Nat),.int .i64 (za L:Nat),.int .i64 (zC L:Nat)]:=by rw[kp2 _ (by omega),g1]
   have ga2:h2'.get ia=some (ints A):=by rw[kp2 ia (by omega),kp1 ia hian,ga]
   have gb2:h2'.get ib=some (ints B):=by rw[kp2 ib (by omega),kp1 ib hibn,gb]
   have fx2:h2'.floor=h.floor:=by rw[eh2];simp [fx1]
   have nx2:h2'.next=h.next+2:=by rw[eh2];simp [nx1]
   have gx:=zu (l:=A) (i:=xF L) (by omega)
   have gy:=zu (l:=B) (i:=xN K) (by omega)
   have xr:0≤A.getD (xF L) 0∧A.getD (xF L) 0≤(i:Int)+1:=by
    rw[XN,XQ (by omega)]
    exact rA _ (X4 _)
   have yr:0≤B.getD (xN K) 0∧B.getD (xN K) 0≤(i:Int)+1:=by
    rw[XN,XQ (by omega)]
    exact rB _ (X4 _)
   have es:=xj A (xF L) (A.getD (xF L) 0+1)
   change _=ints (xz A (xF L))at es
   have et:=xj B (xN K) (B.getD (xN K) 0+1)
   change _=ints (xz B (xN K))at et
   rw[hL]at b4
   rw[hK]at b5'
   have cL:¬(L:Int)=0:=by omega
   obtain⟨h3',eh3⟩:∃g,g=h2'.set ia (ints (xz A (xF L))):=⟨_,rfl⟩
   have gb3:h3'.get ib=some (ints B):=by rw[eh3,vN hab.symm,gb2]
   have g31:h3'.get h1'.next=some [.int .i64 (xN K:Nat),.int .i64 (zg K:Nat),.int .i64 (zH K:Nat)]:=by rw[eh3,vN (by omega),g2]
   have eA:zM [t] A=xz A (xF L):=by rw[zM,if_neg (by omega),Lt];rfl
   have eB:zX [t] B=xz B (xN K):=by rw[zX,if_neg (by omega),Kt];rfl
   have fx3:h3'.floor=h.floor:=by rw[eh3];simp [fx2]
   rw[eA,eB]
   refine⟨h3'.set ib (ints (xz B (xN K))), ?_,by rw[vN hab,eh3,v9 rfl,ga2];rfl,by rw[v9 rfl,gb3];rfl,⟨by simp [fx3],by rw[eh3];simp [nx2],fun j h1 h2 h3=>by rw[vN h3,eh3,vN h2,kp2 j (by omega),kp1 j h1]⟩⟩
   rw[n1]
   clear rd a1 a2 a3 hx x1 rA rB ht b5 h2 h3 eA eB b3 h1 h4 sl sd kp1 kp2
   generalize xF L=S at *
   generalize za L=B1 at *
   generalize zC L=V at *
   generalize xN K=S' at *
   generalize zg K=B' at *
   generalize zH K=V' at *
   generalize A.getD S 0=z at *
   generalize B.getD S' 0=z' at *
   generalize ints (xz A S)=A2 at *
   generalize ints (xz B S')=B2 at *
   generalize ints A=A0 at *
   generalize ints B=B0 at *
   simp (disch:=omega)only[go_sem,vT,AP.f13L4,ln,b1,b2,b22,b4,b5',kl,kd,cL,←eh1,←eh2,g1,g2,g21,ga2,gb2,la,lb,gx,gy,es,et,←eh3,gb3,g31]
theorem Bm:∀(ts:List Tok) (A:List Int),(zM ts A).length=A.length
 |[],A=>rfl
 |t::r,A=>by rw[zM,Bm r];split<;>rw[yo]
theorem Bp:∀(ts:List Tok) (A:List Int),(zX ts A).length=A.length
 |[],A=>rfl
 | t :: r, A => by
   rw[zX,Bp r]
   split
   · rfl
   · rw[yo]
theorem Bn:∀(ts:List Tok) (A:List Int) (n:Int),0≤n→(∀y∈A,0≤y∧y≤n)→∀y∈zM ts A,0≤y∧y≤n+ts.length
 |[],A,n,hn,h=>by simpa [zM]using h
 | t :: r, A, n, hn, h => by
   intro y hy
   rw[zM]at hy
   have:=Bn r _ (n+1) (by omega) (by split<;>exact z5 h hn) y hy
   simp only[XO];omega
theorem Bq:∀(ts:List Tok) (A:List Int) (n:Int),0≤n→(∀y∈A,0≤y∧y≤n)→∀y∈zX ts A,0≤y∧y≤n+ts.length
 |[],A,n,hn,h=>by simpa [zX]using h
 | t :: r, A, n, hn, h => by
   intro y hy
   rw[zX]at hy
   have:=Bq r _ (n+1) (by omega) (by
    split
    · intro z hz;have:=h z hz;omega
    · exact z5 h hn) y hy
   simp only[XO];omega
theorem DY {v:AV} {ts:List Tok} (hn:ts.length<1000000) (h0:H) (rd:yC 3 h0 v ts.length (wJ ts)) (ia ib:Nat) (ok:∀t∈ts,y6 t) (hab:ia≠ib) (hia:h0.next≤ia) (hib:h0.next≤ib):∀(q p:List Tok) (A B:List Int) (h:H),ts=p++q→Ext h0 h→h0.next≤h.next→h.get ia=some (ints A)→h.get ib=some (ints B)→A.length=286→B.length=30→(∀y∈A,0≤y∧y≤(p.length:Int)+1)→(∀y∈B,0≤y∧y≤(p.length:Int)+1)→h.floor≤ia→h.floor≤ib→h.floor≤h.next→
 ∃h',Lp AP.A [0,4,5,6] AP.f13L4 [(0,v),(4,.aE ia 0 286 1),(5,.aE ib 0 30 1),(6,.int .i64 p.length)] h=some (.exit 0,[(0,v),(4,.aE ia 0 286 1),(5,.aE ib 0 30 1),(6,.int .i64 ts.length),(43,.bool false)],h')∧h'.get ia=some (ints (zM q A))∧h'.get ib=some (ints (zX q B))∧LF h h' ia ib
 | [], p, A, B, h, hp, hx, hnx, ga, gb, hA, hB, rA, rB, fa, fb, hfl => by
   rw[XZ]at hp;subst hp
   have ln:=rd.len
   refine⟨h,tM ?_,ga,gb,LF.refl h ia ib⟩
   simp (disch:=omega)only[go_sem,vT,AP.f13L4,ln]
 | t :: q, p, A, B, h, hp, hx, hnx, ga, gb, hA, hB, rA, rB, fa, fb, hfl => by
   have ht:ts[p.length]?=some t:=by rw[hp];simp
   have o:=ok t (vq ht)
   obtain⟨h1,s1,ga1,gb1,f1⟩:=Iz hn h0 rd ia ib p.length t ht o hab hia hib hx ga gb hA hB rA rB fa fb hfl
   have n1:(((p++[t]).length:Nat):Int)=((p.length+1:Nat):Int):=by simp
   have hx1:Ext h0 h1:=fun j c hj=>by
    have:=h0.lt _ _ hj
    rw[f1.wV j (by omega) (by omega) (by omega),hx j c hj]
   obtain⟨h',k,g1,g2,f2⟩:=DY hn h0 rd ia ib ok hab hia hib q (p++[t]) (zM [t] A) (zX [t] B) h1 (by rw[hp];simp) hx1 (vG hnx f1.next) ga1 gb1 (by rw[Bm,hA]) (by rw[Bp,hB]) (fun y hy=>by have:=Bn [t] A _ (by omega) rA y hy;simp at this ⊢;omega) (fun y hy=>by have:=Bq [t] B _ (by omega) rB y hy;simp at this ⊢;omega) (by rw[f1.floor];exact fa) (by rw[f1.floor];exact fb) (by rw[f1.floor];exact vG hfl f1.next)
   rw[n1]at k
   exact⟨h',tN s1 k,g1,g2,f1.trans f2⟩
def xU:List Int→List Int→List Int
 |[],C=>C
 |d::r,C=>xU r (xz C d.toNat)
theorem Br:∀(ds C:List Int),(xU ds C).length=C.length
 |[],C=>rfl
 |d::r,C=>by rw[xU,Br r,yo]
theorem Bs:∀(ds A:List Int) (n:Int),0≤n→(∀y∈A,0≤y∧y≤n)→∀y∈xU ds A,0≤y∧y≤n+ds.length
 |[],A,n,hn,h=>by simpa [xU]using h
 | t :: r, A, n, hn, h => by
   intro y hy
   rw[xU]at hy
   have:=Bs r _ (n+1) (by omega) (z5 h hn) y hy
   simp only[XO];omega
theorem DW {lv dv mv av:AV} {D:List Int} (hD:D.length<1000) (hr:∀d∈D,0≤d∧d<19) (ic:Nat) (hb:H) (rd:Rd hb av (ints D)) (hno:hb.get ic=none):∀(q p C:List Int) (h:H),D=p++q→Ext hb h→h.get ic=some (ints C)→C.length=19→(∀y∈C,0≤y∧y≤(p.length:Int))→h.floor≤ic→
 ∃h',Lp AP.A [0,11,13,15,16,17] AP.f13L3 [(0,lv),(11,dv),(13,mv),(15,av),(16,.aE ic 0 19 1),(17,.int .i64 p.length)] h=some (.exit 2,[(0,lv),(11,dv),(13,mv),(15,av),(16,.aE ic 0 19 1),(17,.int .i64 D.length),(122,.bool false)],h')∧h'.get ic=some (ints (xU q C))∧h'.floor=h.floor∧h'.next=h.next∧(∀i,i≠ic→h'.get i=h.get i)
 | [], p, C, h, hp, hx, gc, hC, rC, fc => by
   rw[XZ]at hp;subst hp
   have ln:=rd.len
   rw[pY]at ln
   simp only[I]at ln
   refine⟨h,tM ?_,gc,rfl,rfl,fun _ _=>rfl⟩
   simp (disch:=omega)only[go_sem,vT,AP.f13L3,ln]
 | d :: q, p, C, h, hp, hx, gc, hC, rC, fc => by
   have ln:=rd.len
   rw[pY]at ln
   simp only[I]at ln
   have hl:D.length=p.length+(q.length+1):=by rw[hp];simp
   obtain⟨ad,a1,a2⟩:=rd.xi
   have b1:=a1 p.length ⟨by omega,by omega⟩
   have hd:D[p.length]?=some d:=by rw[hp];simp
   have dr:=hr d (vq hd)
   obtain⟨y,rfl⟩:=XT dr.1
   have b2:=a2 h hx p.length _ hd
   have lc:(ints C).length=19:=by rw[pY,hC]
   have gx:=zu (l:=C) (i:=y) (by omega)
   have xr:0≤C.getD y 0∧C.getD y 0≤(p.length:Int):=by
    rw[XN,XQ (by omega)]
    exact rC _ (X4 _)
   have es:=xj C y (C.getD y 0+1)
   change _=ints (xz C y)at es
   have ty:((y:Nat):Int).toNat=y:=by omega
   have g2:(h.set ic (ints (xz C y))).get ic=some (ints (xz C y)):=by rw[v9 rfl,gc];rfl
   obtain⟨h',k,g,f,n,t⟩:=DW (lv:=lv) (dv:=dv) (mv:=mv) hD hr ic hb rd hno q (p++[(y:Int)]) (xz C y) (h.set ic (ints (xz C y))) (by rw[hp];simp) (hx.Df hno _) g2 (by rw[yo,hC]) (fun z hz=>by have:=z5 rC (by omega) z hz;simp;omega) (by simpa using fc)
   have n1:(((p++[(y:Int)]).length:Nat):Int)=(p.length:Int)+1:=by simp
   rw[xU,ty]
   refine⟨h',tN ?_ k,g,by rw[f];simp,by rw[n];simp,fun i hi=>by rw[t i hi,vN hi]⟩
   rw[n1]
   clear k g f n t g2 rd a1 a2 hr hp hd hx rC
   generalize C.getD y 0=z at *
   generalize ints (xz C y)=C2 at *
   generalize ints C=C0 at *
   simp (disch:=omega)only[go_sem,vT,AP.f13L3,ln,b1,b2,gc,lc,gx,es]
theorem JA {a0 a1 a2 a3 lv ov:AV} {L:List Int} (hL:L.length=19) (ir:Nat) (hb:H) (rl:Rd hb lv (ints L)) (ro:Rd hb ov (ints vQ)) (hno:hb.get ir=none):∀(m i:Nat) (h:H),i+m=19→Ext hb h→h.get ir=some (ints ((vQ.take i).map (fun o=>L.getD o.toNat 0)++List.replicate m 0))→h.floor≤ir→
 ∃h',Lp AP.A [0,11,13,15,18,20,21,22] AP.f13L2 [(0,a0),(11,a1),(13,a2),(15,a3),(18,lv),(20,ov),(21,.aE ir 0 19 1),(22,.int .i64 i)] h=some (.exit 4,[(0,a0),(11,a1),(13,a2),(15,a3),(18,lv),(20,ov),(21,.aE ir 0 19 1),(22,.int .i64 19),(142,.bool false)],h')∧h'.get ir=some (ints (vQ.map (fun o=>L.getD o.toNat 0)))∧h'.floor=h.floor∧h'.next=h.next∧(∀i,i≠ir→h'.get i=h.get i)
 | 0, i, h, hi, hx, gr, fr => by
   obtain rfl:i=19:=by omega
   have e:vQ.take 19=vQ:=rfl
   rw[e,List.replicate_zero,XZ]at gr
   refine⟨h,tM ?_,gr,rfl,rfl,fun _ _=>rfl⟩
   simp (disch:=omega)only[go_sem,vT,AP.f13L2]
 | m + 1, i, h, hi, hx, gr, fr => by
   have hi19:i<vQ.length:=by show i<19;omega
   obtain⟨ad,d1,d2⟩:=rl.xi
   obtain⟨ao,o1,o2⟩:=ro.xi
   have b1:=o1 i ⟨by omega,by omega⟩
   have ho:vQ[i]?=some (vQ[i]):=XQ hi19
   have orr:0≤vQ[i]∧vQ[i]<19:=AO _ (X4 hi19)
   have tk:vQ.take (i+1)=vQ.take i++[vQ[i]]:=by rw[List.take_add_one,ho];rfl
   obtain⟨y,hy⟩:=XT orr.1
   have ho2:vQ[i]?=some (y:Int):=by rw[ho,hy]
   have b2:=o2 h hx i _ ho2
   have c1:=d1 y ⟨by omega,by omega⟩
   have lgy:L[y]?=some (L.getD y 0):=by rw[XN,XQ (by omega)];rfl
   have c2:=d2 h hx y _ lgy
   have ty:((y:Nat):Int).toNat=y:=by omega
   have lr:(ints ((vQ.take i).map (fun o=>L.getD o.toNat 0)++List.replicate (m+1) 0)).length=19:=by
    rw[pY,vI,Yu,Yb,X3];show min i 19+(m+1)=19;omega
   have il:((vQ.take i).map (fun o=>L.getD o.toNat 0)).length=i:=by rw[Yu,Yb];show min i 19=i;omega
   have es:(ints ((vQ.take i).map (fun o=>L.getD o.toNat 0)++List.replicate (m+1) 0)).set i (.int .i64 (L.getD y 0))=ints ((vQ.take (i+1)).map (fun o=>L.getD o.toNat 0)++List.replicate m 0):=by
    rw[xj,Yn _ _ (by omega),il,YB,tk,List.map_append,XV,hy]
    rfl
   have g2:(h.set ir (ints ((vQ.take (i+1)).map (fun o=>L.getD o.toNat 0)++List.replicate m 0))).get ir=some (ints ((vQ.take (i+1)).map (fun o=>L.getD o.toNat 0)++List.replicate m 0)):=by rw[v9 rfl,gr];rfl
   obtain⟨h',k,g,f,n,t⟩:=JA (a0:=a0) (a1:=a1) (a2:=a2) (a3:=a3) hL ir hb rl ro hno m (i+1) _ (by omega) (hx.Df hno _) g2 (by simpa using fr)
   have n1:((i+1:Nat):Int)=(i:Int)+1:=by omega
   refine⟨h',tN ?_ k,g,by rw[f];simp,by rw[n];simp,fun i hi=>by rw[t i hi,vN hi]⟩
   rw[n1]
   clear k g f n t g2 rl ro d1 d2 o1 o2 hx ho ho2 hy orr tk lgy il
   generalize L.getD y 0=z at *
   generalize ints ((vQ.take (i+1)).map (fun o=>L.getD o.toNat 0)++List.replicate m 0)=R2 at *
   generalize ints ((vQ.take i).map (fun o=>L.getD o.toNat 0)++List.replicate (m+1) 0)=R0 at *
   simp (disch:=omega)only[go_sem,vT,AP.f13L2,b1,b2,c1,c2,gr,lr,es]
def zJ (R:List Int):List Nat:=R.flatMap fun y=>wc y.toNat 3
theorem BL:∀R:List Int,(zJ R).length=3* R.length
 |[]=>rfl
 | y :: R => by
   have:=BL R
   unfold zJ at *
   rw[XW,vI,this];simp [wc,wm];omega
theorem G0 {a0 a1 a2 a3 a4 rv:AV} {R:List Int} (h0:H) (rr:Rd h0 rv (ints R)) (k:Nat) (hk:k≤R.length) (hR:R.length=19) (w:Nat) (hr:∀y∈R,0≤y∧y<8):∀(m i:Nat) (bs:List Nat) (h:H) (ov:AV),i+m=k→WX h0 h w bs ov→bs.length+3* m≤65000→
 ∃e' h' ov',Lp AP.A [0,11,13,15,18,21,23,24,25] AP.f13L1 [(0,a0),(11,a1),(13,a2),(15,a3),(18,a4),(21,rv),(23,.int .i64 k),(24,.aD w 0),(25,.int .i64 i)] h=some (.exit 6,e',h')∧look e' 0=a0∧look e' 11=a1∧look e' 13=a2∧look e' 15=a3∧look e' 18=a4∧look e' 24=.aD w 0∧WX h0 h' w (bs++zJ ((R.drop i).take m)) ov'
 | 0, i, bs, h, ov, hi, x, hb => by
   obtain rfl:i=k:=by omega
   refine⟨[(0,a0),(11,a1),(13,a2),(15,a3),(18,a4),(21,rv),(23,.int .i64 i),(24,.aD w 0),(25,.int .i64 i),(177,.bool false)],h,ov,tM ?_,rfl,rfl,rfl,rfl,rfl,rfl,by simpa [zJ]using x⟩
   simp (disch:=omega)only[go_sem,vT,AP.f13L1]
 | m + 1, i, bs, h, ov, hi, x, hb => by
   obtain⟨ad,d1,d2⟩:=rr.xi
   have b1:=d1 i ⟨by omega,by omega⟩
   have hg:R[i]?=some (R.getD i 0):=by rw[XN,XQ (by omega)];rfl
   have yr:=hr _ (vq hg)
   obtain⟨y,hy⟩:=XT yr.1
   rw[hy]at hg yr
   have b2:=d2 h x.ext i _ hg
   have dr:R.drop i=(y:Int)::R.drop (i+1):=by
    rw[List.drop_eq_getElem_cons (by omega)]
    rw[XQ (by omega)]at hg
    rw[u6 hg]
   obtain⟨h1,o1,k1,w1,f1⟩:=Aj x.wr y 3 (by omega) (by omega) (by omega)
   have k1':aR AP.A 33 [.aD w 0,.int .i64 y,.int .i64 3] h=_:=k1
   have x1:=x.step w1 f1
   have hl1:(bs++wc y 3).length=bs.length+3:=by simp [wc,wm]
   obtain⟨e',h',ov',r1,r2,r3,r4,r5,r6,r7,x2⟩:=G0 (a0:=a0) (a1:=a1) (a2:=a2) (a3:=a3) (a4:=a4) h0 rr k hk hR w hr m (i+1) _ h1 o1 (by omega) x1 (by rw[hl1];omega)
   have n1:((i+1:Nat):Int)=(i:Int)+1:=by omega
   refine⟨e',h',ov',tN ?_ r1,r2,r3,r4,r5,r6,r7, ?_⟩
   · rw[n1]
     clear r1 r2 r3 r4 r5 r6 r7 x2 x1 w1 f1 x rr d1 d2 hr dr hy hg
     simp (disch:=omega)only[go_sem,vT,AP.f13L1,b1,b2,k1']
   · rw[dr,vu]
     have:zJ ((y:Int)::(R.drop (i+1)).take m)=wc y 3++zJ ((R.drop (i+1)).take m):=by unfold zJ;rw[XW];rfl
     rw[this,←XV]
     exact x2
def zd (E:List (Int×Int)) (D:List Int):List Nat:=D.flatMap fun y=>vY E y.toNat
theorem EB {E:List (Int×Int)}:∀{D:List Int},(∀y∈D,B9 E y.toNat)→(zd E D).length≤15* D.length
 |[],_=>by simp [zd]
 | y :: D, h => by
   have:=EB (E:=E) (D:=D) fun z hz=>h z (by simp [hz])
   obtain⟨n,v,_,q1,q2,q3,q4⟩:=(h y (by simp)).bits
   unfold zd at *
   rw[XW,vI,q4,xc,XO];omega
theorem Fu {a0 a1 a2 av ev:AV} {D:List Int} {E:List (Int×Int)} (h0:H) (ra:Rd h0 av (ints D)) (re:yC 2 h0 ev E.length (E.flatMap wU)) (hD:D.length<1000) (hE:E.length=19) (w:Nat) (hr:∀y∈D,0≤y∧y<19) (ok:∀y∈D,B9 E y.toNat):∀(q p:List Int) (bs:List Nat) (h:H) (ov:AV),D=p++q→WX h0 h w bs ov→bs.length+15* q.length≤65000→
 ∃e' h' ov',Lp AP.A [0,11,13,15,24,26,28] AP.f13L0 [(0,a0),(11,a1),(13,a2),(15,av),(24,.aD w 0),(26,ev),(28,.int .i64 p.length)] h=some (.exit 8,e',h')∧look e' 0=a0∧look e' 11=a1∧look e' 13=a2∧look e' 24=.aD w 0∧WX h0 h' w (bs++zd E q) ov'
 | [], p, bs, h, ov, hp, x, hb => by
   rw[XZ]at hp;subst hp
   have ln:=ra.len
   rw[pY]at ln
   simp only[I]at ln
   refine⟨[(0,a0),(11,a1),(13,a2),(15,av),(24,.aD w 0),(26,ev),(28,.int .i64 D.length),(194,.bool false)],h,ov,tM ?_,rfl,rfl,rfl,rfl,by simpa [zd]using x⟩
   simp (disch:=omega)only[go_sem,vT,AP.f13L0,ln]
 | d :: q, p, bs, h, ov, hp, x, hb => by
   have ln:=ra.len
   rw[pY]at ln
   simp only[I]at ln
   have hl:D.length=p.length+(q.length+1):=by rw[hp];simp
   obtain⟨ad,d1,d2⟩:=ra.xi
   obtain⟨ae,e1,e2⟩:=re.GP
   have b1:=d1 p.length ⟨by omega,by omega⟩
   have hd:D[p.length]?=some d:=by rw[hp];simp
   have dr:=hr d (vq hd)
   have oc:=ok d (vq hd)
   obtain⟨y,rfl⟩:=XT dr.1
   have b2:=d2 h x.ext p.length _ hd
   have ty:((y:Nat):Int).toNat=y:=by omega
   rw[ty]at oc
   obtain⟨n,c,q0,q1,q2,q3,q4⟩:=oc.bits
   have yl:=oc.lt
   have c1:=e1 y ⟨by omega,by omega⟩
   have c2:=e2 h x.ext _ _ q0
   simp only[XO]at hb
   obtain⟨h1,o1,k1,w1,f1⟩:=Dl x.wr c n q1 q2 q3 (by omega)
   have x1:=x.step w1 f1
   have hl1:(bs++yQ c n).length=bs.length+n:=by simp [xc]
   obtain⟨e',h',ov',r1,r2,r3,r4,r5,x2⟩:=Fu (a0:=a0) (a1:=a1) (a2:=a2) h0 ra re hD hE w hr ok q (p++[(y:Int)]) _ h1 o1 (by rw[hp];simp) x1 (by rw[hl1];omega)
   have n1:(((p++[(y:Int)]).length:Nat):Int)=(p.length:Int)+1:=by simp
   refine⟨e',h',ov',tN ?_ r1,r2,r3,r4,r5, ?_⟩
   · rw[n1]
     clear r1 r2 r3 r4 r5 x2 x1 w1 f1 x ra re d1 d2 e1 e2 hr hp hd ok oc q4 q0 q3
     simp (disch:=omega)only[go_sem,vT,AP.f13L0,ln,b1,b2,c1,c2,k1]
   · have:zd E ((y:Int)::q)=yQ c n++zd E q:=by unfold zd;rw[XW,ty,q4]
     rw[this,←XV]
     exact x2
theorem W9 {v0:AV} {g:H}:aL (aR AP.A) bq (at_ 0 AP.f13.body) (params 0 [v0]) g=some (.normal,[(0,v0)],g):=by
 simp (disch:=omega)only[go_sem,vT,AP.f13,xR,xW]
theorem Xa {v0:AV} {g:H} (k:aR AP.A 27 [v0] g=some (.bool true,g)):aL (aR AP.A) bq (at_ 1 AP.f13.body) [(0,v0)] g=some (.normal,[(0,v0)],g):=by
 simp (disch:=omega)only[go_sem,vT,AP.f13,xR,xW,k]
theorem Xe {v0 v4 v5 v11:AV} {g:H} (k:aR AP.A 30 [v4,.int .i64 15] g=some (.bM [v11,.int .i64 0],g)):aL (aR AP.A) bq (at_ 5 AP.f13.body) [(0,v0),(4,v4),(5,v5)] g=some (.normal,[(0,v0),(5,v5),(11,v11)],g):=by
 simp (disch:=omega)only[go_sem,vT,AP.f13,xR,xW,k]
theorem Xf {v0 v5 v11 v13:AV} {g:H} (k:aR AP.A 30 [v5,.int .i64 15] g=some (.bM [v13,.int .i64 0],g)):aL (aR AP.A) bq (at_ 6 AP.f13.body) [(0,v0),(5,v5),(11,v11)] g=some (.normal,[(0,v0),(11,v11),(13,v13)],g):=by
 simp (disch:=omega)only[go_sem,vT,AP.f13,xR,xW,k]
theorem VL {v0 v11 v13 v15 v16 v18:AV} {g:H} (k:aR AP.A 30 [v16,.int .i64 7] g=some (.bM [v18,.int .i64 0],g)):aL (aR AP.A) bq (at_ 13 AP.f13.body) [(0,v0),(11,v11),(13,v13),(15,v15),(16,v16)] g=some (.normal,[(0,v0),(11,v11),(13,v13),(15,v15),(18,v18)],g):=by
 simp (disch:=omega)only[go_sem,vT,AP.f13,xR,xW,k]
theorem VM {v0 v11 v13 v15 v18 v20:AV} {g:H} (k:aR AP.A 32 [] g=some (v20,g)):aL (aR AP.A) bq (at_ 14 AP.f13.body) [(0,v0),(11,v11),(13,v13),(15,v15),(18,v18)] g=some (.normal,[(0,v0),(11,v11),(13,v13),(15,v15),(18,v18),(20,v20)],g):=by
 simp (disch:=omega)only[go_sem,vT,AP.f13,xR,xW,k]
theorem VP {v0 v11 v13 v15 v18 v21 v23:AV} {g:H} (k:aR AP.A 31 [v21,.int .i64 4] g=some (v23,g)):aL (aR AP.A) bq (at_ 17 AP.f13.body) [(0,v0),(11,v11),(13,v13),(15,v15),(18,v18),(21,v21)] g=some (.normal,[(0,v0),(11,v11),(13,v13),(15,v15),(18,v18),(21,v21),(23,v23)],g):=by
 simp (disch:=omega)only[go_sem,vT,AP.f13,xR,xW,k]
theorem VQ {v0 v11 v13 v15 v18 v21 v23:AV} {g:H}:aL (aR AP.A) bq (at_ 18 AP.f13.body) [(0,v0),(11,v11),(13,v13),(15,v15),(18,v18),(21,v21),(23,v23)] g=some (.normal,[(0,v0),(11,v11),(13,v13),(15,v15),(18,v18),(21,v21),(23,v23),(24,.aD g.next 0)],(g.alloc [.aP,.int .i64 0])):=by
 simp (disch:=omega)only[go_sem,vT,AP.f13,xR,xW]
theorem VR {v0 v11 v13 v15 v18 v21 v23 v24:AV} {g g2:H} (k:aR AP.A 33 [v24,.int .i64 5,.int .i64 3] g=some (.int .i64 0,g2)):aL (aR AP.A) bq (at_ 19 AP.f13.body) [(0,v0),(11,v11),(13,v13),(15,v15),(18,v18),(21,v21),(23,v23),(24,v24)] g=some (.normal,[(0,v0),(11,v11),(13,v13),(15,v15),(18,v18),(21,v21),(23,v23),(24,v24)],g2):=by
 simp (disch:=omega)only[go_sem,vT,AP.f13,xR,xW,k]
theorem VS {v0 v11 v13 v15 v18 v21 v23 v24:AV} {g g2:H} {n:Nat} (ln:jc false v11=some (.int .i64 n)) (hn:n<1000) (k:aR AP.A 33 [v24,.int .i64 ((n:Int)-257),.int .i64 5] g=some (.int .i64 0,g2)):aL (aR AP.A) bq (at_ 20 AP.f13.body) [(0,v0),(11,v11),(13,v13),(15,v15),(18,v18),(21,v21),(23,v23),(24,v24)] g=some (.normal,[(0,v0),(11,v11),(13,v13),(15,v15),(18,v18),(21,v21),(23,v23),(24,v24)],g2):=by
 simp (disch:=omega)only[go_sem,vT,AP.f13,xR,xW,ln,k]
theorem VT {v0 v11 v13 v15 v18 v21 v23 v24:AV} {g g2:H} {n:Nat} (ln:jc false v13=some (.int .i64 n)) (hn:n<1000) (k:aR AP.A 33 [v24,.int .i64 ((n:Int)-1),.int .i64 5] g=some (.int .i64 0,g2)):aL (aR AP.A) bq (at_ 21 AP.f13.body) [(0,v0),(11,v11),(13,v13),(15,v15),(18,v18),(21,v21),(23,v23),(24,v24)] g=some (.normal,[(0,v0),(11,v11),(13,v13),(15,v15),(18,v18),(21,v21),(23,v23),(24,v24)],g2):=by
 simp (disch:=omega)only[go_sem,vT,AP.f13,xR,xW,ln,k]
theorem VU {v0 v11 v13 v15 v18 v21 v24:AV} {g g2:H} {n:Nat} (hn:n<1000) (k:aR AP.A 33 [v24,.int .i64 ((n:Int)-4),.int .i64 4] g=some (.int .i64 0,g2)):aL (aR AP.A) bq (at_ 22 AP.f13.body) [(0,v0),(11,v11),(13,v13),(15,v15),(18,v18),(21,v21),(23,.int .i64 n),(24,v24)] g=some (.normal,[(0,v0),(11,v11),(13,v13),(15,v15),(18,v18),(21,v21),(23,.int .i64 n),(24,v24)],g2):=by
 simp (disch:=omega)only[go_sem,vT,AP.f13,xR,xW,k]
theorem VW {v0 v11 v13 v15 v18 v21 v23 v24:AV} {g g2:H} {e:Env} (L:Lp AP.A [0,11,13,15,18,21,23,24,25] AP.f13L1 [(0,v0),(11,v11),(13,v13),(15,v15),(18,v18),(21,v21),(23,v23),(24,v24),(25,.int .i64 0)] g=some (.exit 6,e,g2)) (q0:look e 0=v0) (q11:look e 11=v11) (q13:look e 13=v13) (q15:look e 15=v15) (q18:look e 18=v18) (q24:look e 24=v24):aL (aR AP.A) bq (at_ 23 AP.f13.body) [(0,v0),(11,v11),(13,v13),(15,v15),(18,v18),(21,v21),(23,v23),(24,v24)] g=some (.normal,[(0,v0),(11,v11),(13,v13),(15,v15),(18,v18),(24,v24)],g2):=by
 simp (disch:=omega)only[go_sem,vT,AP.f13,xR,xW,sG,L,q0,q11,q13,q15,q18,q24]
theorem VY {v0 v11 v13 v15 v18 v24 v26:AV} {g:H} (k:aR AP.A 34 [v18] g=some (.bM [v26,.int .i64 0],g)):aL (aR AP.A) bq (at_ 24 AP.f13.body) [(0,v0),(11,v11),(13,v13),(15,v15),(18,v18),(24,v24)] g=some (.normal,[(0,v0),(11,v11),(13,v13),(15,v15),(24,v24),(26,v26)],g):=by
 simp (disch:=omega)only[go_sem,vT,AP.f13,xR,xW,k]
theorem VZ {v0 v11 v13 v15 v24 v26:AV} {g g2:H} {e:Env} (L:Lp AP.A [0,11,13,15,24,26,28] AP.f13L0 [(0,v0),(11,v11),(13,v13),(15,v15),(24,v24),(26,v26),(28,.int .i64 0)] g=some (.exit 8,e,g2)) (q0:look e 0=v0) (q11:look e 11=v11) (q13:look e 13=v13) (q24:look e 24=v24):aL (aR AP.A) bq (at_ 25 AP.f13.body) [(0,v0),(11,v11),(13,v13),(15,v15),(24,v24),(26,v26)] g=some (.normal,[(0,v0),(11,v11),(13,v13),(24,v24)],g2):=by
 simp (disch:=omega)only[go_sem,vT,AP.f13,xR,xW,sG,L,q0,q11,q13,q24]
theorem V0 {v0 v11 v13 v24 v29:AV} {g:H} (k:aR AP.A 34 [v11] g=some (.bM [v29,.int .i64 0],g)):aL (aR AP.A) bq (at_ 26 AP.f13.body) [(0,v0),(11,v11),(13,v13),(24,v24)] g=some (.normal,[(0,v0),(13,v13),(24,v24),(29,v29)],g):=by
 simp (disch:=omega)only[go_sem,vT,AP.f13,xR,xW,k]
theorem V3 {v0 v13 v24 v29 v31:AV} {g:H} (k:aR AP.A 34 [v13] g=some (.bM [v31,.int .i64 0],g)):aL (aR AP.A) bq (at_ 27 AP.f13.body) [(0,v0),(13,v13),(24,v24),(29,v29)] g=some (.normal,[(0,v0),(24,v24),(29,v29),(31,v31)],g):=by
 simp (disch:=omega)only[go_sem,vT,AP.f13,xR,xW,k]
theorem V4 {v0 v24 v29 v31:AV} {g g2:H} (k:aR AP.A 36 [v24,v0,v29,v31] g=some (.bM [],g2)):aL (aR AP.A) bq (at_ 28 AP.f13.body) [(0,v0),(24,v24),(29,v29),(31,v31)] g=some (.normal,[(24,v24)],g2):=by
 simp (disch:=omega)only[go_sem,vT,AP.f13,xR,xW,k]
theorem V5 {v24:AV} {g:H} {t:ByteArray} (k:aR AP.A 37 [v24] g=some (.str t,g)):aL (aR AP.A) bq (Lv 29 AP.f13.body) [(24,v24)] g=some (.ret,[(2,.str t),(3,.int .i64 0)],g):=by
 simp (disch:=omega)only[go_sem,vT,AP.f13,Oe,Od,k]
theorem MP {h:H} {cs:List AV} {N k:Nat} (hN:cs.length=N) (h0:0<N) (hk:k≤N):sx h 1 (yJ 1 N cs) none (some (.int .i64 k)) none=some (.aV false cs 0 k 1):=by
 unfold yJ
 rw[if_neg (by omega)]
 exact ED hN hk
theorem Xg {v0 v11 v13:AV} {g:H} {cs:List AV} {N k:Nat} (hN:cs.length=N) (h0:0<N) (hk:k≤N) (e:v11=yJ 1 N cs) (u:aR AP.A 31 [yJ 1 N cs,.int .i64 257] g=some (.int .i64 k,g)):aL (aR AP.A) bq (at_ 7 AP.f13.body) [(0,v0),(11,v11),(13,v13)] g=some (.normal,[(0,v0),(11,.aV false cs 0 k 1),(13,v13)],g):=by
 subst e
 have s:=MP (h:=g) hN h0 hk
 generalize yJ 1 N cs=S at *
 simp (disch:=omega)only[go_sem,vT,AP.f13,xR,xW,u,s]
theorem Xh {v0 v11 v13:AV} {g:H} {cs:List AV} {N k:Nat} (hN:cs.length=N) (h0:0<N) (hk:k≤N) (e:v13=yJ 1 N cs) (u:aR AP.A 31 [yJ 1 N cs,.int .i64 1] g=some (.int .i64 k,g)):aL (aR AP.A) bq (at_ 8 AP.f13.body) [(0,v0),(11,v11),(13,v13)] g=some (.normal,[(0,v0),(11,v11),(13,.aV false cs 0 k 1)],g):=by
 subst e
 have s:=MP (h:=g) hN h0 hk
 generalize yJ 1 N cs=S at *
 simp (disch:=omega)only[go_sem,vT,AP.f13,xR,xW,u,s]
theorem Xi {v0 v11 v13 v15:AV} {g g2:H} (p:kM (g.alloc []) 1 8 (.aE g.next 0 0 1) v11=some (v15,g2)):aL (aR AP.A) bq (at_ 9 AP.f13.body) [(0,v0),(11,v11),(13,v13)] g=some (.normal,[(0,v0),(11,v11),(13,v13),(15,v15)],g2):=by
 simp (disch:=omega)only[go_sem,vT,AP.f13,xR,xW,p]
theorem VH {v0 v11 v13 v15 v16:AV} {g g2:H} (p:kM g 1 8 v15 v13=some (v16,g2)):aL (aR AP.A) bq (at_ 10 AP.f13.body) [(0,v0),(11,v11),(13,v13),(15,v15)] g=some (.normal,[(0,v0),(11,v11),(13,v13),(15,v16)],g2):=by
 simp (disch:=omega)only[go_sem,vT,AP.f13,xR,xW,p]
theorem VJ {v0 v11 v13 v15:AV} {g:H}:aL (aR AP.A) bq (at_ 11 AP.f13.body) [(0,v0),(11,v11),(13,v13),(15,v15)] g=some (.normal,[(0,v0),(11,v11),(13,v13),(15,v15),(16,.aE g.next 0 19 1)],(g.alloc (yE 19 [.int .i64 0]))):=by
 simp (disch:=omega)only[go_sem,vT,AP.f13,xR,xW]
theorem VN {v0 v11 v13 v15 v18 v20:AV} {g:H}:aL (aR AP.A) bq (at_ 15 AP.f13.body) [(0,v0),(11,v11),(13,v13),(15,v15),(18,v18),(20,v20)] g=some (.normal,[(0,v0),(11,v11),(13,v13),(15,v15),(18,v18),(20,v20),(21,.aE g.next 0 19 1)],(g.alloc (yE 19 [.int .i64 0]))):=by
 simp (disch:=omega)only[go_sem,vT,AP.f13,xR,xW]
theorem VK {v0 v11 v13 v15 v16 x17 x122:AV} {g g2:H} (L:Lp AP.A [0,11,13,15,16,17] AP.f13L3 [(0,v0),(11,v11),(13,v13),(15,v15),(16,v16),(17,.int .i64 0)] g=some (.exit 2,[(0,v0),(11,v11),(13,v13),(15,v15),(16,v16),(17,x17),(122,x122)],g2)):aL (aR AP.A) bq (at_ 12 AP.f13.body) [(0,v0),(11,v11),(13,v13),(15,v15),(16,v16)] g=some (.normal,[(0,v0),(11,v11),(13,v13),(15,v15),(16,v16)],g2):=by
 simp (disch:=omega)only[go_sem,vT,AP.f13,xR,xW,sG,L]
theorem VO {v0 v11 v13 v15 v18 v20 v21 x22 x142:AV} {g g2:H} (L:Lp AP.A [0,11,13,15,18,20,21,22] AP.f13L2 [(0,v0),(11,v11),(13,v13),(15,v15),(18,v18),(20,v20),(21,v21),(22,.int .i64 0)] g=some (.exit 4,[(0,v0),(11,v11),(13,v13),(15,v15),(18,v18),(20,v20),(21,v21),(22,x22),(142,x142)],g2)):aL (aR AP.A) bq (at_ 16 AP.f13.body) [(0,v0),(11,v11),(13,v13),(15,v15),(18,v18),(20,v20),(21,v21)] g=some (.normal,[(0,v0),(11,v11),(13,v13),(15,v15),(18,v18),(21,v21)],g2):=by
 simp (disch:=omega)only[go_sem,vT,AP.f13,xR,xW,sG,L]
theorem Xd {v0 v4 v5 x6 x43:AV} {g g2:H} (L:Lp AP.A [0,4,5,6] AP.f13L4 [(0,v0),(4,v4),(5,v5),(6,.int .i64 0)] g=some (.exit 0,[(0,v0),(4,v4),(5,v5),(6,x6),(43,x43)],g2)):aL (aR AP.A) bq (at_ 4 AP.f13.body) [(0,v0),(4,v4),(5,v5)] g=some (.normal,[(0,v0),(4,v4),(5,v5)],g2):=by
 simp (disch:=omega)only[go_sem,vT,AP.f13,xR,xW,sG,L]
theorem Xb {v0:AV} {g:H}:aL (aR AP.A) bq (at_ 2 AP.f13.body) [(0,v0)] g=some (.normal,[(0,v0),(4,.aE g.next 0 286 1),(5,.aE (g.next+1) 0 30 1)],(g.alloc (yE 286 [.int .i64 0])).alloc (yE 30 [.int .i64 0])):=by
 simp (disch:=first|omega|(simp only[xk,XO,XR,vr,Nat.reduceAdd];first|done|omega|fail)|(simp (disch:=first|omega|(simp only[xk,XO,XR,vr,Nat.reduceAdd];first|done|omega|fail)|fail)only[xk,Bb,XU,XO,XR,vr,Nat.reduceAdd];done)|fail)only[go_sem,vT,Ba,AP.f13,xR,xW]
theorem Xc {v0 v5:AV} {g:H} {ia:Nat} {A:List AV} (ga:g.get ia=some A) (hA:A.length=286) (fa:g.floor≤ia):aL (aR AP.A) bq (at_ 3 AP.f13.body) [(0,v0),(4,.aE ia 0 286 1),(5,v5)] g=some (.normal,[(0,v0),(4,.aE ia 0 286 1),(5,v5)],g.set ia (A.set 256 (.int .i64 1))):=by
 simp (disch:=omega)only[go_sem,vT,AP.f13,xR,xW,ga,hA]
theorem OE:AP.f13.body=.seq (at_ 0 AP.f13.body) (.seq (at_ 1 AP.f13.body) (.seq (at_ 2 AP.f13.body) (.seq (at_ 3 AP.f13.body) (.seq (at_ 4 AP.f13.body) (.seq (at_ 5 AP.f13.body) (.seq (at_ 6 AP.f13.body) (.seq (at_ 7 AP.f13.body) (.seq (at_ 8 AP.f13.body) (.seq (at_ 9 AP.f13.body) (.seq (at_ 10 AP.f13.body) (.seq (at_ 11 AP.f13.body) (.seq (at_ 12 AP.f13.body) (.seq (at_ 13 AP.f13.body) (.seq (at_ 14 AP.f13.body) (.seq (at_ 15 AP.f13.body) (.seq (at_ 16 AP.f13.body) (.seq (at_ 17 AP.f13.body) (.seq (at_ 18 AP.f13.body) (.seq (at_ 19 AP.f13.body) (.seq (at_ 20 AP.f13.body) (.seq (at_ 21 AP.f13.body) (.seq (at_ 22 AP.f13.body) (.seq (at_ 23 AP.f13.body) (.seq (at_ 24 AP.f13.body) (.seq (at_ 25 AP.f13.body) (.seq (at_ 26 AP.f13.body) (.seq (at_ 27 AP.f13.body) (.seq (at_ 28 AP.f13.body) ((Lv 29 AP.f13.body)))))))))))))))))))))))))))))):=rfl
theorem xB (l:List Int) (k:Nat):∀n,k≤wA l k n∧wA l k n≤max k n
 |0=>⟨vm _,by rw[wA];omega⟩
 | n + 1 => by
   rw[wA]
   have:=xB l k n
   split
   · omega
   · split
     · omega
     · omega
theorem DF:∀(K:Nat) (S W O:List Int),(zc S K W O).length=O.length
 |0,S,W,O=>by rw[zc,xu]
 |K+1,S,W,O=>by rw[zc,DF K,xu]
theorem yS (C:List Int) (K:Nat):(xe C K).length=C.length:=by unfold xe;rw[DF];simp
theorem Ew (h:H) (l:List Int) {k:Nat} (hk:k≤l.length):Rd h (.aV false (ints l) 0 k 1) (ints (l.take k)):=by
 refine⟨?_,by intro s e;cases e⟩
 have:(ints (l.take k)).length=k:=by rw[pY,Yb];omega
 rw[this]
 simp [aS,ints,hk,List.map_take]
def dA (ts:List Tok):List Int:=zM ts ((List.replicate 286 0).set 256 1)
def dB (ts:List Tok):List Int:=zX ts (List.replicate 30 0)
def Ak (l:List Int) (k:Nat):List Int:=l.take (wA l k l.length)
theorem AF (l:List Int) {k:Nat} (h:k≤l.length):(Ak l k).length=wA l k l.length:=by
 have:=xB l k l.length
 unfold Ak;rw[Yb];omega
def wX (ts:List Tok) (la lb Lc:List Int):List Nat:=
 let all:=la++lb
 let row:=vQ.map (fun o=>Lc.getD o.toNat 0)
 let k:=wA row 4 19
 wc 5 3++(wc (la.length-257) 5++(wc (lb.length-1) 5++(wc (k-4) 4++(zJ (row.take k)++(zd (vO Lc) all++(w9 (vO la) (vO lb) ts++vY (vO la) 256))))))
structure Bh (ts:List Tok) (KA KB KC:Nat) (la lb Lc:List Int):Prop where
 H4:Ds ts=true
 n:ts.length≤300
 tok:∀t∈ts,y6 t
 ra:yc 15 KA (xE (dA ts))
 rb:yc 15 KB (xE (dB ts))
 ea:la=Ak (xe (dA ts) KA) 257
 eb:lb=Ak (xe (dB ts) KB) 1
 all:∀y∈la++lb,0≤y∧y<19
 rc:yc 7 KC (xE (xU (la++lb) (List.replicate 19 0)))
 ec:Lc=xe (xU (la++lb) (List.replicate 19 0)) KC
 row:∀y∈Lc,0≤y∧y<8
 ca:we la=0∨we la=302
 cb:we lb=0∨we lb=302
 cc:we Lc=0∨we Lc=302
 Au:∀y∈la++lb,B9 (vO Lc) y.toNat
 MK:∀t∈ts,HF (vO la) (vO lb) t
 D8:B9 (vO la) 256
theorem zY (l:List Int):(vO l).length=l.length:=by simp [vO]
theorem yI (h:H) (l:List Int):yC 2 h (zG l) (vO l).length ((vO l).flatMap wU):=by
 have:=Fv (n:=2) (k:=l.length) (h:=h) (cs:=(vO l).flatMap wU) (by rw[Bx yU,zY])
 rw[zY];exact this
theorem Ad (h:H) (l:List Int):Rd h (yJ 1 l.length (ints l)) (ints l):=by
 have:=Fv (n:=1) (k:=l.length) (h:=h) (cs:=ints l) (by rw[pY];omega)
 exact⟨by have:=this.1;rw[pY];exact this,this.2.2⟩
theorem AJ {C:List Int} (h:2≤C.length):(xm C).length≤C.length:=Ec h (xI 0 C)
theorem J6 (h:H) (v:AV) (ts:List Tok) (KA KB KC:Nat) (la lb Lc:List Int) (ok:Bh ts KA KB KC la lb Lc) (rd:yC 3 h v ts.length (wJ ts)):
 aR AP.A 13 [v] h=some (.bM [.str (bytesOf (wD (wX ts la lb Lc))),.int .i64 0],h):=by
 obtain⟨H4,hn,tok,ra,rb,ea,eb,hall,rc,ec,hrow,ca,cb,cc,Au,MK,D8⟩:=ok
 have rd0:yC 3 h.dN v ts.length (wJ ts):=rd.mono fun i c q=>q
 obtain⟨h2',eh2⟩:∃g,g=(h.dN.alloc (yE 286 [.int .i64 0])).alloc (yE 30 [.int .i64 0]):=⟨_,rfl⟩
 have d2:=Xb (v0:=v) (g:=h.dN)
 rw[←eh2]at d2
 change aL (aR AP.A) bq (at_ 2 AP.f13.body) [(0,v)] h.dN=some (.normal,[(0,v),(4,.aE h.next 0 286 1),(5,.aE (h.next+1) 0 30 1)],h2')at d2
 have gA2:h2'.get h.next=some (ints (List.replicate 286 0)):=by rw[eh2,vW (by simp),vZ (by simp),yd]
 have gB2:h2'.get (h.next+1)=some (ints (List.replicate 30 0)):=by rw[eh2,vZ (by simp),yd]
 have fl2:h2'.floor=h.next:=by rw[eh2];simp
 have nx2:h2'.next=h.next+2:=by rw[eh2];simp
 have x2:Ext h.dN h2':=by rw[eh2];exact((Ext.refl _).alloc _).alloc _
 have d3:=Xc (v0:=v) (v5:=.aE (h.next+1) 0 30 1) gA2 (by rw[pY];simp) (by omega)
 rw[show(ints (List.replicate 286 0)).set 256 (.int .i64 1)=ints ((List.replicate 286 0).set 256 1)from xj _ _ _]at d3
 obtain⟨h3',eh3⟩:∃g,g=h2'.set h.next (ints ((List.replicate 286 0).set 256 1)):=⟨_,rfl⟩
 rw[←eh3]at d3
 have gA3:h3'.get h.next=some (ints ((List.replicate 286 0).set 256 1)):=by rw[eh3,v9 rfl,gA2];rfl
 have gB3:h3'.get (h.next+1)=some (ints (List.replicate 30 0)):=by rw[eh3,vN (by omega),gB2]
 have fl3:h3'.floor=h.next:=by rw[eh3];simp [fl2]
 have nx3:h3'.next=h.next+2:=by rw[eh3];simp [nx2]
 have x3:Ext h.dN h3':=by rw[eh3];exact x2.set (by simp) _
 obtain⟨h4,L4,gA4,gB4,f4⟩:=DY (by omega) h.dN rd0 h.next (h.next+1) tok (by omega) (by simp) (by simp) ts [] _ _ h3' rfl x3 (by simp;omega) gA3 gB3 (by simp) (by simp) (fun y hy=>by
  rcases Yd hy with q|q
  · have:=X7 q;omega
  · omega) (fun y hy=>by have:=X7 hy;omega) (by omega) (by omega) (by omega)
 change h4.get h.next=some (ints (dA ts))at gA4
 change h4.get (h.next+1)=some (ints (dB ts))at gB4
 have d4:=Xd L4
 have fl4:h4.floor=h.next:=by rw[f4.floor,fl3]
 have nx4:h.next+2≤h4.next:=by have:=f4.next;omega
 have x4:Ext h.dN h4:=fun i c q=>by
  have:=h.dN.lt _ _ q
  simp at this
  rw[f4.wV i (by omega) (by omega) (by omega),x3 i c q]
 have lA:(dA ts).length=286:=by unfold dA;rw[Bm];simp
 have lB:(dB ts).length=30:=by unfold dB;rw[Bp];simp
 have rgA:∀y∈dA ts,0≤y∧y≤2147483647:=fun y hy=>by
  have:=Bn ts ((List.replicate 286 0).set 256 1) 1 (by omega) (fun y hy=>by
   rcases Yd hy with q|q
   · have:=X7 q;omega
   · omega) y hy
  omega
 have rgB:∀y∈dB ts,0≤y∧y≤2147483647:=fun y hy=>by
  have:=Bq ts (List.replicate 30 0) 0 (by omega) (fun y hy=>by have:=X7 hy;omega) y hy
  omega
 have rdA:Rd h4 (.aE h.next 0 286 1) (ints (dA ts)):=by
  have:wz 1 h4 (.aE h.next 0 286 1) (dA ts).length (ints (dA ts)):=by rw[lA];exact⟨by rw[pY,lA],.inr ⟨h.next,rfl,gA4,by omega,by omega⟩⟩
  exact this.Pq
 have rdB:Rd h4 (.aE (h.next+1) 0 30 1) (ints (dB ts)):=by
  have:wz 1 h4 (.aE (h.next+1) 0 30 1) (dB ts).length (ints (dB ts)):=by rw[lB];exact⟨by rw[pY,lB],.inr ⟨h.next+1,rfl,gB4,by omega,by omega⟩⟩
  exact this.Pq
 have sA:=AJ (C:=dA ts) (by omega)
 have sB:=AJ (C:=dB ts) (by omega)
 have kA:=Cr h4 _ (dA ts) 15 KA (by omega) (by omega) rdA (by omega) rgA (by omega) ra
 have kB:=Cr h4 _ (dB ts) 15 KB (by omega) (by omega) rdB (by omega) rgB (by omega) rb
 have lLA:=yS (dA ts) KA
 have lLB:=yS (dB ts) KB
 generalize xe (dA ts) KA=LA at *
 generalize xe (dB ts) KB=LB at *
 rw[lA]at lLA
 rw[lB]at lLB
 have kA':aR AP.A 30 [.aE h.next 0 286 1,.int .i64 15] h4=some (.bM [yJ 1 LA.length (ints LA),.int .i64 0],h4):=by rw[lLA];rw[lA]at kA;exact kA
 have kB':aR AP.A 30 [.aE (h.next+1) 0 30 1,.int .i64 15] h4=some (.bM [yJ 1 LB.length (ints LB),.int .i64 0],h4):=by rw[lLB];rw[lB]at kB;exact kB
 have d5:=Xe (v0:=v) (v5:=.aE (h.next+1) 0 30 1) kA'
 have d6:=Xf (v0:=v) (v11:=yJ 1 LA.length (ints LA)) kB'
 have uA:=KH h4 _ LA (by omega) (Ad h4 LA) 257 (by omega)
 have uB:=KH h4 _ LB (by omega) (Ad h4 LB) 1 (by omega)
 have ugA:=xB LA 257 LA.length
 have ugB:=xB LB 1 LB.length
 have d7:=Xg (v0:=v) (v13:=yJ 1 LB.length (ints LB)) (pY LA) (by omega) (by omega) rfl uA
 have d8:=Xh (v0:=v) (v11:=.aV false (ints LA) 0 (wA LA 257 LA.length) 1) (pY LB) (by omega) (by omega) rfl uB
 have r11:∀g:H,Rd g (.aV false (ints LA) 0 (wA LA 257 LA.length) 1) (ints la):=fun g=>by rw[ea];exact Ew g LA (by omega)
 have r13:∀g:H,Rd g (.aV false (ints LB) 0 (wA LB 1 LB.length) 1) (ints lb):=fun g=>by rw[eb];exact Ew g LB (by omega)
 have lla:la.length=wA LA 257 LA.length:=by rw[ea];exact AF LA (by omega)
 have llb:lb.length=wA LB 1 LB.length:=by rw[eb];exact AF LB (by omega)
 generalize hv11:AV.aV false (ints LA) 0 (wA LA 257 LA.length) 1=v11 at *
 generalize hv13:AV.aV false (ints LB) 0 (wA LB 1 LB.length) 1=v13 at *
 have la1:257≤la.length∧la.length≤286:=by omega
 have lb1:1≤lb.length∧lb.length≤30:=by omega
 clear uA uB kA kB kA' kB' ugA ugB rdA rdB rgA rgB sA sB
 have a1:=F5 (z:=8) (r11 h4).Wf (by omega) (by omega) (by rw[pY];omega) (xP (by rw[pY];omega)) (jK la)
 obtain⟨h5,eh5⟩:∃g,g=((h4.alloc []).del h4.next).alloc (ints la):=⟨_,rfl⟩
 rw[←eh5]at a1
 rw[pY]at a1
 have d9:=Xi (v0:=v) (v13:=v13) a1
 have ow5:wz 1 h5 (.aE (h4.next+1) 0 la.length 1) la.length (ints la):=⟨by rw[pY];omega,.inr ⟨h4.next+1,rfl,by rw[eh5,vZ (by simp)],by rw[eh5];simp;omega,by omega⟩⟩
 have fl5:h5.floor=h.next:=by rw[eh5];simp [fl4]
 have nx5:h4.next≤h5.next:=by rw[eh5];simp;omega
 have k5:∀i,i<h4.next→h5.get i=h4.get i:=fun i hi=>by rw[eh5,vW (by simp;omega),Bu (by omega),vW (by omega)]
 obtain⟨v15,h6,p1,ow6,fl6,nx6,k6,id6⟩:=ow5.app (by omega) (z:=8) (m:=lb.length) (by omega) (by omega) (ints lb) (by rw[pY];omega) (jK lb) (xP (by omega))
 have a2:kM h5 1 8 (.aE (h4.next+1) 0 la.length 1) v13=some (v15,h6):=by
  unfold kM
  rw[(r13 h5).1,vi,pY]
  exact p1
 have d10:=VH (v0:=v) (v11:=v11) a2
 rw[←pX,←vI]at ow6
 have k6':∀i,i<h4.next→h6.get i=h4.get i:=fun i hi=>by
  rw[k6 i (fun e=>by have:=u6 e;omega) (by omega),k5 i hi]
 have id6':v15.id?=some h5.next:=id6
 generalize hal:la++lb=all at *
 have lal:all.length≤316∧0<all.length:=by rw[←hal,vI];omega
 have d11:=VJ (v0:=v) (v11:=v11) (v13:=v13) (v15:=v15) (g:=h6)
 obtain⟨h7,eh7⟩:∃g,g=h6.alloc (yE 19 [.int .i64 0]):=⟨_,rfl⟩
 rw[←eh7]at d11
 have gC7:h7.get h6.next=some (ints (List.replicate 19 0)):=by rw[eh7,vZ rfl,yd]
 have h6n:h6.get h6.next=none:=by
  cases e:h6.get h6.next with
  |none=>rfl
  |some c=>have:=h6.lt _ _ e;omega
 have x7:Ext h6 h7:=by rw[eh7];exact(Ext.refl _).alloc _
 obtain⟨h8,L8,gC8,fl8,nx8,k8⟩:=DW (lv:=v) (dv:=v11) (mv:=v13) (by omega) hall h6.next h6 ow6.Pq h6n all [] _ h7 rfl x7 gC7 (by simp) (fun y hy=>by have:=X7 hy;simp;omega) (by rw[eh7];simp;have:=(ow6.lt id6').2;omega)
 have d12:=VK L8
 have lC:(xU all (List.replicate 19 0)).length=19:=by rw[Br];simp
 have rgC:∀y∈xU all (List.replicate 19 0),0≤y∧y≤2147483647:=fun y hy=>by
  have:=Bs all (List.replicate 19 0) 0 (by omega) (fun y hy=>by have:=X7 hy;omega) y hy
  omega
 have fl7:h7.floor=h.next:=by rw[eh7];simp;omega
 have rdC:Rd h8 (.aE h6.next 0 19 1) (ints (xU all (List.replicate 19 0))):=by
  have:wz 1 h8 (.aE h6.next 0 19 1) (xU all (List.replicate 19 0)).length (ints (xU all (List.replicate 19 0))):=by
   rw[lC];exact⟨by rw[pY,lC],.inr ⟨h6.next,rfl,gC8,by rw[fl8,fl7];have:=(ow6.lt id6');omega,by omega⟩⟩
  exact this.Pq
 have sC:=AJ (C:=xU all (List.replicate 19 0)) (by omega)
 have kC:=Cr h8 _ (xU all (List.replicate 19 0)) 7 KC (by omega) (by omega) rdC (by omega) rgC (by omega) rc
 have lLc:Lc.length=19:=by rw[ec,yS,lC]
 have kC':aR AP.A 30 [.aE h6.next 0 19 1,.int .i64 7] h8=some (.bM [yJ 1 Lc.length (ints Lc),.int .i64 0],h8):=by rw[lLc];rw[←ec,lC]at kC;exact kC
 have d13:=VL (v0:=v) (v11:=v11) (v13:=v13) (v15:=v15) kC'
 have d14:=VM (v0:=v) (v11:=v11) (v13:=v13) (v15:=v15) (v18:=yJ 1 Lc.length (ints Lc)) (Ji h8)
 have d15:=VN (v0:=v) (v11:=v11) (v13:=v13) (v15:=v15) (v18:=yJ 1 Lc.length (ints Lc)) (v20:=wP vQ) (g:=h8)
 obtain⟨h9,eh9⟩:∃g,g=h8.alloc (yE 19 [.int .i64 0]):=⟨_,rfl⟩
 rw[←eh9]at d15
 have gR9:h9.get h8.next=some (ints (List.replicate 19 0)):=by rw[eh9,vZ rfl,yd]
 have h8n:h8.get h8.next=none:=by
  cases e:h8.get h8.next with
  |none=>rfl
  |some c=>have:=h8.lt _ _ e;omega
 have x9:Ext h8 h9:=by rw[eh9];exact(Ext.refl _).alloc _
 have fl8':h8.floor=h.next:=by rw[fl8,fl7]
 have nx8':h6.next+1=h8.next:=by rw[nx8,eh7];simp
 have nx6':h.next+2≤h6.next:=by omega
 obtain⟨h10,L10,gR10,fl10,nx10,k10⟩:=JA (a0:=v) (a1:=v11) (a2:=v13) (a3:=v15) lLc h8.next h8 (Ad h8 Lc) (yu h8 vQ) h8n 19 0 h9 (by omega) x9 gR9 (by rw[eh9];simp;omega)
 have d16:=VO L10
 obtain⟨R,hR⟩:∃R,R=vQ.map (fun o=>Lc.getD o.toNat 0):=⟨_,rfl⟩
 rw[←hR]at gR10
 have lR:R.length=19:=by rw[hR];rfl
 have rR:∀y∈R,0≤y∧y<8:=by
  intro y hy
  rw[hR]at hy
  obtain⟨o,ho,rfl⟩:=X1.1 hy
  have:=AO o ho
  have hol:o.toNat<Lc.length:=by omega
  rw[XN,XQ hol]
  exact hrow _ (X4 hol)
 have fl10':h10.floor=h.next:=by rw[fl10,eh9];simp [fl8']
 have nx10':h8.next+1=h10.next:=by rw[nx10,eh9];simp
 have rdR:Rd h10 (.aE h8.next 0 19 1) (ints R):=by
  have:wz 1 h10 (.aE h8.next 0 19 1) R.length (ints R):=by
   rw[lR];exact⟨by rw[pY,lR],.inr ⟨h8.next,rfl,gR10,by omega,by omega⟩⟩
  exact this.Pq
 have kU:=KH h10 _ R (by omega) rdR 4 (by omega)
 have uk:=xB R 4 R.length
 rw[lR]at uk
 have d17:=VP (v0:=v) (v11:=v11) (v13:=v13) (v15:=v15) (v18:=yJ 1 Lc.length (ints Lc)) kU
 rw[lR]at d17
 obtain⟨k,hk⟩:∃k,k=wA R 4 19:=⟨_,rfl⟩
 rw[←hk]at d17 uk
 have b10:∀i,i<h6.next→h10.get i=h6.get i:=fun i hi=>by
  rw[k10 i (by omega),eh9,vW (by omega),k8 i (by omega),eh7,vW (by omega)]
 have x10:Ext h.dN h10:=fun i c q=>by
  have hi:=h.dN.lt _ _ q
  simp at hi
  rw[b10 i (by omega),k6' i (by omega),x4 i c q]
 have rdv:yC 3 h10 v ts.length (wJ ts):=rd0.mono x10
 have rda:Rd h10 v15 (ints all):=(ow6.mono (by omega) fun i hi=>b10 i (ow6.lt hi).2).Pq
 have d18:=VQ (v0:=v) (v11:=v11) (v13:=v13) (v15:=v15) (v18:=yJ 1 Lc.length (ints Lc)) (v21:=.aE h8.next 0 19 1) (v23:=.int .i64 (k:Nat)) (g:=h10)
 obtain⟨h11,eh11⟩:∃g,g=h10.alloc [.aP,.int .i64 0]:=⟨_,rfl⟩
 rw[←eh11]at d18
 have wx0:WX h10 h11 h10.next [] .aP:=by
  refine⟨⟨by rw[eh11,vZ rfl];rfl,wz.nil,by rw[eh11];simp;omega,by rw[eh11];simp;omega,by simp [AV.id?],fun b hb=>by simp [wD,yk]at hb⟩,by rw[eh11];exact(Ext.refl _).alloc _,vm _,by rw[eh11];simp,fun j hj=>by simp [AV.id?]at hj⟩
 obtain⟨h12,o12,p12,w12,f12⟩:=Aj wx0.wr 5 3 (by omega) (by omega) (by simp)
 have wx1:=wx0.step w12 f12
 have l1:([]++wc 5 3).length=3:=by simp [wc,wm]
 obtain⟨h13,o13,p13,w13,f13⟩:=Aj wx1.wr (la.length-257) 5 (by omega) (by omega) (by omega)
 have wx2:=wx1.step w13 f13
 have l2:([]++wc 5 3++wc (la.length-257) 5).length=8:=by simp [wc,wm]
 obtain⟨h14,o14,p14,w14,f14⟩:=Aj wx2.wr (lb.length-1) 5 (by omega) (by omega) (by omega)
 have wx3:=wx2.step w14 f14
 have l3:([]++wc 5 3++wc (la.length-257) 5++wc (lb.length-1) 5).length=13:=by simp [wc,wm]
 obtain⟨h15,o15,p15,w15,f15⟩:=Aj wx3.wr (k-4) 4 (by omega) (by omega) (by omega)
 have wx4:=wx3.step w15 f15
 have l4:([]++wc 5 3++wc (la.length-257) 5++wc (lb.length-1) 5++wc (k-4) 4).length=17:=by simp [wc,wm]
 have p12':aR AP.A 33 [.aD h10.next 0,.int .i64 5,.int .i64 3] h11=some (.int .i64 0,h12):=p12
 have p13':aR AP.A 33 [.aD h10.next 0,.int .i64 ((la.length:Int)-257),.int .i64 5] h12=some (.int .i64 0,h13):=by
  have e:((la.length-257:Nat):Int)=(la.length:Int)-257:=by omega
  rw[e]at p13;exact p13
 have p14':aR AP.A 33 [.aD h10.next 0,.int .i64 ((lb.length:Int)-1),.int .i64 5] h13=some (.int .i64 0,h14):=by
  have e:((lb.length-1:Nat):Int)=(lb.length:Int)-1:=by omega
  rw[e]at p14;exact p14
 have p15':aR AP.A 33 [.aD h10.next 0,.int .i64 ((k:Int)-4),.int .i64 4] h14=some (.int .i64 0,h15):=by
  have e:((k-4:Nat):Int)=(k:Int)-4:=by omega
  rw[e]at p15;exact p15
 have ln11:jc false v11=some (.int .i64 la.length):=by have:=(r11 h10).len;rw[pY]at this;exact this
 have ln13:jc false v13=some (.int .i64 lb.length):=by have:=(r13 h10).len;rw[pY]at this;exact this
 have d19:=VR (v0:=v) (v11:=v11) (v13:=v13) (v15:=v15) (v18:=yJ 1 Lc.length (ints Lc)) (v21:=.aE h8.next 0 19 1) (v23:=.int .i64 (k:Nat)) p12'
 have d20:=VS (v0:=v) (v13:=v13) (v15:=v15) (v18:=yJ 1 Lc.length (ints Lc)) (v21:=.aE h8.next 0 19 1) (v23:=.int .i64 (k:Nat)) ln11 (by omega) p13'
 have d21:=VT (v0:=v) (v11:=v11) (v15:=v15) (v18:=yJ 1 Lc.length (ints Lc)) (v21:=.aE h8.next 0 19 1) (v23:=.int .i64 (k:Nat)) ln13 (by omega) p14'
 have d22:=VU (v0:=v) (v11:=v11) (v13:=v13) (v15:=v15) (v18:=yJ 1 Lc.length (ints Lc)) (v21:=.aE h8.next 0 19 1) (n:=k) (by omega) p15'
 obtain⟨e16,h16,o16,L16,q0,q11,q13,q15,q18,q24,wx5⟩:=G0 (a0:=v) (a1:=v11) (a2:=v13) (a3:=v15) (a4:=yJ 1 Lc.length (ints Lc)) h10 rdR k (by omega) lR h10.next rR k 0 _ h15 o15 (by omega) wx4 (by omega)
 have d23:=VW L16 q0 q11 q13 q15 q18 q24
 have k24:=CQ h16 _ Lc (by omega) (by omega) (Ad h16 Lc) cc
 have d24:=VY (v0:=v) (v11:=v11) (v13:=v13) (v15:=v15) (v24:=.aD h10.next 0) k24
 have l5:([]++wc 5 3++wc (la.length-257) 5++wc (lb.length-1) 5++wc (k-4) 4++zJ ((R.drop 0).take k)).length≤17+57:=by
  rw[vI,l4,BL,Yb];omega
 obtain⟨e17,h17,o17,L17,q0',q11',q13',q24',wx6⟩:=Fu (a0:=v) (a1:=v11) (a2:=v13) h10 rda (yI h10 Lc) (by omega) (by rw[zY];exact lLc) h10.next hall Au all [] _ h16 o16 rfl wx5 (by omega)
 have d25:=VZ L17 q0' q11' q13' q24'
 have k26:=CQ h17 v11 la (by omega) (by omega) (r11 h17) ca
 have k27:=CQ h17 v13 lb (by omega) (by omega) (r13 h17) cb
 have d26:=V0 (v0:=v) (v13:=v13) (v24:=.aD h10.next 0) k26
 have d27:=V3 (v0:=v) (v24:=.aD h10.next 0) (v29:=zG la) k27
 have l6:=EB Au
 obtain⟨h18,o18,k28,wx7⟩:=Oi (by omega) h10 rdv (yI h10 la) (yI h10 lb) MK D8 h10.next _ h17 o17 wx6 (by rw[vI];omega)
 have d28:=V4 k28
 have k29:=H2 wx7.wr
 have d29:=V5 k29
 have eB:[]++wc 5 3++wc (la.length-257) 5++wc (lb.length-1) 5++wc (k-4) 4++zJ ((R.drop 0).take k)++zd (vO Lc) all++(w9 (vO la) (vO lb) ts++vY (vO la) 256)=wX ts la lb Lc:=by
  unfold wX
  simp only[Yr,XV,X9,hk,hR,hal]
 rw[eB]at d29
 have k1:=Ph h.dN v ts (by omega) rd0
 rw[H4]at k1
 have d0:=W9 (v0:=v) (g:=h.dN)
 have d1:=Xa k1
 refine uz (fn:=AP.f13) (h2:=h18) (e:=[(2,.str (bytesOf (wD (wX ts la lb Lc)))),(3,.int .i64 0)]) rfl rfl rfl ?_ rfl rfl
 rw[OE,se,d0,sZ,se,d1,sZ,se,d2,sZ,se,d3,sZ,se,d4,sZ,se,d5,sZ,se,d6,sZ,se,d7,sZ]
 rw[se,d8,sZ,se,d9,sZ,se,d10,sZ,se,d11,sZ,se,d12,sZ,se,d13,sZ,se,d14,sZ,se,d15,sZ,se,d16,sZ]
 rw[se,d17,sZ,se,d18,sZ,se,d19,sZ,se,d20,sZ,se,d21,sZ,se,d22,sZ,se,d23,sZ,se,d24,sZ,se,d25,sZ]
 rw[se,d26,sZ,se,d27,sZ,se,d28,sZ,d29]
theorem Pp (c:Int):∀k:Nat,c* 2^k<3^k→0≤c→∀m:Nat,c* 2^(k+m)<3^(k+m)
 |k,h,hc,0=>h
 | k, h, hc, m + 1 => by
   have ih:=Pp c k h hc m
   rw[←vk,Int.pow_succ,Int.pow_succ,←Int.mul_assoc]
   have p:(0:Int)≤c* 2^(k+m):=Int.mul_nonneg hc (Int.pow_nonneg (by omega))
   omega
theorem Db:∀(ds:List Int) (a m:Int),(∀d∈ds,d≤m)→a≤m→Aa ds a≤m
 |[],a,m,_,h=>h
 | d :: ds, a, m, hd, h => by
   rw[Aa]
   refine Db ds _ m (fun x hx=>hd x (by simp [hx])) ?_
   have:=hd d (by simp)
   unfold DG;split<;>omega
theorem Ev:∀(ds:List Int) (a:Int),a≤Aa ds a∧∀d∈ds,d≤Aa ds a
 |[],a=>⟨Yq _,by simp⟩
 | d :: ds, a => by
   have⟨h1,h2⟩:=Ev ds (DG a d)
   have:a≤DG a d∧d≤DG a d:=by unfold DG;split<;>omega
   rw[Aa]
   refine⟨by omega,fun x hx=> ?_⟩
   rcases vF.1 hx with q|q
   · subst q;omega
   · exact h2 x q
theorem Jh:∀ws:List Int,(∀y∈ws,y=1)→ws.sum=ws.length
 |[],_=>rfl
 | y :: ws, h => by
   have:=Jh ws fun z hz=>h z (by simp [hz])
   have:=h y (by simp)
   rw[Yj,XO];omega
theorem HL:∀ws:List Int,(∀y∈ws,1≤y)→(ws.length:Int)≤ws.sum
 |[],_=>by simp
 | y :: ws, h => by
   have:=HL ws fun z hz=>h z (by simp [hz])
   have:=h y (by simp)
   rw[Yj,XO];omega
theorem DB:∀ws:List Int,(∀y∈ws,1≤y)→(wM ws).sum≤ws.sum∧((∃y∈ws,y≠1)→(wM ws).sum<ws.sum)
 |[],_=>⟨Yq _,by simp⟩
 | y :: ws, h => by
   obtain⟨h1,h2⟩:=DB ws fun z hz=>h z (by simp [hz])
   have hy:=h y (by simp)
   have e:(wM (y::ws)).sum=zw y+(wM ws).sum:=by simp [wM]
   rw[e,Yj]
   have a:zw y≤y:=by unfold zw;omega
   refine⟨by omega,fun ⟨z,hz,hz1⟩=> ?_⟩
   rcases vF.1 hz with q|q
   · subst q
     have:zw z<z:=by unfold zw;omega
     omega
   · have:=h2 ⟨z,q,hz1⟩;omega
theorem Gu {ws:List Int} (h:∀y∈ws,1≤y):∀y∈wM ws,1≤y:=by
 intro y hy
 obtain⟨z,hz,rfl⟩:=X1.1 hy
 have:=h z hz
 unfold zw;omega
theorem Fi {ws:List Int} (h1:1≤ws.length) (ho:∀y∈ws,y=1) {c:Int} {k:Nat} (hc:(ws.length:Int)≤c) (hk:c* 2^(k+1)<3^(k+1)) (hs:ws.length≤288):∀d∈wg ws,d≤k:=by
 intro d hd
 have sm:=Jh ws ho
 obtain⟨_,_,_,_,hb,_⟩:=RS ws true h1 (fun y hy=>by have:=ho y hy;omega) (by omega) (fun _=>ho)
 have b:=hb rfl d hd
 apply Yc
 intro q
 obtain⟨m,hm⟩:∃m:Nat,d.toNat=k+1+m:=⟨d.toNat-(k+1),by omega⟩
 rw[hm]at b
 have:=Pp c (k+1) hk (by omega) m
 have p:(0:Int)<2^(k+1+m):=Int.pow_pos (by omega)
 have:ws.sum* 2^(k+1+m)≤c* 2^(k+1+m):=Int.mul_le_mul_of_nonneg_right (by omega) (by omega)
 omega
theorem Jg {ws:List Int} (hl:ws.length≤288) (pos:∀y∈ws,1≤y) (hs:ws.sum<1000000000000000):GO ws:=by
 by_cases e:ws=[]
 · exact .inl e
 · have h1:1≤ws.length:=Yv.2 e
   obtain⟨a,b,c,_⟩:=RS ws false h1 pos hs (fun h=>by cases h)
   exact .inr ⟨h1,hl,a,b,c⟩
theorem Mx {most : Int} (hm : 0 ≤ most) : ∀ (f : Nat) (ws : List Int), ws.sum ≤ f → (∀ y ∈ ws, 1 ≤ y) → ws.sum < 1000000000000000 → ((13 ≤ most ∧ ws.length ≤ 288) ∨ (7 ≤ most ∧ ws.length ≤ 19)) → ∃ K, yc most K ws := by
 intro f
 induction f with
 | zero =>
   intro ws hf pos hs hl
   have:=HL ws pos
   have:ws=[]:=List.length_eq_zero_iff.1 (by omega)
   subst this
   exact⟨0,.last (.inl rfl) hm⟩
 | succ f ih =>
   intro ws hf pos hs hl
   have o:=Jg (by omega) pos hs
   by_cases c:Aa (wg ws) 0≤most
   · exact⟨0,.last o c⟩
   · have hne:ws≠[]:=fun e=>by subst e;exact c hm
     have h1:1≤ws.length:=Yv.2 hne
     have ho:∃y∈ws,y≠1:=by
      apply Yc
      intro q
      have all1:∀y∈ws,y=1:=fun y hy=>Yc fun r=>q ⟨y,hy,r⟩
      rcases hl with ⟨a,b⟩|⟨a,b⟩
      · have:=Fi (c:=288) (k:=13) h1 all1 (by omega) (by decide) (by omega)
        exact c (Db _ _ _ (fun d hd=>by have:=this d hd;omega) hm)
      · have:=Fi (c:=19) (k:=7) h1 all1 (by omega) (by decide) (by omega)
        exact c (Db _ _ _ (fun d hd=>by have:=this d hd;omega) hm)
     have hh:=(DB ws pos).2 ho
     obtain⟨K,r⟩:=ih (wM ws) (by omega) (Gu pos) (by omega) (by rw[yR];exact hl)
     exact⟨K+1,.more o (by omega) hne r⟩
theorem ye:∀(S D O:List Int) (p:Nat),(∀s∈S,s.toNat≠p)→(wO S D O)[p]?=O[p]?
 |[],D,O,p,h=>by simp [wO]
 |s::S,[],O,p,h=>by simp [wO]
 | s :: S, d :: D, O, p, h => by
   rw[wO,ye S D _ p fun t ht=>h t (by simp [ht]),X8,if_neg (h s (by simp))]
theorem zk:∀(S D O:List Int) (j:Nat) (s d:Int),(S.map Int.toNat).Nodup→S[j]?=some s→D[j]?=some d→s.toNat<O.length→(wO S D O)[s.toNat]?=some d
 |[],D,O,j,s,d,nd,h1,h2,h3=>by simp at h1
 |t::S,[],O,j,s,d,nd,h1,h2,h3=>by simp at h2
 | t :: S, e :: D, O, 0, s, d, nd, h1, h2, h3 => by
   simp at h1 h2
   subst h1;subst h2
   rw[XX,YA]at nd
   rw[wO,ye S D _ _ fun u hu q=>nd.1 (X1.2 ⟨u,hu,q⟩),X8,if_pos rfl,if_pos h3]
 | t :: S, e :: D, O, j + 1, s, d, nd, h1, h2, h3 => by
   rw[XX,YA]at nd
   rw[wO]
   exact zk S D _ j s d nd.2 (by simpa using h1) (by simpa using h2) (by rw[X6];exact h3)
theorem zF {S D O:List Int} {n:Nat} (hl:D.length=S.length) (nd:(S.map Int.toNat).Nodup) (hO:O.length=n) (hr:∀s∈S,s.toNat<n) (hz:∀p,p<n→(∀s∈S,s.toNat≠p)→O[p]?=some 0):wO S D O=wO S D (List.replicate n 0):=by
 apply List.ext_getElem?
 intro p
 by_cases hp:p<n
 · by_cases c:∃s∈S,s.toNat=p
   · obtain⟨s,hs,rfl⟩:=c
     obtain⟨j,hj,ej⟩:=Yp.1 hs
     have h1:S[j]?=some s:=by rw[XQ hj,ej]
     have h2:D[j]?=some (D[j]'(by omega)):=XQ (by omega)
     rw[zk S D O j s _ nd h1 h2 (by omega),zk S D _ j s _ nd h1 h2 (by simpa using hp)]
   · have c':∀s∈S,s.toNat≠p:=fun s hs q=>c ⟨s,hs,q⟩
     rw[ye _ _ _ _ c',ye _ _ _ _ c',hz p hp c',Yi,if_pos hp]
 · rw[X5 (by rw[xu];omega),X5 (by rw[xu];simp;omega)]
theorem Fe {most:Int} {S:List Int} {n:Nat} (nd:(S.map Int.toNat).Nodup) (hr:∀s∈S,s.toNat<n):∀(K:Nat) (W O:List Int),yc most K W→W.length=S.length→(∀y∈W,1≤y)→W.sum<1000000000000000→O.length=n→(∀p,p<n→(∀s∈S,s.toNat≠p)→O[p]?=some 0)→
 ∃W',W'.length=S.length∧(∀y∈W',1≤y)∧W'.sum<1000000000000000∧Aa (wg W') 0≤most∧zc S K W O=wO S (wg W') (List.replicate n 0)
 | 0, W, O, r, hl, pos, hs, hO, hz => by
   cases r with
   |last o c=>exact⟨W,hl,pos,hs,c,zF (by rw[xH,hl]) nd hO hr hz⟩
 | K + 1, W, O, r, hl, pos, hs, hO, hz => by
   cases r with
   | more o c hne r =>
     have:=(DB W pos).1
     exact Fe nd hr K (wM W) _ r (by rw[yR,hl]) (Gu pos) (by omega) (by rw[xu,hO]) (fun p hp hq=>by rw[ye _ _ _ _ hq];exact hz p hp hq)
theorem Ls (f:Int→Nat):∀(O:List Int) (i:Nat) (d:Int),i<O.length→((O.set i d).map f).sum+f (O.getD i 0)=(O.map f).sum+f d
 |[],i,d,h=>by simp at h
 |x::O,0,d,h=>by simp;omega
 | x :: O, i + 1, d, h => by
   have:=Ls f O i d (by simpa using h)
   simp only[List.set_cons_succ,XX,Yj,List.getD_cons_succ];omega
theorem FA (f:Int→Nat):∀(S D O:List Int),D.length=S.length→(S.map Int.toNat).Nodup→(∀s∈S,s.toNat<O.length)→((wO S D O).map f).sum+(S.map fun s=>f (O.getD s.toNat 0)).sum=(O.map f).sum+(D.map f).sum
 | [], D, O, hl, nd, hr => by
   have:D=[]:=List.length_eq_zero_iff.1 (by simpa using hl)
   subst this
   simp [wO]
 |s::S,[],O,hl,nd,hr=>by simp at hl
 | s :: S, d :: D, O, hl, nd, hr => by
   rw[XX,YA]at nd
   have ih:=FA f S D (O.set s.toNat d) (by simpa using hl) nd.2 (fun t ht=>by rw[X6];exact hr t (by simp [ht]))
   have e:(S.map fun t=>f ((O.set s.toNat d).getD t.toNat 0))=S.map fun t=>f (O.getD t.toNat 0):=Ym fun t ht=>by
    rw[getD_set_ne (fun q=>nd.1 (X1.2 ⟨t,ht,q.symm⟩))]
   rw[e]at ih
   have ss:=Ls f O s.toNat d (hr s (by simp))
   simp only[wO,XX,Yj]
   omega
def f15 (n:Nat) (x:Int):Nat:=if 1≤x∧x≤n then 2^(n-x.toNat)else 0
theorem GG:∀n,wh [] n=2^n
 |0=>rfl
 | n + 1 => by
   have c:xw [] (n+1)=0:=Hq _
   rw[wh,GG n,c,Int.pow_succ];omega
theorem GD (n:Nat):∀(q p:List Int),wh (p++q) n=wh p n-((q.map (f15 n)).sum:Nat)
 |[],p=>by simp
 | x :: q, p => by
   have e:p++x::q=(p++[x])++q:=by simp
   rw[e,GD n q (p++[x]),Cq,XX,Yj]
   unfold f15
   split
   · push_cast;omega
   · push_cast;omega
theorem BV (l:List Int) (n:Nat):wh l n=2^n-((l.map (f15 n)).sum:Nat):=by
 have:=GD n l []
 rwa [Yr,GG]at this
theorem GF (l:List Int):∀n,vR l n+xw l n+wh l n=2^n
 |0=>by simp [vR,wh,xw]
 | n + 1 => by
   have:=GF l n
   rw[vR,wh,Int.pow_succ];omega
theorem Kj {l:List Int} {n:Nat} (h:0≤wh l n):∀m,m≤n→0≤wh l m:=by
 have:∀k m,m+k=n→0≤wh l m:=by
  intro k
  induction k with
  | zero =>
    intro m hm
    have:m=n:=by omega
    subst this;exact h
  | succ k ih =>
    intro m hm
    have:=ih (m+1) (by omega)
    rw[wh]at this
    omega
 exact fun m hm=>this (n-m) m (by omega)
theorem Iv {l:List Int} {s:Nat} (hs:s<l.length) {n:Nat} (hn:1≤n) (e:l.getD s 0=(n:Int)):xw (l.take s) n<xw l n:=by
 have a:=B5 hs n hn
 rw[if_pos e]at a
 have:∀(p q:List Int),xw p n≤xw (p++q) n:=fun p q=>by
  unfold xw;split
  · exact vm _
  · rw[List.countP_append];omega
 have b:=this (l.take (s+1)) (l.drop (s+1))
 rw[List.take_append_drop]at b
 omega
theorem HE {l:List Int} (hl:0≤wh l 15) (hr:∀y∈l,0≤y∧y<16) {s:Nat} (hs:s<l.length) (h1:1≤l.getD s 0):B9 (vO l) s:=by
 have hm:l.getD s 0∈l:=by rw[XN,XQ hs];exact X4 hs
 have r:=hr _ hm
 obtain⟨n,hn⟩:=XT r.1
 have n1:1≤n:=by omega
 have lt:=Iv hs n1 hn
 have f:=GF l n
 have m:=Kj hl n (by omega)
 have fb:=(show 0≤vR l n from by
  have:∀n,0≤vR l n:=by
   intro n
   induction n with
   |zero=>simp [vR]
   |succ n ih=>rw[vR];omega
  exact this n)
 have tn:((n:Nat):Int).toNat=n:=by omega
 refine⟨n,(vR l n+xw (l.take s) n).toNat, ?_,n1,by omega, ?_⟩
 · unfold vO
   rw[vx,Yl hs,XU]
   unfold AB
   rw[if_pos h1,hn,tn]
   congr 2
   omega
 · have e2:((2^n:Nat):Int)=(2:Int)^n:=by push_cast;rfl
   omega
theorem DQ:∀(C:List Int) (i:Nat),((vV i C).map Int.toNat).Nodup
 |[],i=>by simp [vV]
 | c :: r, i => by
   have ih:=DQ r (i+1)
   rw[vV]
   split
   · rw[XX,YA]
     refine⟨fun h=> ?_,ih⟩
     obtain⟨s,hs,e⟩:=X1.1 h
     have:=yg (i+1) r s hs
     omega
   · exact ih
theorem CF:∀(C:List Int) (i p:Nat),0<C.getD p 0→((i+p:Nat):Int)∈vV i C
 |[],i,p,h=>by simp at h
 | c :: r, i, 0, h => by
   rw[vV,if_pos (by simpa using h)]
   simp
 | c :: r, i, p + 1, h => by
   have ih:=CF r (i+1) p (by simpa using h)
   have e:i+1+p=i+(p+1):=by omega
   rw[e]at ih
   rw[vV]
   split
   · exact Ys _ ih
   · exact ih
theorem FJ:∀(C:List Int) (i:Nat),(∀y∈C,¬0<y)→vV i C=[]
 |[],i,h=>rfl
 | c :: r, i, h => by
   rw[vV,if_neg (h c (by simp))]
   exact FJ r (i+1) fun y hy=>h y (by simp [hy])
theorem Js {S:List Int} {s:Int} (h:s∈S):s∈Al S:=by
 unfold Al
 split
 · rename_i h1
   match S,h1 with
   | [t], _ =>
     simp at h;subst h
     split<;>simp
 · exact h
theorem OZ {S : List Int} (h : (S.map Int.toNat).Nodup) (hp : ∀ s ∈ S, 0 ≤ s) : ((Al S).map Int.toNat).Nodup := by
 unfold Al
 split
 · rename_i h1
   match S,h1 with
   | [t], _ =>
     have:=hp t (by simp)
     split
     · rename_i c
       simp at c ⊢
       omega
     · rename_i c
       simp at c ⊢
       omega
 · exact h
theorem NG {S:List Int} (h:S≠[]):2≤(Al S).length:=by
 unfold Al
 split
 · rename_i h1
   split
   · simp
   · simp [h1]
 · rename_i h1
   have:=Yv.2 h
   omega
theorem NH {S W:List Int} (hl:W.length=S.length) (h:∀y∈W,1≤y):∀y∈BH S W,1≤y:=by
 intro s hs
 unfold BH at hs
 split at hs
 · rename_i h1
   rw[←hl]at h1
   match W,h1 with
   | [t], _ =>
     have:=h t (by simp)
     split at hs
     · simp at hs;omega
     · simp at hs;omega
 · exact h s hs
theorem JH {α:Type}:∀l:List α,(l.map fun _=>(0:Nat)).sum=0
 |[]=>rfl
 |x::l=>by rw[XX,Yj,JH l]
theorem Mi {C:List Int} (h:∀y∈C,¬0<y):xm C=[]:=by
 unfold xm;rw[FJ C 0 h];rfl
theorem CC:∀(l:List Int) (b:Int),(∀y∈l,y≤b)→l.sum≤b* l.length
 |[],b,_=>by simp
 | y :: l, b, h => by
   have:=CC l b fun z hz=>h z (by simp [hz])
   have hy:=h y (by simp)
   rw[Yj,XO]
   have e:b* ((l.length+1:Nat):Int)=b* l.length+b:=by rw[Int.natCast_add,Int.mul_add];simp
   omega
theorem Jd {C : List Int} (hC : ∀ y ∈ C, 0 ≤ y ∧ y ≤ 2147483647) (h2 : 2 ≤ C.length) (hl : C.length ≤ 288) : (∀ y ∈ xE C, 1 ≤ y) ∧ (xE C).sum < 1000000000000000 := by
 have pos:∀y∈xE C,1≤y:=NH (wG 0 C).symm fun y hy=>by have:=(zm C y hy).2;omega
 refine⟨pos, ?_⟩
 have up:∀y∈xE C,y≤2147483647:=by
  intro y hy
  have w:∀z∈v7 C,z≤2147483647:=fun z hz=>(hC z (zm C z hz).1).2
  unfold xE BH at hy
  split at hy
  · rename_i h1
    rw[wG]at h1
    match hW:v7 C,h1 with
    | [t], _ =>
      rw[hW]at w hy
      have:=w t (by simp)
      split at hy
      · simp at hy;omega
      · simp at hy;omega
  · exact w y hy
 have:=CC (xE C) 2147483647 up
 have l1:(xE C).length=(xm C).length:=Hx C
 have l2:=AJ h2
 omega
theorem BC {C:List Int} {most:Int} (hC:∀y∈C,0≤y∧y≤2147483647) (h2:2≤C.length) (hm:0≤most) (hl:(13≤most∧C.length≤288)∨(7≤most∧C.length≤19)):∃K,yc most K (xE C):=by
 obtain⟨a,b⟩:=Jd hC h2 (by omega)
 have l1:(xE C).length=(xm C).length:=Hx C
 have l2:=AJ h2
 exact Mx hm (xE C).sum.toNat (xE C) (by have:=HL _ a;omega) a b (by omega)
theorem zT {C : List Int} {most : Int} {K : Nat} (hC : ∀ y ∈ C, 0 ≤ y ∧ y ≤ 2147483647) (h2 : 2 ≤ C.length) (hl : C.length ≤ 288) (hm : 0 ≤ most ∧ most ≤ 15) (r : yc most K (xE C)) :
 (xe C K).length=C.length∧(∀y∈xe C K,0≤y∧y≤most)∧(∀p,0<C.getD p 0→1≤(xe C K).getD p 0)∧((∃y∈C,0<y)→wh (xe C K) 15=0)∧((∀y∈C,¬0<y)→xe C K=List.replicate C.length 0):=by
 obtain⟨a,b⟩:=Jd hC h2 hl
 have nd:((xm C).map Int.toNat).Nodup:=OZ (DQ C 0) fun s hs=>by have:=yg 0 C s hs;omega
 have rg:∀s∈xm C,0≤s∧s<C.length:=Jt h2 fun s hs=>by have:=yg 0 C s hs;omega
 have rg':∀s∈xm C,s.toNat<C.length:=fun s hs=>by have:=rg s hs;omega
 obtain⟨W',w1,w2,w3,w4,w5⟩:=Fe nd rg' K (xE C) (List.replicate C.length 0) r (Hx C) a b (by simp) (fun p hp _=>by rw[Yi,if_pos hp])
 have e:xe C K=wO (xm C) (wg W') (List.replicate C.length 0):=w5
 have dl:(wg W').length=(xm C).length:=by rw[xH,w1]
 have dm:∀d∈wg W',d≤most:=fun d hd=>by have:=(Ev (wg W') 0).2 d hd;omega
 have o:=Jg (ws:=W') (by have:=AJ h2;omega) w2 w3
 have d0:=DZ o
 have gin:∀(j:Nat) (s d:Int),(xm C)[j]?=some s→(wg W')[j]?=some d→(xe C K)[s.toNat]?=some d:=fun j s d h1 h2=>by
  rw[e];exact zk _ _ _ j s d nd h1 h2 (by simpa using rg' s (vq h1))
 have gout:∀p:Nat,(∀s∈xm C,s.toNat≠p)→(xe C K)[p]?=(List.replicate C.length (0:Int))[p]?:=fun p hp=>by rw[e,ye _ _ _ _ hp]
 have hu:xm C≠[]→2≤(xm C).length:=fun hne=>by
  refine NG fun q=>hne ?_
  unfold xm;rw[q];rfl
 have h1w:xm C≠[]→_:=fun hne=>RS W' false (by have:=hu hne;omega) w2 w3 (fun h=>by cases h)
 refine⟨yS C K, ?_, ?_, ?_, ?_⟩
 · intro y hy
   obtain⟨p,hp⟩:=vA.1 hy
   by_cases c:∃s∈xm C,s.toNat=p
   · obtain⟨s,hs,rfl⟩:=c
     obtain⟨j,hj⟩:=vA.1 hs
     have jl:=(vh.1 hj).1
     have hd:(wg W')[j]?=some ((wg W')[j]'(by omega)):=XQ (by omega)
     rw[gin j s _ hj hd]at hp
     obtain rfl:=u6 hp
     have m:=X4 (l:=wg W') (n:=j) (by omega)
     exact⟨(d0 _ m).1,dm _ m⟩
   · rw[gout p fun s hs q=>c ⟨s,hs,q⟩,Yi]at hp
     split at hp
     · obtain rfl:=u6 hp;omega
     · cases hp
 · intro p hp
   have sm:=CF C 0 p hp
   rw[vr]at sm
   have hs:(p:Int)∈xm C:=Js sm
   obtain⟨j,hj⟩:=vA.1 hs
   have jl:=(vh.1 hj).1
   have hd:(wg W')[j]?=some ((wg W')[j]'(by omega)):=XQ (by omega)
   have g:=gin j _ _ hj hd
   have tp:((p:Nat):Int).toNat=p:=by omega
   rw[tp]at g
   rw[XN,g]
   have hne:xm C≠[]:=fun q=>by rw[q]at hs;simp at hs
   exact(h1w hne).2.2.2.2.2 (by have:=hu hne;omega) _ (X4 _)
 · rintro ⟨y,hy,hpos⟩
   obtain⟨p,hp⟩:=vA.1 hy
   have sm:=CF C 0 p (by rw[XN,hp];exact hpos)
   have hs:((0+p:Nat):Int)∈xm C:=Js sm
   have hne:xm C≠[]:=fun q=>by rw[q]at hs;simp at hs
   have H:=h1w hne
   have kr:=H.2.2.2.1 15 (fun d hd=>by have:=dm d hd;omega)
   have one:=H.2.2.2.2.2 (by have:=hu hne;omega)
   have ss:=FA (f15 15) (xm C) (wg W') (List.replicate C.length 0) dl nd (fun s hs=>by simpa using rg' s hs)
   rw[←e]at ss
   have z1:((xm C).map fun s=>f15 15 ((List.replicate C.length (0:Int)).getD s.toNat 0)).sum=0:=by
    have:(xm C).map (fun s=>f15 15 ((List.replicate C.length (0:Int)).getD s.toNat 0))=(xm C).map fun _=>0:=Ym fun s hs=>by
     rw[BX (rg' s hs)];rfl
    rw[this,JH]
   have z2:((List.replicate C.length (0:Int)).map (f15 15)).sum=0:=by
    rw[List.map_replicate]
    have:f15 15 0=0:=rfl
    rw[this];simp
   have z3:(wg W').map (f15 15)=(wg W').map fun d=>2^(15-d.toNat):=Ym fun d hd=>by
    unfold f15
    rw[if_pos ⟨one d hd,by have:=dm d hd;omega⟩]
   rw[z1,z2,z3,kr]at ss
   rw[BV,show((xe C K).map (f15 15)).sum=2^15 by omega]
   rfl
 · intro h
   rw[e,Mi h]
   simp [wO]
theorem Ah (l : List Int) (k : Nat) : ∀ n p, wA l k n ≤ p → p < n → ¬ 0 < l.getD p 0
 |0,p,h1,h2=>by omega
 | n + 1, p, h1, h2 => by
   rw[wA]at h1
   split at h1
   · omega
   · split at h1
     · omega
     · by_cases e:p=n
       · subst e;assumption
       · exact Ah l k n p h1 (by omega)
theorem Ep {l : List Int} (hr : ∀ y ∈ l, 0 ≤ y) (k n : Nat) : wh (Ak l k) n = wh l n := by
 have e:l=Ak l k++l.drop (wA l k l.length):=(List.take_append_drop _ _).symm
 have z:((l.drop (wA l k l.length)).map (f15 n)).sum=0:=by
  have:∀q:List Int,(∀y∈q,y=0)→(q.map (f15 n)).sum=0:=by
   intro q
   induction q with
   |nil=>intro _;rfl
   | cons x q ih =>
     intro h
     rw[XX,Yj,ih fun y hy=>h y (by simp [hy]),h x (by simp)]
     unfold f15;simp
  refine this _ fun y hy=> ?_
  obtain⟨j,hj⟩:=vA.1 hy
  rw[vz]at hj
  have hl:=(vh.1 hj).1
  have:=Ah l k l.length (wA l k l.length+j) (by omega) hl
  rw[XN,hj]at this
  have:=hr y (List.mem_of_mem_drop hy)
  simp at *
  omega
 rw[BV,BV]
 have:(l.map (f15 n)).sum=((Ak l k).map (f15 n)).sum:=by
  conv=>lhs;rw[e]
  rw[List.map_append,List.sum_append,z,Nat.add_zero]
 rw[this]
theorem OB {l:List Int} (k:Nat) {p:Nat} (h:0<l.getD p 0):p<(Ak l k).length∧(Ak l k).getD p 0=l.getD p 0:=by
 have hp:p<l.length:=by
  apply Yc
  intro c
  rw[XN,X5 (by omega)]at h
  simp at h
 have:p<wA l k l.length:=by
  apply Yc
  intro c
  exact Ah l k l.length p (by omega) hp h
 unfold Ak
 refine⟨by rw[Yb];omega, ?_⟩
 rw[XN,vH,if_pos this,←XN]
theorem yF {l:List Int} (h1:1≤l.length) (h2:l.length≤288) (hr:∀y∈l,0≤y∧y<16) (h:0≤wh l 15):we l=if wh l 15=0 then 0 else 302:=by
 have hm:AL l=true:=by
  unfold AL
  have:(ints l).any Bg=false:=by
   rw[List.any_eq_false]
   intro x hx
   obtain⟨y,hy,rfl⟩:=X1.1 hx
   have:=hr y hy
   simp [Bg,I];omega
  rw[this];simp;omega
 unfold we
 rw[if_neg (by rw[hm];simp),if_neg (by omega)]
 split
 · rw[if_neg (by omega)]
 · rw[if_pos (by omega)]
theorem JB (s:ByteArray) (i j:Nat):∀f k,(∀m,m<k→zq s (i+m)=zq s (j+m))→∀m,m<yZ s i j f k→zq s (i+m)=zq s (j+m)
 |0,k,h=>by simpa [yZ]using h
 | f + 1, k, h => by
   unfold yZ
   split
   · rename_i q
     refine JB s i j f (k+1) fun m hm=> ?_
     by_cases e:m=k
     · subst e;exact q.2.2
     · exact h m (by omega)
   · exact h
theorem Cd (s:ByteArray) (i:Nat) (hi:i≤s.size):∀(n:Nat) (b:Nat×Nat),n≤i→(b.1=0∨(b.1≤258∧1≤b.2∧b.2≤i∧i+b.1≤s.size∧∀m,m<b.1→zq s (i+m)=zq s (i-b.2+m)))→
 ((wN s i n b).1=0∨((wN s i n b).1≤258∧1≤(wN s i n b).2∧(wN s i n b).2≤i∧i+(wN s i n b).1≤s.size∧∀m,m<(wN s i n b).1→zq s (i+m)=zq s (i-(wN s i n b).2+m)))
 |0,b,hn,h=>h
 | n + 1, b, hn, h => by
   unfold wN
   refine Cd s i hi n _ (by omega) ?_
   split
   · right
     refine⟨HS s i n,by show 1≤i-n;omega,by show i-n≤i;omega,G3 s i n hi,fun m hm=> ?_⟩
     have:=JB s i n 258 0 (fun m hm=>by omega) m hm
     have e:i-(i-n)=n:=by omega
     show zq s (i+m)=zq s (i-(i-n)+m)
     rw[e];exact this
   · exact h
def preB (s:ByteArray) (i:Nat):List Nat:=(List.range i).map (zq s)
theorem yH (s:ByteArray) (i:Nat):(preB s i).length=i:=by simp [preB]
theorem DK (s:ByteArray) (i:Nat):preB s (i+1)=preB s i++[zq s i]:=by simp [preB,List.range_succ]
theorem Ju (s:ByteArray) {i j:Nat} (h:j<i):(preB s i).getD j 0=zq s j:=by
 rw[XN,preB,vx,Yl h];rfl
theorem KS (s:ByteArray) {d:Nat} (hd:1≤d):∀(n i:Nat),d≤i→(∀m,m<n→zq s (i+m)=zq s (i-d+m))→Hr d n (preB s i)=preB s (i+n)
 |0,i,h,_=>rfl
 | n + 1, i, h, hm => by
   have e0:=hm 0 (by omega)
   simp only[Nat.add_zero]at e0
   rw[Hr,yH,Ju s (by omega),←e0,←DK,KS s hd n (i+1) (by omega) fun m h2=>by
    have:=hm (m+1) (by omega)
    have a1:i+(m+1)=i+1+m:=by omega
    have a2:i-d+(m+1)=i+1-d+m:=by omega
    rw[a1,a2]at this;exact this]
   congr 1;omega
theorem KE (s:ByteArray) {i:Nat} (hi:i<s.size):((xQ s i).1.len=0∧(xQ s i).1.lit=zq s i∧(xQ s i).1.wB=0∧(xQ s i).2=i+1)∨
 (∃L D:Nat,(xQ s i).1.len=L∧(xQ s i).1.wB=D∧(xQ s i).1.lit=0∧3≤L∧L≤258∧1≤D∧D≤i∧(xQ s i).2=i+L∧i+L≤s.size∧∀m,m<L→zq s (i+m)=zq s (i-D+m)):=by
 unfold xQ
 split
 · exact .inl ⟨rfl,rfl,rfl,rfl⟩
 · rename_i c
   right
   rcases Cd s i (by omega) i (0,0) (vm _) (.inl rfl)with h|⟨h1,h2,h3,h4,h5⟩
   · omega
   · exact⟨_,_,rfl,rfl,rfl,by omega,h1,h2,h3,rfl,h4,h5⟩
theorem AY (s : ByteArray) (hs : s.size ≤ 300) : ∀ (f i : Nat), s.size - i ≤ f → i ≤ s.size → (Ao s f i).length ≤ s.size - i ∧ (∀ t ∈ Ao s f i, y6 t) ∧ wo i (Ao s f i) = true ∧ yj (Ao s f i) (preB s i) = preB s s.size
 | 0, i, hf, hi => by
   have:i=s.size:=by omega
   subst this
   simp [Ao,wo,yj]
 | f + 1, i, hf, hi => by
   rw[Ao]
   split
   · rename_i c
     have lt:=FM s i
     have le:=FK s i c
     obtain⟨i1,i2,i3,i4⟩:=AY s hs f (xQ s i).2 (by omega) le
     have sp:=KE s c
     refine⟨by rw[XO];omega, ?_, ?_, ?_⟩
     · intro t ht
       rcases vF.1 ht with q|q
       · subst q
         rcases sp with ⟨a,b,_,_⟩|⟨L,D,a,b,_,c1,c2,c3,c4,_,_,_⟩
         · have:=Dp s i
           exact .inl ⟨a,by omega,by omega⟩
         · exact .inr ⟨by omega,by omega,by omega,by omega⟩
       · exact i2 t q
     · rw [wo]
       rcases sp with ⟨a,b,c0,d⟩|⟨L,D,a,b,c0,c1,c2,c3,c4,d,e,_⟩
       · have hb:=Dp s i
         have st:wS (i:Int) (xQ s i).1=some ((i:Int)+1):=by
          unfold wS
          rw[if_pos a,if_neg (by omega)]
         rw[st]
         simp only
         rw[if_neg (by omega)]
         have e:(((xQ s i).2:Nat):Int)=(i:Int)+1:=by omega
         rw[←e];exact i3
       · have st:wS (i:Int) (xQ s i).1=some ((i:Int)+L):=by
          unfold wS
          rw[if_neg (by omega),if_neg (by omega),a]
         rw[st]
         simp only
         rw[if_neg (by omega)]
         have e':(((xQ s i).2:Nat):Int)=(i:Int)+L:=by omega
         rw[←e'];exact i3
     · rw [yj]
       rcases sp with ⟨a,b,c0,d⟩|⟨L,D,a,b,c0,c1,c2,c3,c4,d,e,g⟩
       · have:wK (preB s i) (xQ s i).1=preB s (xQ s i).2:=by
          unfold wK
          rw[if_pos a,b,d,DK];rfl
         rw[this];exact i4
       · have:wK (preB s i) (xQ s i).1=preB s (xQ s i).2:=by
          unfold wK
          rw[if_neg (by omega),a,b,d]
          exact KS s c3 L i c4 g
         rw[this];exact i4
   · have:i=s.size:=by omega
     subst this
     simp [wo,yj]
theorem Cj (s:ByteArray) (hs:s.size≤300):Ds (tokens s)=true:=by
 obtain⟨_,_,h3,h4⟩:=AY s hs s.size 0 (by omega) (by omega)
 unfold Ds yK tokens
 have h3':wo 0 (Ao s s.size 0)=true:=h3
 rw[if_pos h3']
 have:yj (Ao s s.size 0) []=preB s s.size:=h4
 rw[this]
 simp only[xf,yH]
 simpa using hs
theorem E5 (l:List Int) (i p:Nat):l.getD p 0≤(xz l i).getD p 0:=by
 unfold xz
 by_cases e:i=p
 · subst e
   by_cases h:i<l.length
   · rw[XN (l:=l.set i _),X8,if_pos rfl,if_pos h]
     show l.getD i 0≤l.getD i 0+1
     omega
   · rw[List.set_eq_of_length_le (by omega)];exact Yq _
 · rw[getD_set_ne e];exact Yq _
theorem CY {l:List Int} {i:Nat} (h:i<l.length):(xz l i).getD i 0=l.getD i 0+1:=by
 unfold xz
 rw[XN (l:=l.set i _),X8,if_pos rfl,if_pos h];rfl
theorem CP:∀(ts:List Tok) (A:List Int) (p:Nat),A.getD p 0≤(zM ts A).getD p 0
 |[],A,p=>Yq _
 | t :: r, A, p => by
   rw[zM]
   refine Int.le_trans ?_ (CP r _ p)
   split<;>exact E5 _ _ _
theorem Is:∀(ts:List Tok) (A:List Int) (p:Nat),A.getD p 0≤(zX ts A).getD p 0
 |[],A,p=>Yq _
 | t :: r, A, p => by
   rw[zX]
   refine Int.le_trans ?_ (Is r _ p)
   split
   · exact Yq _
   · exact E5 _ _ _
theorem Iu:∀(ts:List Int) (A:List Int) (p:Nat),A.getD p 0≤(xU ts A).getD p 0
 |[],A,p=>Yq _
 | t :: r, A, p => by
   rw[xU]
   exact Int.le_trans (E5 _ _ _) (Iu r _ p)
theorem Dc {A:List Int} (h:∀y∈A,0≤y) (p:Nat):0≤A.getD p 0:=by
 rw[XN]
 cases e:A[p]? with
 |none=>simp
 |some y=>exact h y (vq e)
theorem Ko {A:List Int} (h:∀y∈A,0≤y) (i:Nat):∀y∈xz A i,0≤y:=by
 intro y hy
 rcases Yd hy with q|q
 · exact h y q
 · have:=Dc h i;omega
theorem Ir : ∀ (ts : List Tok) (A : List Int), (∀ y ∈ A, 0 ≤ y) → A.length = 286 → ∀ t ∈ ts, y6 t → (t.len = 0 → 1 ≤ (zM ts A).getD t.lit.toNat 0) ∧ (t.len ≠ 0 → 1 ≤ (zM ts A).getD (xF t.len.toNat) 0)
 |[],A,_,_,t,h,_=>by simp at h
 | u :: r, A, hA, hl, t, h, o => by
   rw[zM]
   rcases vF.1 h with q|q
   · subst q
     refine⟨fun h0=> ?_,fun h0=> ?_⟩
     · rw[if_pos h0]
       refine Int.le_trans ?_ (CP r _ _)
       rcases o with ⟨_,b,c⟩|⟨a,_⟩
       · rw[CY (by omega)]
         have:=Dc hA t.lit.toNat;omega
       · omega
     · rw[if_neg h0]
       refine Int.le_trans ?_ (CP r _ _)
       rcases o with ⟨a,_⟩|⟨a,b,_⟩
       · exact absurd a h0
       · have:=zj (k:=t.len.toNat) (by omega) (by omega)
         rw[CY (by omega)]
         have:=Dc hA (xF t.len.toNat);omega
   · exact Ir r _ (by split<;>exact Ko hA _) (by split<;>rw[yo,hl]) t q o
theorem It : ∀ (ts : List Tok) (A : List Int), (∀ y ∈ A, 0 ≤ y) → A.length = 30 → ∀ t ∈ ts, y6 t → t.len ≠ 0 → 1 ≤ (zX ts A).getD (xN t.wB.toNat) 0
 |[],A,_,_,t,h,_,_=>by simp at h
 | u :: r, A, hA, hl, t, h, o, h0 => by
   rw[zX]
   rcases vF.1 h with q|q
   · subst q
     rw[if_neg h0]
     refine Int.le_trans ?_ (Is r _ _)
     rcases o with ⟨a,_⟩|⟨a,b,c,d⟩
     · exact absurd a h0
     · have:=zh (k:=t.wB.toNat) (by omega) (by omega)
       rw[CY (by omega)]
       have:=Dc hA (xN t.wB.toNat);omega
   · refine It r _ ?_ ?_ t q o h0
     · split
       · exact hA
       · exact Ko hA _
     · split
       · exact hl
       · rw[yo,hl]
theorem EI:∀(ds:List Int) (A:List Int),(∀y∈A,0≤y)→A.length=19→∀y∈ds,0≤y∧y<19→1≤(xU ds A).getD y.toNat 0
 |[],A,_,_,t,h,_=>by simp at h
 | u :: r, A, hA, hl, t, h, o => by
   rw[xU]
   rcases vF.1 h with q|q
   · subst q
     refine Int.le_trans ?_ (Iu r _ _)
     rw[CY (by omega)]
     have:=Dc hA t.toNat;omega
   · exact EI r _ (Ko hA _) (by rw[yo,hl]) t q o
theorem Bd (n:Nat):∀y∈List.replicate n (0:Int),0≤y∧y≤0:=fun y hy=>by have:=X7 hy;omega
theorem KU (ts:List Tok) (hn:ts.length≤300):(dA ts).length=286∧(∀y∈dA ts,0≤y∧y≤2147483647)∧1≤(dA ts).getD 256 0:=by
 have z:∀y∈(List.replicate 286 (0:Int)).set 256 1,0≤y∧y≤1:=fun y hy=>by
  rcases Yd hy with q|q
  · have:=X7 q;omega
  · omega
 refine⟨by unfold dA;rw[Bm,X6,X3],fun y hy=> ?_, ?_⟩
 · have:=Bn ts _ 1 (by omega) z y hy;omega
 · have h:((List.replicate 286 (0:Int)).set 256 1).getD 256 0=1:=by decide
   have:=CP ts ((List.replicate 286 0).set 256 1) 256
   rw[h]at this
   exact this
theorem KV (ts:List Tok) (hn:ts.length≤300):(dB ts).length=30∧(∀y∈dB ts,0≤y∧y≤2147483647):=by
 refine⟨by unfold dB;rw[Bp,X3],fun y hy=> ?_⟩
 have:=Bq ts _ 0 (by omega) (Bd 30) y hy;omega
theorem Nz {ts:List Tok} {la lb:List Int} {t:Tok} (o:y6 t) (hA:t.len=0→B9 (vO la) t.lit.toNat) (hL:t.len≠0→B9 (vO la) (xF t.len.toNat)) (hB:t.len≠0→B9 (vO lb) (xN t.wB.toNat)):HF (vO la) (vO lb) t:=by
 rcases o with ⟨a,b,c⟩|⟨a,b,c,d⟩
 · exact .inl ⟨a,b,hA a⟩
 · exact .inr ⟨a,b,c,d,hL (by omega),hB (by omega)⟩
theorem ET {C l:List Int} {K k m:Nat} (hC:∀y∈C,0≤y∧y≤2147483647) (h2:2≤C.length) (hl:C.length≤288) (hk:k≤C.length) (hk1:1≤k) (r:yc 15 K (xE C)) (e:l=Ak (xe C K) k):
 (k≤l.length∧l.length≤C.length)∧(∀y∈l,0≤y∧y<16)∧(we l=0∨we l=302)∧(∀p,0<C.getD p 0→B9 (vO l) p)∧0≤wh l 15:=by
 obtain⟨f1,f2,f3,f4,f5⟩:=zT hC h2 hl (by omega) r
 have ug:=xB (xe C K) k (xe C K).length
 have ll:l.length=wA (xe C K) k (xe C K).length:=by rw[e];exact AF _ (by omega)
 have hr:∀y∈l,0≤y∧y<16:=fun y hy=>by
  rw[e]at hy
  have:=f2 y (Yt hy)
  omega
 have lc:wh l 15=wh (xe C K) 15:=by rw[e];exact Ep (fun y hy=>(f2 y hy).1) k 15
 have l0:0≤wh l 15:=by
  rw[lc]
  by_cases c:∃y∈C,0<y
  · rw[f4 c];omega
  · rw[f5 fun y hy q=>c ⟨y,hy,q⟩]
    rw[BV,List.map_replicate]
    have:f15 15 0=0:=rfl
    rw[this];simp
 have ck:=yF (l:=l) (by omega) (by omega) hr l0
 refine⟨by omega,hr, ?_,fun p hp=> ?_,l0⟩
 · rw[ck];split
   · exact .inl rfl
   · exact .inr rfl
 · have g:=f3 p hp
   obtain⟨c1,c2⟩:=OB k (show 0<(xe C K).getD p 0 by omega)
   rw[←e]at c1 c2
   exact HE l0 hr c1 (by omega)
theorem OI {ts:List Tok} (hn:ts.length≤300) (H4:Ds ts=true) (t2:∀t∈ts,y6 t):∃KA KB KC la lb Lc,Bh ts KA KB KC la lb Lc:=by
 obtain⟨a1,a2,a3⟩:=KU ts hn
 obtain⟨b1,b2⟩:=KV ts hn
 obtain⟨KA,rA⟩:=BC (most:=15) a2 (by omega) (by omega) (.inl (by omega))
 obtain⟨KB,rB⟩:=BC (most:=15) b2 (by omega) (by omega) (.inl (by omega))
 obtain⟨la,ea⟩:∃l,l=Ak (xe (dA ts) KA) 257:=⟨_,rfl⟩
 obtain⟨lb,eb⟩:∃l,l=Ak (xe (dB ts) KB) 1:=⟨_,rfl⟩
 obtain⟨x1,x2,x3,x4,x5⟩:=ET (m:=0) a2 (by omega) (by omega) (by omega) (by omega) rA ea
 obtain⟨y1,y2,y3,y4,y5⟩:=ET (m:=0) b2 (by omega) (by omega) (by omega) (by omega) rB eb
 have hall:∀y∈la++lb,0≤y∧y<19:=fun y hy=>by
  rcases Ya.1 hy with q|q
  · have:=x2 y q;omega
  · have:=y2 y q;omega
 have c1:(xU (la++lb) (List.replicate 19 0)).length=19:=by rw[Br,X3]
 have c2:∀y∈xU (la++lb) (List.replicate 19 0),0≤y∧y≤2147483647:=fun y hy=>by
  have:=Bs (la++lb) _ 0 (by omega) (Bd 19) y hy
  rw[vI]at this
  omega
 obtain⟨KC,rC⟩:=BC (most:=7) c2 (by omega) (by omega) (.inr (by omega))
 obtain⟨f1,f2,f3,f4,f5⟩:=zT c2 (by omega) (by omega) (by omega) rC
 have hit:=EI (la++lb) (List.replicate 19 0) (fun y hy=>(Bd 19 y hy).1) (by rw[X3])
 have ex:∃y∈xU (la++lb) (List.replicate 19 0),0<y:=by
  obtain⟨z,hz⟩:=List.exists_mem_of_ne_nil (la++lb) (fun q=>by
   have:=Yh List.length q
   rw[vI,XR]at this
   omega)
  have h:=hit z hz (hall z hz)
  refine⟨_, ?_,show 0<(xU (la++lb) (List.replicate 19 0)).getD z.toNat 0 by omega⟩
  have zl:z.toNat<(xU (la++lb) (List.replicate 19 0)).length:=by have:=hall z hz;omega
  rw[XN,XQ zl]
  exact X4 zl
 have l0:=f4 ex
 have r16:∀y∈xe (xU (la++lb) (List.replicate 19 0)) KC,0≤y∧y<16:=fun y hy=>by have:=f2 y hy;omega
 refine⟨KA,KB,KC,la,lb,_,⟨H4,hn,t2,rA,rB,ea,eb,hall,rC,rfl,fun y hy=>by have:=f2 y hy;omega,x3,y3, ?_, ?_, ?_, ?_⟩⟩
 · have:=yF (by omega) (by omega) r16 (by omega)
   rw[this,if_pos l0];exact .inl rfl
 · intro y hy
   have h:=hit y hy (hall y hy)
   have g:=f3 y.toNat (by omega)
   exact HE (by omega) r16 (by have:=hall y hy;omega) g
 · intro t ht
   have o:=t2 t ht
   have zA:∀y∈(List.replicate 286 (0:Int)).set 256 1,0≤y:=fun y hy=>by
    rcases Yd hy with q|q
    · have:=X7 q;omega
    · omega
   have hA:=Ir ts _ zA (by rw[X6,X3]) t ht o
   have hB:=It ts (List.replicate 30 0) (fun y hy=>(Bd 30 y hy).1) (by rw[X3]) t ht o
   exact Nz (ts:=ts) o (fun h0=>x4 _ (by have:=hA.1 h0;unfold dA;omega)) (fun h0=>x4 _ (by have:=hA.2 h0;unfold dA;omega)) (fun h0=>y4 _ (by have:=hB h0;unfold dB;omega))
 · exact x4 256 (by omega)
theorem J5 (s:ByteArray) (hs:s.size≤300):∃KA KB KC la lb Lc,Bh (tokens s) KA KB KC la lb Lc:=by
 obtain⟨t1,t2,t3,t4⟩:=AY s hs s.size 0 (by omega) (by omega)
 change (tokens s).length≤s.size-0 at t1
 exact OI (by omega) (Cj s hs) t2
theorem Mn:∀bs:List Nat,(∀b∈bs,b≤1)→JR (wD bs):=by
 have:∀(l:List Nat) (i:Nat) (out:List Nat),(∀b∈l,b≤1)→JR out→JR (yk l i out):=by
  intro l
  induction l with
  |nil=>intro i out _ h;exact h
  |cons x l ih=>intro i out hl h;exact ih (i+1) _ (fun b hb=>hl b (by simp [hb])) (BG (hl x (by simp)) h)
 exact fun bs h=>this bs 0 [] h fun _ q=>by simp at q
theorem zf (v:Nat):∀m,∀b∈yQ v m,b≤1
 |0,b,h=>by simp [yQ]at h
 | m + 1, b, h => by
   rw[yQ]at h
   rcases vF.1 h with q|q
   · omega
   · exact zf v m b q
theorem yY (v:Nat):∀m i,∀b∈Cx v i m,b≤1
 |0,i,b,h=>by simp [Cx]at h
 | m + 1, i, b, h => by
   rw[Cx]at h
   rcases vF.1 h with q|q
   · omega
   · exact yY v m (i+1) b q
theorem Ei (E D:List (Int×Int)) (t:Tok):∀b∈wH E D t,b≤1:=by
 intro b h
 unfold wH vY wc at h
 split at h
 · exact zf _ _ b h
 · simp only[Ya]at h
   rcases h with h|h|h|h
   · exact zf _ _ b h
   · exact yY _ _ _ b h
   · exact zf _ _ b h
   · exact yY _ _ _ b h
theorem OH (ts:List Tok) (la lb Lc:List Int):∀b∈wX ts la lb Lc,b≤1:=by
 intro b h
 unfold wX at h
 simp only[Ya]at h
 rcases h with h|h|h|h|h|h|h|h
 · exact yY _ _ _ b h
 · exact yY _ _ _ b h
 · exact yY _ _ _ b h
 · exact yY _ _ _ b h
 · obtain⟨y,_,hy⟩:=List.mem_flatMap.1 h
   exact yY _ _ _ b hy
 · obtain⟨y,_,hy⟩:=List.mem_flatMap.1 h
   exact zf _ _ b hy
 · obtain⟨y,_,hy⟩:=List.mem_flatMap.1 h
   exact Ei _ _ y b hy
 · exact zf _ _ b h
def Bf (t:ByteArray) (p:Nat) (bs:List Nat):Prop:=p+bs.length≤8* t.size∧∀i,i<bs.length→xA t (p+i)=bs.getD i 0
theorem Bf.app {t:ByteArray} {p:Nat} {a b:List Nat} (h:Bf t p (a++b)):Bf t p a∧Bf t (p+a.length) b:=by
 obtain⟨h1,h2⟩:=h
 rw[vI]at h1 h2
 refine⟨⟨by omega,fun i hi=> ?_⟩,⟨by omega,fun i hi=> ?_⟩⟩
 · have:=h2 i (by omega)
   rw[this,XN,XN,X2 hi]
 · have:=h2 (a.length+i) (by omega)
   rw[vk,this,XN,XN,X0 (by omega),Nat.add_sub_cancel_left]
theorem Gb (l:List Nat) (h:JR l) (i:Nat):(((bytesOf l)[i]?).map (·.toNat)).getD 0=l.getD i 0:=by
 have e:(bytesOf l)[i]?=(l.map UInt8.ofNat)[i]?:=by
  show(l.map UInt8.ofNat).toArray[i]?=_
  simp
 rw[e,vx,XN]
 cases hx:l[i]? with
 |none=>rfl
 | some x =>
   have:=h x (vq hx)
   simp [UInt8.toNat_ofNat_of_lt' this]
theorem MS {x b k j:Nat} (hb:b≤1) (hx:x<2^k):(x|||b* 2^k)/2^j%2=if j=k then b else x/2^j%2:=by
 rw[←Nat.toNat_testBit,←Nat.toNat_testBit,Nat.testBit_or]
 have hb':b=0∨b=1:=by omega
 rcases hb' with rfl|rfl
 · rw[Nat.zero_mul,Nat.zero_testBit,Bool.or_false]
   split
   · rename_i e;subst e
     rw[Nat.testBit_lt_two_pow hx];rfl
   · rfl
 · rw[Nat.one_mul,Nat.testBit_two_pow]
   split
   · rename_i e;subst e;simp
   · rename_i e
     have:decide (k=j)=false:=by simp;omega
     rw[this,Bool.or_false]
structure LG (out:List Nat) (bs:List Nat):Prop where
 len:out.length=(bs.length+7)/8
 bit:∀j,j<bs.length→out.getD (j/8) 0/2^(j%8)%2=bs.getD j 0
 top:bs.length%8≠0→out.getD (bs.length/8) 0<2^(bs.length%8)
theorem LG.step {out bs : List Nat} {b : Nat} (hb : b ≤ 1) (v : LG out bs) : LG (wZ out bs.length b) (bs ++ [b]) := by
 obtain⟨len,bit,top⟩:=v
 obtain⟨n,hn⟩:∃n,n=bs.length:=⟨_,rfl⟩
 rw[←hn]at len bit top ⊢
 obtain⟨o,ho⟩:∃o,o=if n%8=0 then out++[0]else out:=⟨_,rfl⟩
 have es:wZ out n b=o.set (n/8) (o.getD (n/8) 0|||b* 2^(n%8)):=by rw[ho];rfl
 have ol:n/8<o.length:=by
  rw[ho];split
  · rw[vI,len];simp;omega
  · rw[len];omega
 have og:∀j,j<n→o.getD (j/8) 0=out.getD (j/8) 0:=fun j hj=>by
  rw[ho];split
  · rw[XN,X2 (by omega),←XN]
  · rfl
 have ox:o.getD (n/8) 0<2^(n%8):=by
  by_cases c:n%8=0
  · rw[ho,if_pos c,XN,X0 (by omega),c]
    have:n/8-out.length=0:=by omega
    rw[this];simp
  · rw[ho,if_neg c];exact top c
 have gn:∀m,(wZ out n b).getD m 0=if m=n/8 then o.getD (n/8) 0|||b* 2^(n%8)else o.getD m 0:=fun m=>by
  rw[es]
  by_cases e:m=n/8
  · subst e
    rw[if_pos rfl,XN,X8,if_pos rfl,if_pos ol];rfl
  · rw[if_neg e,getD_set_ne (fun q=>e q.symm)]
 have bl:(bs++[b]).length=n+1:=by simp [hn]
 refine⟨by rw[bl,Ea len],fun j hj=> ?_,fun hc=> ?_⟩
 · rw [bl] at hj
   rw[gn]
   by_cases e:j=n
   · subst e
     rw[if_pos rfl,MS hb ox,if_pos rfl,XN,hn,X0 (vm _)];simp
   · have hjn:j<n:=by omega
     have gb:(bs++[b]).getD j 0=bs.getD j 0:=by rw[XN,X2 (by omega),←XN]
     rw[gb,←bit j hjn,←og j hjn]
     split
     · rename_i e2
       rw[MS hb ox,if_neg (by omega),e2]
     · rfl
 · rw[bl]at hc ⊢
   have e8:(n+1)/8=n/8:=by omega
   have m8:(n+1)%8=n%8+1:=by omega
   rw[gn,e8,if_pos rfl,m8,Kq ox,Nat.pow_succ]
   have:b* 2^(n%8)≤1* 2^(n%8):=vp _ hb
   omega
theorem Mo:∀bs:List Nat,(∀b∈bs,b≤1)→LG (wD bs) bs:=by
 have key:∀(q p:List Nat) (out:List Nat),(∀b∈q,b≤1)→LG out p→LG (yk q p.length out) (p++q):=by
  intro q
  induction q with
  |nil=>intro p out _ h;simpa [yk]using h
  | cons x q ih =>
    intro p out hb h
    have:=ih (p++[x]) (wZ out p.length x) (fun b q=>hb b (by simp [q])) (h.step (hb x (by simp)))
    rw[vI,XV]at this
    exact this
 intro bs hb
 exact key bs [] [] hb ⟨rfl,fun j hj=>by simp at hj,fun h=>by simp at h⟩
theorem F9 (bs:List Nat) (hb:∀b∈bs,b≤1):Bf (bytesOf (wD bs)) 0 bs:=by
 have v:=Mo bs hb
 have y:=Mn bs hb
 refine⟨by rw[xf,v.len];omega,fun i hi=> ?_⟩
 rw[vr]
 unfold xA
 rw[Gb _ y]
 exact v.bit i hi
theorem Ly {t:ByteArray} {p:Nat} {v:Nat}:∀(n:Nat),(∀i,i<n→xA t (p+i)=v/2^i%2)→vP t p n=v%2^n
 |0,h=>by simp [vP,Nat.mod_one]
 | n + 1, h => by
   rw[vP,Ly n fun i hi=>h i (by omega),h n (by omega),Nat.pow_succ,Nat.mod_mul,Nat.mul_comm]
theorem Jv (v:Nat):∀m i j,j<m→(Cx v i m).getD j 0=v/2^(i+j)%2
 |0,i,j,h=>by omega
 |m+1,i,0,h=>rfl
 | m + 1, i, j + 1, h => by
   show(Cx v (i+1) m).getD j 0=_
   rw[Jv v m (i+1) j (by omega)]
   congr 3;omega
theorem Bf.put {t:ByteArray} {p v n:Nat} (h:Bf t p (wc v n)) (hv:v<2^n):vP t p n=v∧p+n≤8* t.size:=by
 obtain⟨h1,h2⟩:=h
 unfold wc at h1 h2
 rw[wm]at h1 h2
 refine⟨?_,h1⟩
 rw[Ly n fun i hi=>by rw[h2 i hi,Jv v n 0 i hi,vr],Nat.mod_eq_of_lt hv]
theorem JM (n:Nat):∀(q p:List Int),∃r,syms (p++q) n=syms p n++r
 |[],p=>⟨[],by simp⟩
 | x :: q, p => by
   obtain⟨r,hr⟩:=JM n q (p++[x])
   rw[XV,AW]at hr
   exact⟨_,by rw[show p++x::q=p++([x]++q)by simp,hr,XV]⟩
theorem Lu {l:List Int} {s n:Nat} (hs:s<l.length) (hn:1≤n) (e:l.getD s 0=(n:Int)):(syms l n)[xw (l.take s) n]?=some (s:Int):=by
 have e2:l.take (s+1)=l.take s++[l.getD s 0]:=by
  rw[List.take_add_one,XQ hs,XN,XQ hs];rfl
 obtain⟨r,hr⟩:=JM n (l.drop (s+1)) (l.take (s+1))
 rw[List.take_append_drop,e2,AW,if_pos ⟨by omega,e⟩]at hr
 have ls:=AU (l.take s) n
 have lt:(l.take s).length=s:=by rw[Yb];omega
 rw[hr,XV,X0 (by omega),ls,YB,lt];rfl
theorem D3 (l:List Int) (n:Nat):∀m,(vR l n+xw l n)* 2^(m+1)≤vR l (n+m+1)
 |0=>by rw[vR];simp
 | m + 1 => by
   have ih:=D3 l n m
   rw[show n+(m+1)+1=(n+m+1)+1 by omega,vR,Int.pow_succ,←Int.mul_assoc]
   omega
theorem OJ {l:List Int} {n m:Nat} {c:Nat} (hc:vR l (n+m+1)≤(c:Int)):yD l n ((c/2^(m+1):Nat):Int)=none:=by
 have g:=D3 l n m
 have h1:vR l n+xw l n≤((c/2^(m+1):Nat):Int):=by
  have p2:((2^(m+1):Nat):Int)=(2:Int)^(m+1):=by push_cast;rfl
  have:(vR l n+xw l n)* ((2^(m+1):Nat):Int)≤(c:Int):=by rw[p2];omega
  rw[Int.natCast_ediv]
  exact(Int.le_ediv_iff_mul_le (by have:=Nat.pow_pos (n:=m+1) (show 0<2 by omega);omega)).2 this
 unfold yD
 split
 · rw[X5]
   rw[AU];omega
 · rfl
theorem JI {t : ByteArray} {l : List Int} {s N c : Nat} (hs : s < l.length) (hN : 1 ≤ N) (e : l.getD s 0 = (N : Int)) (hc : (c : Int) = vR l N + xw (l.take s) N) : ∀ (m n k p : Nat), n + m = N → m + 1 ≤ k → Bf t p (yQ c (m + 1)) → xX t l k n (c / 2 ^ (m + 1)) p = some ((s : Int), p + (m + 1))
 |m,n,0,p,hn,hk,hb=>by omega
 | m, n, k + 1, p, hn, hk, hb => by
   have hb1:Bf t p ([c/2^m%2]++yQ c m):=hb
   obtain⟨b1,b2⟩:=hb1.app
   have v1:vP t p 1=c/2^m%2:=by
    have:=b1.2 0 (by simp)
    simp only[Nat.add_zero,List.getD_cons_zero]at this
    simp [vP,this]
   have pl:p+1≤8* t.size:=b1.1
   have vv:c/2^(m+1)* 2+c/2^m%2=c/2^m:=by
    rw[Nat.pow_succ,←Nat.div_div_eq_div_mul];omega
   rw[xX,if_pos pl,v1,vv]
   cases m with
   | zero =>
     have:yD l n ((c/2^0:Nat):Int)=some (s:Int):=by
      have hn':n=N:=by omega
      subst hn'
      unfold yD
      rw[Nat.pow_zero,Nat.div_one,if_pos (by omega)]
      have:((c:Int)-vR l n).toNat=xw (l.take s) n:=by omega
      rw[this]
      exact Lu hs hN e
     rw[this]
   | succ m =>
     have:yD l n ((c/2^(m+1):Nat):Int)=none:=OJ (by rw[show n+m+1=N by omega];omega)
     rw[this]
     have r:=JI hs hN e hc m (n+1) k (p+1) (by omega) (by omega) b2
     rw[r]
     simp only[vb,vg,true_and];omega
theorem Oa {t:ByteArray} {l:List Int} (hl:0≤wh l 15) (hr:∀y∈l,0≤y∧y<16) {s p:Nat} (hs:s<l.length) (h1:1≤l.getD s 0) (hb:Bf t p (vY (vO l) s)):xX t l 15 1 0 p=some ((s:Int),p+(vY (vO l) s).length):=by
 obtain⟨n,v,g,n1,n2,n3,n4⟩:=(HE hl hr hs h1).bits
 have g2:(vO l)[s]?=some (AB l s):=by
  unfold vO
  rw[vx,Yl hs];rfl
 rw[g2]at g
 have g3:=u6 g
 unfold AB at g3
 rw[if_pos h1]at g3
 have e1:l.getD s 0=(n:Int):=Yh Prod.fst g3
 have e2:vR l (l.getD s 0).toNat+xw (l.take s) (l.getD s 0).toNat=(v:Int):=Yh Prod.snd g3
 have tn:((n:Nat):Int).toNat=n:=by omega
 rw[e1,tn]at e2
 rw[n4]at hb ⊢
 rw[xc]
 obtain⟨m,rfl⟩:∃m,n=m+1:=⟨n-1,by omega⟩
 have:=JI hs n1 e1 e2.symm m 1 15 p (by omega) (by omega) hb
 rw[Nat.div_eq_of_lt n3]at this
 exact this
theorem HD {l:List Int} {s:Nat} (o:B9 (vO l) s):s<l.length∧1≤l.getD s 0:=by
 have hs:s<l.length:=by have:=o.lt;rwa [zY]at this
 obtain⟨n,v,g,n1,_⟩:=o
 have g2:(vO l)[s]?=some (AB l s):=by
  unfold vO
  rw[vx,Yl hs];rfl
 rw[g2]at g
 have g3:=u6 g
 unfold AB at g3
 refine⟨hs, ?_⟩
 apply Yc
 intro c
 rw[if_neg c]at g3
 have:=Yh Prod.fst g3
 simp at this
 omega
theorem Gf {most:Int} (d:Nat):∀(n:Nat) (out:List Nat),(out.length:Int)+n≤most→ya most d n out=.ok (Hr d n out)
 |0,out,h=>rfl
 | n + 1, out, h => by
   rw[ya,if_neg (by omega),Hr]
   exact Gf d n _ (by simp;omega)
structure Dm (l:List Int):Prop where
 left:0≤wh l 15
 O6:∀y∈l,0≤y∧y<16
theorem Dm.sym {l:List Int} (b:Dm l) {t:ByteArray} {s p:Nat} (o:B9 (vO l) s) (hb:Bf t p (vY (vO l) s)):xX t l 15 1 0 p=some ((s:Int),p+(vY (vO l) s).length):=
 Oa b.left b.O6 (HD o).1 (HD o).2 hb
theorem IE (o:List Nat) (t:Tok):o.length≤(wK o t).length:=by
 unfold wK
 split
 · simp
 · rw[CU];omega
theorem IF:∀(ts:List Tok) (o:List Nat),o.length≤(yj ts o).length
 |[],o=>vm _
 |t::r,o=>vG (IE o t) (IF r _)
theorem Cg {t : ByteArray} {la lb : List Int} (bA : Dm la) (bB : Dm lb) (o256 : B9 (vO la) 256) {most : Int} : ∀ (ts : List Tok) (k p : Nat) (out : List Nat), Bf t p (w9 (vO la) (vO lb) ts ++ vY (vO la) 256) → (∀ x ∈ ts, HF (vO la) (vO lb) x) → wo out.length ts = true → ((yj ts out).length : Int) ≤ most → ts.length < k →
 xy t most la lb k p out=.ok (p+(w9 (vO la) (vO lb) ts++vY (vO la) 256).length,yj ts out)
 |ts,0,p,out,hb,ok,hm,hl,hk=>by omega
 | [], k + 1, p, out, hb, ok, hm, hl, hk => by
   have hb':Bf t p (vY (vO la) 256):=hb
   have s:=bA.sym o256 hb'
   rw[xy,s]
   simp only
   rw[if_neg (by omega),if_pos (by omega)]
   rfl
 | x :: r, k + 1, p, out, hb, ok, hm, hl, hk => by
   have ox:=ok x (by simp)
   have e:w9 (vO la) (vO lb) (x::r)++vY (vO la) 256=wH (vO la) (vO lb) x++(w9 (vO la) (vO lb) r++vY (vO la) 256):=by
    unfold w9;rw[XW,XV]
   rw[e]at hb ⊢
   obtain⟨h1,h2⟩:=hb.app
   have gl:=IF r (wK out x)
   have hl':((yj r (wK out x)).length:Int)≤most:=hl
   rw[wo]at hm
   cases hst:wS out.length x with
   |none=>rw[hst]at hm;cases hm
   | some s' =>
     rw[hst]at hm
     simp only at hm
     by_cases k8:8192<s'
     · rw[if_pos k8]at hm;cases hm
     rw[if_neg k8]at hm
     unfold wS at hst
     have rec_:s'=((wK out x).length:Nat)→xy t most la lb k (p+(wH (vO la) (vO lb) x).length) (wK out x)=.ok (p+(wH (vO la) (vO lb) x++(w9 (vO la) (vO lb) r++vY (vO la) 256)).length,yj r (wK out x)):=fun es=>by
      have:=Cg bA bB o256 r k _ (wK out x) h2 (fun y hy=>ok y (by simp [hy])) (by rw[←es];exact hm) hl' (by simp at hk;omega)
      rw[this, @vI _ (wH _ _ _),vk]
     rw[yj]
     by_cases c0:x.len=0
     · rw[if_pos c0]at hst
       by_cases c:x.lit<0∨255<x.lit∨x.wB≠0
       · rw[if_pos c]at hst;cases hst
       rw[if_neg c]at hst
       obtain rfl:=u6 hst
       have tb:wH (vO la) (vO lb) x=vY (vO la) x.lit.toNat:=by rw[wH,if_pos c0]
       rcases ox with ⟨_,q2,q3⟩|⟨q,_⟩
       · have es:wK out x=out++[x.lit.toNat]:=by unfold wK;rw[if_pos c0]
         rw[es]at gl hl' rec_ ⊢
         rw[vI,Ye]at gl rec_
         rw[tb]at h1 rec_ ⊢
         have s:=bA.sym q3 h1
         rw[xy,s]
         simp only
         have tl:((x.lit.toNat:Nat):Int)<256:=by omega
         rw[if_pos tl,if_neg (by omega)]
         have tn:(((x.lit.toNat:Nat):Int)).toNat=x.lit.toNat:=by omega
         rw[tn]
         exact rec_ (by push_cast;rfl)
       · omega
     · rw[if_neg c0]at hst
       by_cases c:x.len<3∨258<x.len∨x.wB<1∨32768<x.wB∨(out.length:Int)<x.wB∨x.lit≠0
       · rw[if_pos c]at hst;cases hst
       rw[if_neg c]at hst
       obtain rfl:=u6 hst
       obtain⟨L,hL⟩:∃y:Nat,x.len=y:=XT (by omega)
       obtain⟨D,hD⟩:∃y:Nat,x.wB=y:=XT (by omega)
       have Lt:x.len.toNat=L:=by omega
       have Dt:x.wB.toNat=D:=by omega
       rcases ox with ⟨q,_⟩|⟨_,_,_,_,q5,q6⟩
       · exact absurd q c0
       rw[Lt]at q5
       rw[Dt]at q6
       have es:wK out x=Hr D L out:=by unfold wK;rw[if_neg c0,Lt,Dt]
       have cl:=CU D L out
       have tb:wH (vO la) (vO lb) x=vY (vO la) (xF L)++(wc (zC L) (za L)++(vY (vO lb) (xN D)++wc (zH D) (zg D))):=by rw[wH,if_neg c0,Lt,Dt]
       rw[es]at gl hl' rec_ ⊢
       rw[tb]at h1 rec_ ⊢
       obtain⟨i1,i2⟩:=h1.app
       obtain⟨i3,i4⟩:=i2.app
       obtain⟨i5,i6⟩:=i4.app
       have s1:=bA.sym q5 i1
       have lb_:=Eu (k:=L) (by omega) (by omega)
       have db_:=Er (k:=D) (by omega) (by omega)
       have ls:=zj (k:=L) (by omega) (by omega)
       have ds:=zh (k:=D) (by omega) (by omega)
       obtain⟨a,b,hab⟩:=A9 ls.1 ls.2.1
       obtain⟨a',b',hab'⟩:=Ar ds.1
       have ea:wk (lenOf (xF L))=a:=by rw[hab];rfl
       have eb:za L=b:=by unfold za;rw[hab];rfl
       have ea':wk (wu (xN D))=a':=by rw[hab'];rfl
       have eb':zg D=b':=by unfold zg;rw[hab'];rfl
       have v1:=i3.put lb_.2
       have v2:=i6.put db_.2
       have pl:∀v n,(wc v n).length=n:=fun v n=>by unfold wc;exact wm v n 0
       rw[pl]at i5 v2
       have s2:=bB.sym q6 i5
       have eL:a+zC L=L:=by unfold zC;rw[ea];omega
       have eD:a'+zH D=D:=by unfold zH;rw[ea'];omega
       rw[xy,s1]
       simp only
       rw[if_neg (by omega),if_neg (by omega)]
       have tn:(((xF L:Nat):Int)).toNat=xF L:=by omega
       have tn2:(((xN D:Nat):Int)).toNat=xN D:=by omega
       have cp:yW t most lb (xF L) (p+(vY (vO la) (xF L)).length) out=.ok (p+(vY (vO la) (xF L)++(wc (zC L) (za L)++(vY (vO lb) (xN D)++wc (zH D) (zg D)))).length,Hr D L out):=by
        unfold yW
        rw[hab]
        simp only
        rw[←eb,if_pos v1.2,s2]
        simp only
        rw[tn2,hab']
        simp only
        rw[←eb',v2.1,v1.1,eL,eD,if_pos ⟨v2.2,by omega⟩,Gf D L out (by omega)]
        simp only[vI,pl,Except.ok.injEq,vg,and_true]
        omega
       rw[tn,cp]
       simp only
       exact rec_ (by rw[cl,hL];push_cast;rfl)
theorem Dm.Ny {C l:List Int} {K k:Nat} (hC:∀y∈C,0≤y∧y≤2147483647) (h2:2≤C.length) (hl:C.length≤288) (hk:k≤C.length) (hk1:1≤k) (r:yc 15 K (xE C)) (e:l=Ak (xe C K) k):Dm l∧((∃y∈C,0<y)→we l=0)∧((∀y∈C,¬0<y)→∀y∈l,y=0):=by
 obtain⟨a,b,c,d,l0⟩:=ET (m:=0) hC h2 hl hk hk1 r e
 obtain⟨f1,f2,f3,f4,f5⟩:=zT hC h2 hl (by omega) r
 refine⟨⟨l0,b⟩,fun ex=> ?_,fun nn y hy=> ?_⟩
 · rw[yF (by omega) (by omega) b l0,if_pos]
   rw[e,Ep (fun y hy=>(f2 y hy).1) k 15]
   exact f4 ex
 · rw[e,f5 nn]at hy
   exact X7 (Yt hy)
theorem DP:∀(l:List Int) (a:Int),(∀y∈l,y=0)→HX l a=a
 |[],a,h=>rfl
 | y :: l, a, h => by
   have:=h y (by simp)
   subst this
   rw[HX]
   first
    |exact DP l a fun z hz=>h z (by simp [hz])
    |(simp;exact DP l a fun z hz=>h z (by simp [hz]))
theorem C8 {t:ByteArray} {Lc:List Int} (bk:Dm Lc) (many:Nat):∀(q acc:List Int) (f p:Nat),Bf t p (zd (vO Lc) q)→(∀y∈q,B9 (vO Lc) y.toNat)→(∀y∈q,0≤y∧y<16)→acc.length+q.length=many→q.length<f→wI t Lc many f acc p=some (acc++q,p+(zd (vO Lc) q).length)
 |q,acc,0,p,hb,ok,hr,hm,hf=>by omega
 | [], acc, f + 1, p, hb, ok, hr, hm, hf => by
   simp at hm
   rw[wI,if_neg (by omega),if_neg (by omega)]
   simp [zd]
 | y :: q, acc, f + 1, p, hb, ok, hr, hm, hf => by
   have e:zd (vO Lc) (y::q)=vY (vO Lc) y.toNat++zd (vO Lc) q:=by unfold zd;rw[XW]
   rw[e]at hb ⊢
   obtain⟨h1,h2⟩:=hb.app
   have s:=bk.sym (ok y (by simp)) h1
   have yr:=hr y (by simp)
   have ty:((y.toNat:Nat):Int)=y:=by omega
   simp only[XO]at hm hf
   rw[wI,if_pos (by omega),s]
   simp only
   rw[ty]
   have ag:wR t y acc (p+(vY (vO Lc) y.toNat).length)=some (y,1,p+(vY (vO Lc) y.toNat).length):=by
    unfold wR
    rw[if_neg (by omega),if_neg (by omega),if_neg (by omega)]
   rw[ag]
   simp only
   have r:=C8 bk many q (acc++[y]) f _ h2 (fun z hz=>ok z (by simp [hz])) (fun z hz=>hr z (by simp [hz])) (by simp;omega) (by omega)
   have e1:List.replicate 1 y=[y]:=rfl
   rw[e1,r,vI,←vk,XV];rfl
def FZ (L:List Int):List Int→List Int→List Int
 |[],o=>o
 |s::r,o=>FZ L r (o.set s.toNat (L.getD s.toNat 0))
theorem Jn {t:ByteArray} {L:List Int} (hr:∀y∈L,0≤y∧y<8):∀(os:List Int) (p:Nat) (o:List Int),Bf t p (zJ (os.map fun s=>L.getD s.toNat 0))→(∀s∈os,s.toNat<L.length)→B4 t os p o=FZ L os o
 |[],p,o,hb,hs=>rfl
 | s :: os, p, o, hb, hs => by
   have e:zJ ((s::os).map fun s=>L.getD s.toNat 0)=wc (L.getD s.toNat 0).toNat 3++zJ (os.map fun s=>L.getD s.toNat 0):=by unfold zJ;rw[XX,XW]
   rw[e]at hb
   obtain⟨h1,h2⟩:=hb.app
   have hl:=hs s (by simp)
   have yr:0≤L.getD s.toNat 0∧L.getD s.toNat 0<8:=hr _ (by rw[XN,XQ hl];exact X4 hl)
   have v:=h1.put (by omega)
   have pl:(wc (L.getD s.toNat 0).toNat 3).length=3:=by unfold wc;exact wm _ _ _
   rw[pl]at h2
   rw[B4,FZ,v.1,Jn hr os _ _ h2 (fun z hz=>hs z (by simp [hz]))]
   congr 2;omega
theorem Jl (L:List Int):∀(os o:List Int),(FZ L os o).length=o.length
 |[],o=>rfl
 |s::os,o=>by rw[FZ,Jl L os,X6]
theorem Jk (L : List Int) : ∀ (os o : List Int) (j : Nat), j < o.length → (FZ L os o).getD j 0 = if (∃ s ∈ os, s.toNat = j) then L.getD j 0 else o.getD j 0
 |[],o,j,hj=>by simp [FZ]
 | s :: os, o, j, hj => by
   rw[FZ,Jk L os _ j (by rw[X6];exact hj)]
   by_cases c:∃s∈os,s.toNat=j
   · rw[if_pos c,if_pos (by obtain⟨u,hu,e⟩:=c;exact⟨u,by simp [hu],e⟩)]
   · rw[if_neg c]
     by_cases e:s.toNat=j
     · subst e
       rw[if_pos ⟨s,by simp,rfl⟩,XN,X8,if_pos rfl,if_pos hj];rfl
     · rw[getD_set_ne e,if_neg]
       rintro ⟨u,hu,e2⟩
       rcases vF.1 hu with q|q
       · subst q;exact e e2
       · exact c ⟨u,q,e2⟩
theorem Ml:∀j:Nat,j<19→∃i:Nat,i<19∧vQ[i]?=some (j:Int):=by
 intro j hj
 have:∀j:Nat,j<19→∃i:Nat,i<19∧vQ[i]?=some (j:Int):=by decide
 exact this j hj
theorem NF {L : List Int} (hl : L.length = 19) (h0 : ∀ y ∈ L, 0 ≤ y) : FZ L (vQ.take (wA (vQ.map fun s => L.getD s.toNat 0) 4 19)) (List.replicate 19 0) = L := by
 apply List.ext_getElem?
 intro j
 have fl:=Jl L (vQ.take (wA (vQ.map fun s=>L.getD s.toNat 0) 4 19)) (List.replicate 19 0)
 rw[X3]at fl
 by_cases hj:j<19
 · have g:=Jk L (vQ.take (wA (vQ.map fun s=>L.getD s.toNat 0) 4 19)) (List.replicate 19 0) j (by simpa using hj)
   rw[XQ (by omega),XQ (by omega)]
   rw[XN,XQ (by omega)]at g
   congr 1
   have g':(FZ L (vQ.take (wA (vQ.map fun s=>L.getD s.toNat 0) 4 19)) (List.replicate 19 0))[j]'(by omega)=_:=g
   rw[g']
   have e:L.getD j 0=L[j]'(by omega):=by rw[XN,XQ (by omega)];rfl
   split
   · exact e
   · rename_i c
     rw[BX hj]
     obtain⟨i,hi,oi⟩:=Ml j hj
     have hk:wA (vQ.map fun s=>L.getD s.toNat 0) 4 19≤i:=by
      apply Yc
      intro q
      refine c ⟨(j:Int), ?_,by omega⟩
      refine vq (i:=i) ?_
      rw[vH,if_pos (by omega),oi]
     have z:=Ah (vQ.map fun s=>L.getD s.toNat 0) 4 19 i hk hi
     have tj:((j:Nat):Int).toNat=j:=by omega
     rw[XN,vx,oi]at z
     simp only[XU,Option.getD_some,tj]at z
     have nn:=h0 _ (X4 (l:=L) (n:=j) (by omega))
     omega
 · rw[X5 (by omega),X5 (by omega)]
theorem OG {t : ByteArray} {ts : List Tok} {KA KB KC : Nat} {la lb Lc : List Int} (ok : Bh ts KA KB KC la lb Lc) (hb : Bf t 0 (wX ts la lb Lc)) (hm : wo 0 ts = true) {most : Int} (hl : ((yj ts []).length : Int) ≤ most) : A4 t most 3 [] = .ok ((wX ts la lb Lc).length, yj ts []) ∧ vP t 0 1 = 1 ∧ vP t 1 2 = 2 ∧ 3 ≤ 8 * t.size := by
 obtain⟨H4,hn,tok,ra,rb,ea,eb,hall,rc,ec,hrow,ca,cb,cc,Au,MK,D8⟩:=ok
 obtain⟨a1,a2,a3⟩:=KU ts hn
 obtain⟨b1,b2⟩:=KV ts hn
 obtain⟨x1,x2,x3,x4,x5⟩:=ET (m:=0) a2 (by omega) (by omega) (by omega) (by omega) ra ea
 obtain⟨y1,y2,y3,y4,y5⟩:=ET (m:=0) b2 (by omega) (by omega) (by omega) (by omega) rb eb
 obtain⟨bkA,chA,_⟩:=Dm.Ny a2 (by omega) (by omega) (by omega) (by omega) ra ea
 obtain⟨bkB,chB,zB⟩:=Dm.Ny b2 (by omega) (by omega) (by omega) (by omega) rb eb
 have c1:(xU (la++lb) (List.replicate 19 0)).length=19:=by rw[Br,X3]
 have c2:∀y∈xU (la++lb) (List.replicate 19 0),0≤y∧y≤2147483647:=fun y hy=>by
  have:=Bs (la++lb) _ 0 (by omega) (Bd 19) y hy
  rw[vI]at this
  omega
 obtain⟨f1,f2,f3,f4,f5⟩:=zT c2 (by omega) (by omega) (by omega) rc
 rw[←ec]at f1 f2 f3 f4 f5
 have lLc:Lc.length=19:=by omega
 have hit:=EI (la++lb) (List.replicate 19 0) (fun y hy=>(Bd 19 y hy).1) (by rw[X3])
 have exC:∃y∈xU (la++lb) (List.replicate 19 0),0<y:=by
  obtain⟨z,hz⟩:=List.exists_mem_of_ne_nil (la++lb) (fun q=>by
   have:=Yh List.length q
   rw[vI,XR]at this
   omega)
  have h:=hit z hz (hall z hz)
  refine⟨_, ?_,show 0<(xU (la++lb) (List.replicate 19 0)).getD z.toNat 0 by omega⟩
  have zl:z.toNat<(xU (la++lb) (List.replicate 19 0)).length:=by have:=hall z hz;omega
  rw[XN,XQ zl]
  exact X4 zl
 have l0:=f4 exC
 have r16:∀y∈Lc,0≤y∧y<16:=fun y hy=>by have:=f2 y hy;omega
 have bkC:Dm Lc:=⟨by omega,r16⟩
 have chC:we Lc=0:=by rw[yF (by omega) (by omega) r16 (by omega),if_pos l0]
 have exA:∃y∈dA ts,0<y:=by
  have zl:256<(dA ts).length:=by omega
  refine⟨(dA ts).getD 256 0, ?_,by omega⟩
  rw[XN,XQ zl]
  exact X4 zl
 have chA':=chA exA
 have chB':¬(we lb≠0∧xL lb=false):=by
  rintro ⟨q1,q2⟩
  by_cases c:∃y∈dB ts,0<y
  · exact q1 (chB c)
  · have:=DP lb 0 (zB fun y hy q=>c ⟨y,hy,q⟩)
    unfold xL at q2
    rw[this]at q2
    simp at q2
 obtain⟨R,hR⟩:∃R,R=vQ.map (fun o=>Lc.getD o.toNat 0):=⟨_,rfl⟩
 obtain⟨k,hk⟩:∃k,k=wA R 4 19:=⟨_,rfl⟩
 have uk:=xB R 4 19
 rw[←hk]at uk
 have eD:wX ts la lb Lc=wc 5 3++(wc (la.length-257) 5++(wc (lb.length-1) 5++(wc (k-4) 4++(zJ (R.take k)++(zd (vO Lc) (la++lb)++(w9 (vO la) (vO lb) ts++vY (vO la) 256)))))):=by rw[hk,hR];rfl
 rw[eD]at hb ⊢
 have pl:∀v n,(wc v n).length=n:=fun v n=>by unfold wc;exact wm v n 0
 obtain⟨h1,g1⟩:=hb.app
 rw[pl]at g1
 obtain⟨h2,g2⟩:=g1.app
 rw[pl]at g2
 obtain⟨h3,g3⟩:=g2.app
 rw[pl]at g3
 obtain⟨h4,g4⟩:=g3.app
 rw[pl]at g4
 obtain⟨h5,g5⟩:=g4.app
 obtain⟨h6,g6⟩:=g5.app
 have v2:=h2.put (by omega)
 have v3:=h3.put (by omega)
 have v4:=h4.put (by omega)
 have rl:(zJ (R.take k)).length=3* k:=by rw[BL,Yb,hR,Yu];show 3* min k 19=_;omega
 rw[rl]at g5 g6 h6
 have rb5:zJ (R.take k)=zJ ((vQ.take k).map fun s=>Lc.getD s.toNat 0):=by rw[hR,List.map_take]
 have h5':=h5
 rw[rb5]at h5'
 have own:=Jn hrow (vQ.take k) _ (List.replicate 19 0) h5' (fun s hs=>by have:=AO s (Yt hs);omega)
 have back:=NF lLc (fun y hy=>(hrow y hy).1)
 rw[←hR,←hk]at back
 rw[back]at own
 have okr:∀y∈la++lb,0≤y∧y<16:=fun y hy=>by
  rcases Ya.1 hy with q|q
  · exact x2 y q
  · exact y2 y q
 have h5l:=h5.1
 rw[rl]at h5l
 have h6l:=h6.1
 have g6l:=g6.1
 have ll:(la++lb).length=la.length+lb.length:=vI
 have all:=C8 bkC (la.length+lb.length) (la++lb) [] (8* t.size+1) _ h6 Au okr (by simp) (by
  have:∀D:List Int,(∀y∈D,B9 (vO Lc) y.toNat)→D.length≤(zd (vO Lc) D).length:=by
   intro D
   induction D with
   |nil=>intro _;simp
   | cons y D ih =>
     intro h
     have:=ih fun z hz=>h z (by simp [hz])
     obtain⟨n,v,_,q1,q2,q3,q4⟩:=(h y (by simp)).bits
     unfold zd at *
     rw[XW,vI,q4,xc,XO];omega
  have:=this _ Au
  omega)
 have cod:=Cg bkA bkB D8 ts (8* t.size+1) _ [] g6 MK hm hl (by
  have:∀T:List Tok,(∀x∈T,HF (vO la) (vO lb) x)→T.length≤(w9 (vO la) (vO lb) T).length:=by
   intro T
   induction T with
   |nil=>intro _;simp
   | cons x T ih =>
     intro h
     have:=ih fun z hz=>h z (by simp [hz])
     have o:=h x (by simp)
     have one:1≤(wH (vO la) (vO lb) x).length:=by
      rcases o with ⟨h1,h2,h3⟩|⟨h1,h2,h3,h4,h5,h6⟩
      · obtain⟨n,v,_,q1,q2,q3,q4⟩:=h3.bits
        rw[wH,if_pos h1,q4,xc];omega
      · obtain⟨n,v,_,q1,q2,q3,q4⟩:=h5.bits
        rw[wH,if_neg (by omega),q4,vI,xc];omega
     unfold w9 at *
     rw[XW,vI,XO];omega
  have:=this _ MK
  rw[vI]at g6l
  omega)
 have v1:=h1.put (by omega)
 simp only[vr,Nat.reduceAdd,Yr]at v1 v2 v3 v4 own all cod h5l
 have n1:vP t 3 5+257=la.length:=by rw[v2.1];omega
 have n2:vP t 8 5+1=lb.length:=by rw[v3.1];omega
 have n3:vP t 13 4+4=k:=by rw[v4.1];omega
 have lens:yq t (la.length+lb.length) 13=some (la++lb,17+3* k+(zd (vO Lc) (la++lb)).length):=by
  unfold yq
  simp only[Nat.reduceAdd,n3]
  rw[if_pos (by omega),if_pos (by omega),own,if_pos chC,all]
 have tk:(la++lb).take la.length=la:=List.take_left' rfl
 have dr:(la++lb).drop la.length=lb:=List.drop_left' rfl
 have g256:la.getD 256 0≠0:=by have:=(HD D8).2;omega
 refine⟨?_, ?_, ?_,by omega⟩
 · unfold A4
   simp only[Nat.reduceAdd,n1,n2]
   rw[if_pos (by omega),if_neg (by omega),lens]
   simp only[tk,dr]
   rw[if_neg (by rintro (q|q|q);exact q chA';exact g256 q;exact chB' q),cod]
   simp only[vI,pl,rl,Except.ok.injEq,vg,and_true]
   omega
 · have b0:=h1.2 0 (by rw[pl];omega)
   have e0:(wc 5 3).getD 0 0=1:=by decide
   rw[e0]at b0
   simp [vP,b0]
 · have b1:=h1.2 1 (by rw[pl];omega)
   have b2:=h1.2 2 (by rw[pl];omega)
   have e1:(wc 5 3).getD 1 0=0:=by decide
   have e2:(wc 5 3).getD 2 0=1:=by decide
   rw[e1]at b1
   rw[e2]at b2
   simp only[vr]at b1 b2
   simp [vP,b1,b2]
theorem I4 {s:ByteArray} (hs:s.size≤300) {KA KB KC:Nat} {la lb Lc:List Int} (ok:Bh (tokens s) KA KB KC la lb Lc) {most:Int} (hm1:(s.size:Int)≤most) (hm2:most≤8192):wT (bytesOf (wD (wX (tokens s) la lb Lc))) most=.ok (preB s s.size,(bytesOf (wD (wX (tokens s) la lb Lc))).size):=by
 obtain⟨t1,t2,t3,t4⟩:=AY s hs s.size 0 (by omega) (by omega)
 have t3':wo 0 (tokens s)=true:=t3
 have t4':yj (tokens s) []=preB s s.size:=t4
 have hb:=F9 (wX (tokens s) la lb Lc) (OH _ _ _ _)
 obtain⟨d,v1,v2,sz⟩:=OG ok hb t3' (most:=most) (by rw[t4',yH];omega)
 rw[t4']at d
 have psz:(bytesOf (wD (wX (tokens s) la lb Lc))).size=((wX (tokens s) la lb Lc).length+7)/8:=by rw[xf,yT]
 generalize bytesOf (wD (wX (tokens s) la lb Lc))=T at *
 unfold wT
 rw[if_neg (by omega)]
 have bl:xC T most 0 []=.ok (true,(wX (tokens s) la lb Lc).length,preB s s.size):=by
  unfold xC
  simp only[vr]
  rw[if_pos sz,v2]
  simp only[Nat.reduceEqDiff,vJ,if_true,reduceIte]
  rw[d]
  simp [v1]
 rw[wY,bl]
 simp only[if_true,psz]
theorem Kx (s:ByteArray):bytesOf (preB s s.size)=s:=by
 have:preB s s.size=Se s:=by
  apply List.ext_getElem?
  intro i
  by_cases h:i<s.size
  · have g:=Gb (Se s) (Sf s) i
    rw[DV]at g
    have l1:=Lw s
    rw[XQ (by rw[yH];exact h),XQ (by omega)]
    congr 1
    have a:=Ju s h
    rw[XN,XQ (by rw[yH];exact h)]at a
    rw[XN,XQ (by omega)]at g
    exact a.trans g
  · rw[X5 (by rw[yH];omega),X5 (by rw[Lw];omega)]
 rw[this,DV]
end Ab
