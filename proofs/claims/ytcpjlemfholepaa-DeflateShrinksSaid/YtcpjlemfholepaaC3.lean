/- Part C3. -/
import Derived.Test.YtcpjlemfholepaaC2
set_option linter.unusedSimpArgs false
set_option linter.unusedVariables false
set_option maxRecDepth 100000
namespace Ab
open Go
theorem Al {out:List Nat} {t:Tok} {s':Int} (h:wq out.length t=some s'):((vS out t).length:Int)=s':=by
 unfold wq at h
 unfold vS
 by_cases c:t.len=0
 · rw[if_pos c]at h ⊢
   split at h
   · cases h
   · have:=uC h;simp;omega
 · rw[if_neg c]at h ⊢
   split at h
   · cases h
   · have:=uC h;rw[Co];omega
theorem Ia : ∀ (ts : List Tok) (out : List Nat), vL out.length ts = true → out.length ≤ 8192 → (xC ts out).length ≤ 8192
 |[],_,_,h=>h
 | t :: r, out, hm, _ => by
   unfold vL at hm
   cases e:wq out.length t with
   |none=>rw[e]at hm;cases hm
   | some s' =>
     rw[e]at hm
     have l:=Al e
     by_cases c:8192<s'
     · simp only[if_pos c]at hm;cases hm
     · simp only[if_neg c]at hm
       rw[←l]at hm
       exact Ia r (vS out t) hm (by omega)
theorem Ht {ts:List Tok} {t:ByteArray} (h:yC ts=some t):t.size≤8192:=by
 unfold yC at h
 split at h
 · rename_i c
   rw[←uC h,vW]
   exact Ia ts [] c (by simp)
 · cases h
theorem FA {hb : H} {x : Nat} {v : AV} {ts : List Tok} (hn : ts.length < 1000000) (rd : yI 3 hb v ts.length (wv ts)) : ∀ (q p : List Tok) (out : List Nat) (h : H) (ov : AV), ts = p ++ q → Tx hb h x ov out → out.length ≤ 8192 →
 (vL out.length q=true→∃h' ov' e',Lp AP.A [5,10,11,12] AP.f343L0 [(5,.fn 353 [.aC x 0] []),(10,v),(11,.int .i64 ts.length),(12,.int .i64 p.length)] h=some (.exit 0,e',h')∧Tx hb h' x ov' (xC q out)∧(xC q out).length≤8192)∧
 (vL out.length q=false→∃h',Lp AP.A [5,10,11,12] AP.f343L0 [(5,.fn 353 [.aC x 0] []),(10,v),(11,.int .i64 ts.length),(12,.int .i64 p.length)] h=some (.ret,[(4,.bool false)],h'))
 | [], p, out, h, ov, hp, t, hl => by
   rw[Sw]at hp;subst hp
   refine⟨fun _=>⟨h,ov,[(5,.fn 353 [.aC x 0] []),(10,v),(11,.int .i64 ts.length),(12,.int .i64 ts.length),(13,.bool false)],s6 ?_,t,hl⟩,fun q=>by cases q⟩
   simp (disch:=omega)only[go_sem,vD,AP.f343L0]
 | k :: q, p, out, h, ov, hp, t, hl => by
   have hlen:ts.length=p.length+(q.length+1):=by rw[hp];simp
   have hk:ts[p.length]?=some k:=by rw[hp];simp
   obtain⟨ad,a1,a2,a3⟩:=rd.O7
   have b1:=a1 p.length ⟨by omega,by omega⟩
   obtain⟨_,_,_,b2⟩:=a3 h t.ext _ _ hk
   have c1:((p.length:Nat):Int)<ts.length:=by omega
   obtain⟨g,eg⟩:∃g,g=(h.alloc [.int .i64 0,.int .i64 0,.int .i64 0]).set h.next [.int .i64 k.lit,.int .i64 k.len,.int .i64 k.vU]:=⟨_,rfl⟩
   have gg:g.get h.next=some [.int .i64 k.lit,.int .i64 k.len,.int .i64 k.vU]:=by rw[eg,vA rfl,vx rfl];rfl
   have gn:g.next=h.next+1:=by rw[eg];simp
   have gk:∀i,i<h.next→g.get i=h.get i:=fun i hi=>by rw[eg,vi (by omega),vu (by omega)]
   have fl1:h.floor≤h.next:=t.JH
   have lx:=h.lt _ _ t.gx
   have tg:Tx hb g x ov out:=⟨fun i c hi=>by
    have e:=t.ext i c hi
    have:=h.lt _ _ e
    rw[gk i this,e],by rw[eg];simpa using t.fl,by rw[gn,eg];simp;omega,by rw[gk x lx,t.gx],t.lx,t.own.mono (by rw[eg];simp) fun i hi=>gk i (t.own.lt hi).2,t.nx,t.H0⟩
   obtain⟨h1,ov1,k1,t1,_⟩:=OX tg k hl
   have k1':ke (aQ AP.A) [.agg [.int .i64 k.lit,.int .i64 k.len,.int .i64 k.vU]] g (.fn 353 [.aC x 0] [])=some (.bool (HQ out k).isSome,h1):=k1
   cases hs:HQ out k with
   | none =>
     have hm:vL out.length (k::q)=false:=by
      unfold HQ at hs
      rw[vL]
      cases e:wq out.length k with
      |none=>rfl
      | some s' =>
        rw[e]at hs
        simp only at hs ⊢
        by_cases c:8192<s'
        · rw[if_pos c]
        · rw[if_neg c]at hs;cases hs
     refine⟨fun q=>(by rw[hm]at q;cases q),fun _=>⟨h1,tG ?_⟩⟩
     rw[hs]at k1'
     have k2:aQ AP.A 353 ([.aC x 0]++[.agg [.int .i64 k.lit,.int .i64 k.len,.int .i64 k.vU]]++[]) g=some (.bool false,h1):=k1'
     simp only[List.cons_append,List.nil_append,Sw]at k2
     clear t tg t1 a1 a2 a3 rd
     simp (disch:=omega)only[go_sem,vD,AP.f343L0,c1,b1,b2,←eg,gg,k2,Lr,uT,SZ,Sy]
   | some o' =>
     rw[hs]at t1 k1'
     simp only[Option.getD_some]at t1
     have key:∃s',wq out.length k=some s'∧¬8192<s'∧o'=vS out k:=by
      unfold HQ at hs
      cases e:wq out.length k with
      |none=>rw[e]at hs;cases hs
      | some s' =>
        rw[e]at hs
        simp only at hs
        by_cases c:8192<s'
        · rw[if_pos c]at hs;cases hs
        · rw[if_neg c]at hs
          exact⟨s',rfl,c,(uC hs).symm⟩
     obtain⟨s',e1,e2,e3⟩:=key
     have el:=Al e1
     rw[←e3]at el
     have hm:vL out.length (k::q)=vL o'.length q:=by
      rw[vL,e1]
      simp only[if_neg e2,el]
     have ee:xC (k::q) out=xC q o':=by rw[xC,e3]
     rw[hm,ee]
     have k2:aQ AP.A 353 ([.aC x 0]++[.agg [.int .i64 k.lit,.int .i64 k.len,.int .i64 k.vU]]++[]) g=some (.bool true,h1):=k1'
     simp only[List.cons_append,List.nil_append,Sw]at k2
     obtain⟨r1,r2⟩:=FA hn rd q (p++[k]) o' h1 ov1 (by rw[hp];simp) t1 (by omega)
     have w1:((p++[k]).length:Int)=(p.length:Int)+1:=by simp
     rw[w1]at r1 r2
     have st:aK (aQ AP.A) bq AP.f343L0 (ax [(5,.fn 353 [.aC x 0] []),(10,v),(11,.int .i64 ts.length),(12,.int .i64 p.length)] [5,10,11,12]) h=some (.normal,[(5,.fn 353 [.aC x 0] []),(10,v),(11,.int .i64 ts.length),(12,.int .i64 ((p.length:Int)+1))],h1):=by
      clear t tg t1 a1 a2 a3 rd r1 r2
      simp (disch:=omega)only[go_sem,vD,AP.f343L0,c1,b1,b2,←eg,gg,k2,Lr,uT,SZ,Sy]
     refine⟨fun z=> ?_,fun z=> ?_⟩
     · obtain⟨h',ov',e',L,q1,q2⟩:=r1 z
       exact⟨h',ov',e',s7 st L,q1,q2⟩
     · obtain⟨h',L⟩:=r2 z
       exact⟨h',s7 st L⟩
theorem Jr (h:H) (v:AV) (ts:List Tok) (hn:ts.length<1000000) (rd:yI 3 h v ts.length (wv ts)):aQ AP.A 328 [v] h=some (NK (yC ts),h):=by
 have yZ:yI 3 h.dI v ts.length (wv ts):=rd.mono fun i c q=>q
 have ln:=rd.len
 obtain⟨g,eg⟩:∃g,g=h.dI.alloc [.aO]:=⟨_,rfl⟩
 have gx:g.get h.next=some [.aO]:=by rw[eg,vx (by simp)]
 have t0:Tx h.dI g h.next .aO []:=⟨by rw[eg];exact(Ext.refl _).alloc _,by rw[eg];simp,by rw[eg];simp,gx,by simp,wm.nil,by simp [AV.id?],fun y hy=>by simp at hy⟩
 obtain⟨r1,r2⟩:=FA hn yZ ts [] [] g .aO rfl t0 (by simp)
 have hN:h.dI.next=h.next:=rfl
 unfold yC
 by_cases hm:vL 0 ts=true
 · rw[if_pos hm]
   obtain⟨h',ov',e',L,t1,_⟩:=r1 hm
   have L':Lp AP.A [5,10,11,12] AP.f343L0 [(5,.fn 353 [.aC h.next 0] []),(10,v),(11,.int .i64 ts.length),(12,.int .i64 0)] g=some (.exit 0,e',h'):=L
   have k:aQ AP.A 343 [.aC h.next 0,v] g=some (.bool true,h'):=by
    refine tz (fn:=AP.f343) (e:=[(4,.bool true)]) (vs:=[.bool true]) rfl rfl rfl ?_ rfl
    clear t1 t0 rd yZ r1 r2
    simp (disch:=omega)only[go_sem,vD,AP.f343,ln,rU,L']
   have b:=FD t1.own
   have g1:=t1.gx
   refine tQ (fn:=AP.f328) (h2:=h') (e:=[(2,.str (bytesOf (xC ts []))),(3,.int .i64 0)]) (vs:=[.str (bytesOf (xC ts [])),.int .i64 0]) rfl rfl rfl ?_ rfl rfl
   clear t1 t0 rd yZ r1 r2 L L'
   generalize bytesOf (xC ts [])=B at *
   simp (disch:=omega)only[go_sem,vD,AP.f328,←eg,hN,k,g1,b]
 · rw[if_neg hm]
   obtain⟨h',L⟩:=r2 (Bool.eq_false_iff.2 hm)
   have L':Lp AP.A [5,10,11,12] AP.f343L0 [(5,.fn 353 [.aC h.next 0] []),(10,v),(11,.int .i64 ts.length),(12,.int .i64 0)] g=some (.ret,[(4,.bool false)],h'):=L
   have k:aQ AP.A 343 [.aC h.next 0,v] g=some (.bool false,h'):=by
    refine tz (fn:=AP.f343) (e:=[(4,.bool false)]) (vs:=[.bool false]) rfl rfl rfl ?_ rfl
    clear t0 rd yZ r1 r2
    simp (disch:=omega)only[go_sem,vD,AP.f343,ln,rU,L']
   refine tQ (fn:=AP.f328) (h2:=h') (e:=[(2,.str ⟨#[]⟩),(3,.int .i64 500)]) (vs:=[.str ⟨#[]⟩,.int .i64 500]) rfl rfl rfl ?_ rfl rfl
   clear t0 rd yZ r1 r2 L L'
   simp (disch:=omega)only[go_sem,vD,AP.f328,←eg,hN,k]
theorem KI (h:H) (v:AV) (ts:List Tok) (hn:ts.length<1000000) (rd:yI 3 h v ts.length (wv ts)):aQ AP.A 337 [v] h=some (.bool (DP ts),h):=by
 have k:=Jr h.dI v ts hn (rd.mono fun i c q=>q)
 unfold DP
 cases he:yC ts with
 | none =>
   rw[he]at k
   simp only[NK]at k
   refine tQ (fn:=AP.f337) (h2:=h.dI) (e:=[(2,.bool false)]) (vs:=[.bool false]) rfl rfl rfl ?_ rfl rfl
   have cb:((500:Int)==0)=false:=by decide
   clear rd
   simp (disch:=omega)only[go_sem,vD,AP.f337,k,cb]
 | some t =>
   rw[he]at k
   have:=Ht he
   simp only[NK]at k
   refine tQ (fn:=AP.f337) (h2:=h.dI) (e:=[(2,.bool (decide (t.size≤300)))]) (vs:=[.bool (decide (t.size≤300))]) rfl rfl rfl ?_ rfl rfl
   have cb:((0:Int)==0)=true:=by decide
   clear rd
   by_cases c:t.size≤300
   · have c':(t.size:Int)≤300:=by omega
     simp (disch:=omega)only[go_sem,vD,AP.f337,k,Si c,c',cb]
   · have c':¬(t.size:Int)≤300:=by omega
     simp (disch:=omega)only[go_sem,vD,AP.f337,k,Sf c,c',cb]
theorem Ek (s : ByteArray) (i d : Nat) (hs : s.size < 100000) (hd : d ≤ i) (hi : i ≤ s.size) (h : H) : ∀ (f k : Nat), k + f = 258 →
 ∃e',Lp AP.A [0,1,2,7] AP.f354L0 [(0,.str s),(1,.int .i64 i),(2,.int .i64 d),(7,.int .i64 k)] h=some (.exit 0,e',h)∧look e' 7=.int .i64 (xL s i (i-d) f k:Nat)
 | 0, k, hk => by
   obtain rfl:k=258:=by omega
   refine⟨[(0,.str s),(1,.int .i64 i),(2,.int .i64 d),(7,.int .i64 258),(32,.bool false)],s6 ?_,rfl⟩
   have c:¬((258:Nat):Int)<258:=by omega
   simp (disch:=omega)only[go_sem,vD,AP.f354L0,c]
 | f + 1, k, hk => by
   have n1:((k:Int)+1)=((k+1:Nat):Int):=by omega
   have c0:(k:Int)<258:=by omega
   by_cases c1:i+k<s.size
   · have c1':(i:Int)+(k:Int)<s.size:=by omega
     have x1:lV (.str s) (.int .i64 ((i:Int)+(k:Int)))=some (.int .u8 (xi s (i+k):Nat)):=by
      have:=zS (s:=s) (i:=(i:Int)+(k:Int)) ⟨by omega,by omega⟩
      rw[show((i:Int)+(k:Int)).toNat=i+k by omega]at this;exact this
     have x2:lV (.str s) (.int .i64 ((i:Int)+(k:Int)-(d:Int)))=some (.int .u8 (xi s (i-d+k):Nat)):=by
      have:=zS (s:=s) (i:=(i:Int)+(k:Int)-(d:Int)) ⟨by omega,by omega⟩
      rw[show((i:Int)+(k:Int)-(d:Int)).toNat=i-d+k by omega]at this;exact this
     by_cases c2:xi s (i+k)=xi s (i-d+k)
     · obtain⟨e',r1,r2⟩:=Ek s i d hs hd hi h f (k+1) (by omega)
       refine⟨e',s7 ?_ r1, ?_⟩
       · rw[←n1]
         have cb:((xi s (i+k):Int)==(xi s (i-d+k):Int))=true:=by simp [c2]
         simp (disch:=omega)only[go_sem,vD,AP.f354L0,c0,c1',x1,x2,cb]
       · rw[r2,xL,if_pos ⟨by omega,c1,c2⟩]
     · refine⟨[(0,.str s),(1,.int .i64 i),(2,.int .i64 d),(7,.int .i64 k),(32,.bool false)],s6 ?_, ?_⟩
       · have cb:((xi s (i+k):Int)==(xi s (i-d+k):Int))=false:=by simp;omega
         simp (disch:=omega)only[go_sem,vD,AP.f354L0,c0,c1',x1,x2,cb]
       · rw[xL,if_neg (fun q=>c2 q.2.2)];rfl
   · refine⟨[(0,.str s),(1,.int .i64 i),(2,.int .i64 d),(7,.int .i64 k),(32,.bool false)],s6 ?_, ?_⟩
     · have c1':¬(i:Int)+(k:Int)<s.size:=by omega
       simp (disch:=omega)only[go_sem,vD,AP.f354L0,c0,c1']
     · rw[xL,if_neg (fun q=>c1 q.2.1)];rfl
theorem OP (h:H) (s:ByteArray) (i d:Nat) (hs:s.size<100000) (hd:d≤i) (hi:i≤s.size):aQ AP.A 354 [.str s,.int .i64 i,.int .i64 d] h=some (.int .i64 (same s i (i-d):Nat),h):=by
 obtain⟨e',r1,r2⟩:=Ek s i d hs hd hi h.dI 258 0 rfl
 have r1':Lp AP.A [0,1,2,7] AP.f354L0 [(0,.str s),(1,.int .i64 i),(2,.int .i64 d),(7,.int .i64 0)] h.dI=some (.exit 0,e',h.dI):=r1
 clear r1
 refine tQ (fn:=AP.f354) (h2:=h.dI) (e:=[(6,.int .i64 (same s i (i-d):Nat))]) (vs:=[.int .i64 (same s i (i-d):Nat)]) rfl rfl rfl ?_ rfl rfl
 simp (disch:=omega)only[go_sem,vD,AP.f354,rU,r1',r2,same]
def Em (b:Nat×Nat):Nat×Nat:=if b.1<3 then(0,0)else b
theorem Ks (b:Nat×Nat) (m d:Nat):Em (if b.1<m then(m,d)else b)=if 3≤m∧(Em b).1<m then(m,d)else Em b:=by
 unfold Em
 by_cases c:b.1<3
 · rw[if_pos c]
   by_cases q:b.1<m
   · rw[if_pos q]
     by_cases z:m<3
     · rw[if_pos z,if_neg (by omega)]
     · rw[if_neg z,if_pos ⟨by omega,by show 0<m;omega⟩]
   · rw[if_neg q,if_pos c,if_neg (by omega)]
 · rw[if_neg c]
   by_cases q:b.1<m
   · rw[if_pos q,if_neg (by show¬m<3;omega),if_pos ⟨by omega,q⟩]
   · rw[if_neg q,if_neg c,if_neg (fun z=>q z.2)]
theorem Aw (s : ByteArray) (i : Nat) (hs : s.size < 32000) (hi : i < s.size) (v4 : AV) (c5 : Nat) : ∀ (n : Nat) (b : Nat × Nat) (d : Int) (h : H), n ≤ i → d = (i : Int) - n + 1 → h.get c5 = some [.int .i64 0, .int .i64 (Em b).1, .int .i64 (Em b).2] → h.floor ≤ c5 →
 ∃e' h',Lp AP.A [0,1,4,5,6] AP.f344L0 [(0,.str s),(1,.int .i64 i),(4,v4),(5,.aC c5 0),(6,.int .i64 d)] h=some (.exit 0,e',h')∧look e' 4=v4∧look e' 5=.aC c5 0∧h'.get c5=some [.int .i64 0,.int .i64 (Em (vR s i n b)).1,.int .i64 (Em (vR s i n b)).2]∧(∀j,j≠c5→h'.get j=h.get j)∧h'.next=h.next∧h'.floor=h.floor
 | 0, b, d, h, hn, hd, hg, hf => by
   refine⟨[(0,.str s),(1,.int .i64 i),(4,v4),(5,.aC c5 0),(6,.int .i64 d),(11,.bool false)],h,s6 ?_,rfl,rfl,hg,fun _ _=>rfl,rfl,rfl⟩
   have m:E5 (i:Int) 32768=i:=by unfold E5;rw[if_neg (by omega)]
   have c:¬d≤(i:Int):=by omega
   simp (disch:=omega)only[go_sem,vD,AP.f344L0,zJ,y6,m,c]
 | n + 1, b, d, h, hn, hd, hg, hf => by
   have m:E5 (i:Int) 32768=i:=by unfold E5;rw[if_neg (by omega)]
   have c:d≤(i:Int):=by omega
   obtain⟨D,rfl⟩:∃D:Nat,d=D:=Sk (by omega)
   have k1:=fun g=>OP g s i D (by omega) (by omega) (by omega)
   have eD:i-D=n:=by omega
   rw[eD]at k1
   have k2:=IB s i n
   have st:=Ks b (same s i n) (i-n)
   have iD:i-n=D:=by omega
   rw[vR]
   by_cases q:3≤same s i n∧(Em b).1<same s i n
   · rw[if_pos q,iD]at st
     rw[iD]
     obtain⟨e',h',L,r1,r2,r3,r4,r5,r6⟩:=Aw s i hs hi v4 c5 n (if b.1<same s i n then(same s i n,D)else b) ((D:Int)+1) (h.set c5 [.int .i64 0,.int .i64 (same s i n:Nat),.int .i64 D]) (by omega) (by omega) (by rw[vA rfl,hg,st];rfl) (by simpa using hf)
     refine⟨e',h',s7 ?_ L,r1,r2,r3,fun j hj=>by rw[r4 j hj,vi hj],by rw[r5];simp,by rw[r6];simp⟩
     have q1:(3:Int)≤(same s i n:Nat):=by omega
     have q2:((Em b).1:Int)<(same s i n:Nat):=by omega
     clear L r3 r4 st
     generalize same s i n=M at *
     generalize (Em b).1=B1 at *
     generalize (Em b).2=B2 at *
     simp (disch:=omega)only[go_sem,vD,AP.f344L0,zJ,y6,m,c,k1,q1,q2,hg]
   · rw[if_neg q]at st
     obtain⟨e',h',L,r1,r2,r3,r4,r5,r6⟩:=Aw s i hs hi v4 c5 n (if b.1<same s i n then(same s i n,i-n)else b) ((D:Int)+1) h (by omega) (by omega) (by rw[st];exact hg) hf
     refine⟨e',h',s7 ?_ L,r1,r2,r3,r4,r5,r6⟩
     clear L r3 r4 st
     generalize same s i n=M at *
     generalize (Em b).1=B1 at *
     generalize (Em b).2=B2 at *
     by_cases q1:(3:Int)≤(M:Nat)
     · have q2:¬(B1:Int)<(M:Nat):=by omega
       simp (disch:=omega)only[go_sem,vD,AP.f344L0,zJ,y6,m,c,k1,q1,q2,hg]
     · simp (disch:=omega)only[go_sem,vD,AP.f344L0,zJ,y6,m,c,k1,q1]
theorem L8 (h:H) (s:ByteArray) (i:Nat) (hs:s.size<32000) (hi:i<s.size):aQ AP.A 344 [.str s,.int .i64 i] h=some (.agg [.int .i64 0,.int .i64 (Em (vR s i i (0,0))).1,.int .i64 (Em (vR s i i (0,0))).2],h):=by
 obtain⟨g,eg⟩:∃g,g=(h.dI.alloc [.int .i64 0,.int .i64 0,.int .i64 0]).alloc [.int .i64 0,.int .i64 0,.int .i64 0]:=⟨_,rfl⟩
 obtain⟨e',h',L,r1,r2,r3,r4,r5,r6⟩:=Aw s i hs hi (.aC h.next 0) (h.next+1) i (0,0) 1 g (uM _) (by omega) (by rw[eg,vx (by simp)];try rfl) (by rw[eg];simp;try omega)
 have g4:h'.get h.next=some [.int .i64 0,.int .i64 0,.int .i64 0]:=by rw[r4 _ (by omega),eg,vu (by simp),vx (by simp)]
 have f1:h'.floor=h.next:=by rw[r6,eg];simp
 generalize (Em (vR s i i (0,0))).1=B1 at *
 generalize (Em (vR s i i (0,0))).2=B2 at *
 have g5:(h'.set h.next [.int .i64 0,.int .i64 B1,.int .i64 B2]).get h.next=some [.int .i64 0,.int .i64 B1,.int .i64 B2]:=by rw[vA rfl,g4];rfl
 refine tQ (fn:=AP.f344) (h2:=h'.set h.next [.int .i64 0,.int .i64 B1,.int .i64 B2]) (e:=[(4,.aC h.next 0)]) (vs:=[.agg [.int .i64 0,.int .i64 B1,.int .i64 B2]]) rfl rfl rfl ?_ ?_ rfl
 · have hN:h.dI.next=h.next:=rfl
   have hN2:(h.dI.alloc [.int .i64 0,.int .i64 0,.int .i64 0]).next=h.next+1:=by simp
   clear r4
   simp (disch:=omega)only[go_sem,vD,AP.f344,hN,hN2,←eg,rU,L,r1,r2,r3,g4,f1,Lr,uT,SZ,Sy]
 · simp (disch:=omega)only[go_sem,vD,AP.f344,cq,m0,g5,Lr,uT,SZ,Sy]
   rfl
theorem Iy (h:H) (l:List Int):Rd h (zq (ints l)) (ints l):=by
 unfold zq
 by_cases c:ints l=[]
 · rw[if_pos c,c];exact⟨rfl,by intro s e;cases e⟩
 · rw[if_neg c]
   refine⟨by simp [aR,u4],by intro s e;cases e⟩
theorem I4 (p:List Int) (x:Int) {n:Nat} (hn:1≤n):wR (p++[x]) n=wR p n+if x=(n:Int)then 1 else 0:=by
 rw[zw]
 congr 1
 by_cases c:x=(n:Int)
 · rw[if_pos ⟨by omega,c⟩,if_pos c]
 · rw[if_neg (fun q=>c q.2),if_neg c]
theorem CS {l : List Int} (hl : l.length < 1000) (T : List AV) (v25 : AV) (id n : Nat) (hn1 : 1 ≤ n) (hn : n ≤ 15) (hT : T[n]? = some (.int .i64 (vt l n))) : ∀ (q p : List Int) (h : H), l = p ++ q → h.floor ≤ id → h.get id = some ((wJ l n p.length).flatMap wO) →
 ∃h',Lp AP.A [4,6,7,25,26,30,31,32] AP.f338L0 [(4,.aJ T 0),(6,.aD id 0 l.length 2),(7,.int .i64 n),(25,v25),(26,.int .i64 n),(30,zq (ints (syms l n))),(31,.int .i64 (wR l n)),(32,.int .i64 (wR p n))] h=some (.exit 2,[(4,.aJ T 0),(6,.aD id 0 l.length 2),(7,.int .i64 n),(25,v25),(26,.int .i64 n),(30,zq (ints (syms l n))),(31,.int .i64 (wR l n)),(32,.int .i64 (wR l n)),(33,.bool false)],h')∧h'.floor=h.floor∧h'.get id=some ((wJ l n l.length).flatMap wO)
 | [], p, h, hp, hf, hg => by
   rw[Sw]at hp;subst hp
   refine⟨h,s6 ?_,rfl,hg⟩
   simp (disch:=omega)only[go_sem,vD,AP.f338L0]
 | y :: q, p, h, hp, hf, hg => by
   have hlen:l.length=p.length+(q.length+1):=by rw[hp];simp
   have hy:l.getD p.length 0=y:=by rw[Sb,hp];simp
   have tk:l.take p.length=p:=by rw[hp];simp
   have ls:=I4 p y hn1
   have sl:(p++[y]).length=p.length+1:=by simp
   by_cases c:y=(n:Int)
   · rw[if_pos c]at ls
     have sa:=IH (l:=l) (s:=p.length) (by omega) hn1 (hy.trans c)
     rw[tk]at sa
     have hit:=I6 (l:=l) (i:=p.length) (by omega) hn1 (hy.trans c)
     rw[tk]at hit
     obtain⟨ad,a1,a2⟩:=(Iy h (syms l n)).xu
     have sc:=zO l n
     have il:wR p n<wR l n:=by have:=(uI.1 sa).1;omega
     have b1:=a1 (wR p n) ⟨by omega,by omega⟩
     have b2:=a2 h (Ext.refl h) (wR p n) _ sa
     have fb:=Bv (l:=l) (by omega) n
     have pw:=BH hn
     have cl:=Ag l n
     obtain⟨h',L,f1,g1⟩:=CS hl T v25 id n hn1 hn hT q (p++[y]) (h.set id ((wJ l n (p.length+1)).flatMap wO)) (by rw[hp];simp) (by simpa using hf) (by rw[vA rfl,hg,sl];rfl)
     have st:tS h id (p.length* 2) 2 [.int .i64 (n:Int),.int .i64 (vt l n+(wR p n:Int))] (some ((wJ l n p.length).flatMap wO))=some (h.set id ((wJ l n (p.length+1)).flatMap wO)):=by
      rw[K2,←hit,←Ke yT _ _ _ (by rw[Br];omega)]
      have:=Bw yT (wJ l n p.length)
      rw[Br]at this
      simp only[this,hf,Sc,Se,decide_true,AV.aB,AV.sc,Bool.and_true,Bool.true_and,show p.length* 2+2≤l.length* 2 by omega]
      rfl
     refine⟨h',s7 ?_ L,by rw[f1];simp,g1⟩
     rw[ls]
     have n1:((wR p n+1:Nat):Int)=(wR p n:Int)+1:=by omega
     rw[n1]
     have ib:cI (.int .i64 (p.length:Nat)) l.length=some p.length:=by
      have:(p.length:Int)<l.length:=by omega
      simp [cI,nB,this]
     have il':((wR p n:Nat):Int)<(wR l n:Nat):=by omega
     clear L g1 a1 a2 hit sa ls
     generalize (wJ l n (p.length+1)).flatMap wO=E2 at *
     generalize (wJ l n p.length).flatMap wO=E at *
     generalize zq (ints (syms l n))=SV at *
     generalize vt l n=F at *
     generalize wR p n=k at *
     generalize wR l n=K at *
     simp (disch:=omega)only[go_sem,vD,AP.f338L0,il',b1,b2,hT,ib,hg,st]
   · rw[if_neg c,Nat.add_zero]at ls
     have miss:=Hm (l:=l) (b:=n) (i:=p.length) (by rw[hy];exact c)
     obtain⟨h',L,f1,g1⟩:=CS hl T v25 id n hn1 hn hT q (p++[y]) h (by rw[hp];simp) hf (by rw[sl,miss];exact hg)
     rw[ls]at L
     exact⟨h',L,f1,g1⟩
theorem Kr (l:List Int):iV false (zq (ints l))=some (.int .i64 l.length):=by
 have:=(Iy (H.empty) l).len
 rw[pF]at this;exact this
theorem Ga {l:List Int} (hl:l.length<1000) (T SS:List AV) (id:Nat) (hT:∀n,1≤n→n≤15→T[n]?=some (.int .i64 (vt l n))) (hS:∀n,n≤15→SS[n]?=some (zq (ints (syms l n)))):∀(m n:Nat) (h:H),n+m=16→1≤n→h.floor≤id→h.get id=some ((wJ l n 0).flatMap wO)→
 ∃e' h',Lp AP.A [4,6,25,26] AP.f338L1 [(4,.aJ T 0),(6,.aD id 0 l.length 2),(25,.agg SS),(26,.int .i64 n)] h=some (.exit 0,e',h')∧look e' 6=.aD id 0 l.length 2∧h'.floor=h.floor∧h'.get id=some ((wJ l 16 0).flatMap wO)
 | 0, n, h, hm, hn, hf, hg => by
   obtain rfl:n=16:=by omega
   refine⟨[(4,.aJ T 0),(6,.aD id 0 l.length 2),(25,.agg SS),(26,.int .i64 16),(27,.bool false)],h,s6 ?_,rfl,rfl,hg⟩
   simp (disch:=omega)only[go_sem,vD,AP.f338L1]
 | m + 1, n, h, hm, hn, hf, hg => by
   obtain⟨h1,L1,f1,g1⟩:=CS hl T (.agg SS) id n hn (by omega) (hT n hn (by omega)) l [] h rfl hf hg
   have c0:wR [] n=0:=by simp [wR]
   rw[c0]at L1
   obtain⟨e',h',L,q1,q2,q3⟩:=Ga hl T SS id hT hS m (n+1) h1 (by omega) (by omega) (by omega) (by rw[Hn];exact g1)
   refine⟨e',h',s7 ?_ L,q1,by rw[q2,f1],q3⟩
   have hs:=hS n (by omega)
   have ln:=Kr (syms l n)
   rw[zO]at ln
   have n1:((n+1:Nat):Int)=(n:Int)+1:=by omega
   have JG:(n:Int)<16:=by omega
   have ia:lU false 16 1 (.agg SS) (.int .i64 n)=some (zq (ints (syms l n))):=by
    simp [lU,cI,nB,JG,gQ,hs]
   have L1':Lp AP.A [4,6,7,25,26,30,31,32] AP.f338L0 [(4,.aJ T 0),(6,.aD id 0 l.length 2),(7,.int .i64 n),(25,.agg SS),(26,.int .i64 n),(30,zq (ints (syms l n))),(31,.int .i64 (wR l n)),(32,.int .i64 0)] h=_:=L1
   rw[n1]
   clear L L1 q3 g1 hs
   generalize zq (ints (syms l n))=SV at *
   simp (disch:=omega)only[go_sem,vD,AP.f338L1,JG,ia,ln,rU,L1']
theorem MJ (h:H) (x:AV) (l:List Int) (hl:l.length<1000) (rd:Rd h x (ints l)) (hm:At l=true) (h0:0≤vE l 15):aQ AP.A 348 [x] h=some (.bL [vJ l,.int .i64 0],h):=by
 have rd':=rd.mono (vB h)
 have k1:=Mo h.dI x l (by omega) rd'
 rw[hm]at k1
 have k2:=zG h.dI x l (by omega) (BF hm) rd'
 have hb:vJ l=.aJ (nq 49 (wM l)) 0:=rfl
 have g:(nq 49 (wM l))[48]?=some (.int .i64 (vE l 15)):=by rw[fH (by omega)];rfl
 have c:¬vE l 15<0:=by omega
 rw[hb]at k2 ⊢
 generalize nq 49 (wM l)=T at *
 refine tQ (fn:=AP.f348) (h2:=h.dI) (e:=[(2,.aJ T 0),(3,.int .i64 0)]) (vs:=[.aJ T 0,.int .i64 0]) rfl rfl rfl ?_ rfl rfl
 simp (disch:=omega)only[go_sem,vD,AP.f348,k1,k2,g,c]
theorem zL (h:H) (x:AV) (l:List Int) (h1:1≤l.length) (hl:l.length<1000) (rd:Rd h x (ints l)) (hc:vF l=0∨vF l=302):aQ AP.A 338 [x] h=some (.bL [zy l,.int .i64 0],h):=by
 have yZ:Rd h.dI x (ints l):=rd.mono (vB h)
 have hm:At l=true:=by
  unfold vF at hc
  by_cases q:At l=false
  · rw[if_pos q]at hc;omega
  · simpa using q
 have h0:0≤vE l 15:=by
  unfold vF at hc
  rw[if_neg (by rw[hm];decide)]at hc
  by_cases q:vE l 15<0
  · rw[if_pos q]at hc;omega
  · omega
 have hr:=BF hm
 have k:=MJ h.dI x l hl yZ hm h0
 obtain⟨g,eg⟩:∃g,g=h.dI.alloc (xW l.length [.int .i64 0,.int .i64 0]):=⟨_,rfl⟩
 have hn:h.dI.next=h.next:=rfl
 have gg:g.get h.next=some ((wJ l 1 0).flatMap wO):=by rw[eg,vx (by simp),Cb,Ho]
 have gf:g.floor=h.next:=by rw[eg];simp
 have ln:=rd.len
 rw[pF]at ln
 simp only[I]at ln
 obtain⟨T,eT⟩:∃T,T=nq 49 (wM l):=⟨_,rfl⟩
 have hT:∀n,1≤n→n≤15→T[n]?=some (.int .i64 (vt l n)):=fun n _ hn=>by
  rw[eT,fH (by omega),wM,if_pos (by omega)];rfl
 have hS:∀n,n≤15→((T.drop 32).take 16)[n]?=some (zq (ints (syms l n))):=fun n hn=>by
  rw[List.getElem?_take_of_lt (by omega),uX,eT,fH (by omega),wM,if_neg (by omega),if_neg (by omega),if_pos (by omega),show 32+n-32=n by omega]
 have hb:vJ l=.aJ T 0:=by rw[eT];rfl
 have lT:T.length=49:=by rw[eT];simp [nq]
 rw[hb]at k
 obtain⟨e',h',L,q1,q2,q3⟩:=Ga hl T ((T.drop 32).take 16) h.next hT hS 15 1 g (by omega) (by omega) (by omega) gg
 have L0:∃e',Lp AP.A [4,6,25,26] AP.f338L1 [(4,.aJ T 0),(6,.aD h.next 0 l.length 2),(25,.agg ((T.drop 32).take 16)),(26,.int .i64 0)] g=some (.exit 0,e',h')∧look e' 6=.aD h.next 0 l.length 2:=by
  refine⟨e',s7 ?_ L,q1⟩
  have hs:=hS 0 (by omega)
  have ia:lU false 16 1 (.agg ((T.drop 32).take 16)) (.int .i64 0)=some .aO:=by
   have hs':((T.drop 32).take 16)[0]?=some .aO:=by rw[hs];rfl
   show gQ false 1 ((T.drop 32).take 16) 0=_
   unfold gQ
   rw[if_neg (by decide)]
   exact hs'
  have Li:Lp AP.A [4,6,7,25,26,30,31,32] AP.f338L0 [(4,.aJ T 0),(6,.aD h.next 0 l.length 2),(7,.int .i64 0),(25,.agg ((T.drop 32).take 16)),(26,.int .i64 0),(30,.aO),(31,.int .i64 0),(32,.int .i64 0)] g=some (.exit 2,[(4,.aJ T 0),(6,.aD h.next 0 l.length 2),(7,.int .i64 0),(25,.agg ((T.drop 32).take 16)),(26,.int .i64 0),(30,.aO),(31,.int .i64 0),(32,.int .i64 0),(33,.bool false)],g):=by
   refine s6 ?_
   simp (disch:=omega)only[go_sem,vD,AP.f338L0]
  clear L q3 hs hT hS
  generalize (T.drop 32).take 16=SS at *
  have JG:(0:Int)<16:=by omega
  simp (disch:=omega)only[go_sem,vD,AP.f338L1,JG,ia,EL,rU,Li]
 obtain⟨e0,L0,q0⟩:=L0
 rw[I5 hr]at q3
 have ce:(vh l).length=l.length:=by simp [vh]
 have ow:wm 2 h' (.aD h.next 0 l.length 2) l.length ((vh l).flatMap wO):=⟨by rw[Bw yT,ce],.inr ⟨h.next,rfl,q3,by omega,by omega⟩⟩
 refine tQ (fn:=AP.f338) (h2:=h') (e:=[(2,.aD h.next 0 l.length 2),(3,.int .i64 0)]) (vs:=[.aD h.next 0 l.length 2,.int .i64 0]) rfl rfl rfl ?_ rfl ?_
 · have ld:bP true 16 (.aJ T 32) g=some (.agg ((T.drop 32).take 16)):=by
    show gQ true 16 T 32=_
    simp [gQ,lT]
   clear ow q3 rd yZ hr L hT hS gg
   generalize (T.drop 32).take 16=SS at *
   have ld':gQ true 16 T 32=some (.agg SS):=ld
   simp (disch:=omega)only[go_sem,vD,AP.f338,k,ln,←eg,hn,ld',rU,L0,q0]
 · have o':=ow
   rw[Av]at o'
   have s1:=o'.zX (fl:=h.next) (m:=13) (t:=true) (by omega)
   show(fw (snap h'.get h.next 15 true) [.aD h.next 0 l.length 2,.int .i64 0]).bind _=_
   simp only[fw,s1,uJ]
   rw[←Av];rfl
theorem Ju (s : ByteArray) (hs : s.size < 32000) : ∀ (f i : Nat) (h : H) (ov : AV) (ts : List Tok), s.size - i ≤ f → i ≤ s.size → ts.length ≤ i → wm 3 h ov ts.length (wv ts) → h.floor ≤ h.next →
 ∃e' h' ov',Lp AP.A [0,4,5] AP.f332L0 [(0,.str s),(4,ov),(5,.int .i64 i)] h=some (.exit 0,e',h')∧look e' 4=ov'∧wm 3 h' ov' (ts++yf s f i).length (wv (ts++yf s f i))∧h'.floor=h.floor∧h.next≤h'.next:=by
 have stop:∀(i:Nat) (h:H) (ov:AV),s.size≤i→∃e',Lp AP.A [0,4,5] AP.f332L0 [(0,.str s),(4,ov),(5,.int .i64 i)] h=some (.exit 0,e',h)∧look e' 4=ov:=by
  intro i h ov hi
  refine⟨[(0,.str s),(4,ov),(5,.int .i64 i),(13,.bool false)],s6 ?_,rfl⟩
  have c:¬(i:Int)<s.size:=by omega
  simp (disch:=omega)only[go_sem,vD,AP.f332L0,wy,c]
 intro f
 induction f with
 | zero =>
   intro i h ov ts hf hi hts o hfn
   obtain⟨e',r1,r2⟩:=stop i h ov (by omega)
   exact⟨e',h,ov,r1,r2,by simpa [yf]using o,rfl,uM _⟩
 | succ f ih =>
   intro i h ov ts hf hi hts o hfn
   by_cases c0:i<s.size
   · have kb:=fun g=>L8 g s i hs c0
     have hb:=CC s i
     have lt:=Ha s i
     have le:=G9 s i c0
     have bsp:=Ae s i (by omega) i (0,0) (uM _) (.inl rfl)
     have hx:=zS (s:=s) (i:=(i:Int)) ⟨by omega,by omega⟩
     rw[show((i:Int)).toNat=i by omega]at hx
     have c0':(i:Int)<s.size:=by omega
     have fin:∀(g:H) (t:Tok) (i':Nat),wo s i=(t,i')→g.floor=h.floor→g.next=h.next+1→(∀j,j<h.next→g.get j=h.get j)→(∀(v':AV) (h':H),kA (g.alloc (Hb t)) 3 24 ov (.aD g.next 0 1 3)=some (v',h')→h'.get h.next=g.get h.next→aK (aQ AP.A) bq AP.f332L0 (ax [(0,.str s),(4,ov),(5,.int .i64 i)] [0,4,5]) h=some (.normal,[(0,.str s),(4,v'),(5,.int .i64 i')],h'))→
      ∃e' h' ov',Lp AP.A [0,4,5] AP.f332L0 [(0,.str s),(4,ov),(5,.int .i64 i)] h=some (.exit 0,e',h')∧look e' 4=ov'∧wm 3 h' ov' (ts++yf s (f+1) i).length (wv (ts++yf s (f+1) i))∧h'.floor=h.floor∧h.next≤h'.next:=by
      intro g t i' et gf gn gk hstep
      have og:wm 3 g ov ts.length (wv ts):=o.mono gf fun j hj=>gk j (o.lt hj).2
      obtain⟨v',h',p1,p2,p3,p4,p5,p6⟩:=og.push (by omega) (z:=24) (m:=1) (by omega) (by omega) (Hb t) rfl rfl (by simp [roomy];omega)
      have hon:ov.id?≠some h.next:=fun q=>by have:=(o.lt q).2;omega
      have step:=hstep v' h' p1 (p5 h.next hon (by omega))
      rw[et]at lt le
      simp only at lt le
      have o2:wm 3 h' v' (ts++[t]).length (wv (ts++[t])):=by rw[HR,vb];exact p2
      obtain⟨e',h2,ov',r1,r2,r3,r4,r5⟩:=ih i' h' v' (ts++[t]) (by omega) le (by simp;omega) o2 (by omega)
      refine⟨e',h2,ov',s7 step r1,r2, ?_,by omega,by omega⟩
      rw[yf,if_pos c0,et]
      simpa using r3
     by_cases c1:(vR s i i (0,0)).1<3
     · have et:wo s i=(⟨xi s i,0,0⟩,i+1):=if_pos c1
       have e1:Em (vR s i i (0,0))=(0,0):=if_pos c1
       rw[e1]at kb
       obtain⟨g,eg⟩:∃g,g=((h.alloc [.int .i64 0,.int .i64 0,.int .i64 0]).set h.next [.int .i64 0,.int .i64 0,.int .i64 0]).set h.next [.int .i64 (xi s i:Nat),.int .i64 0,.int .i64 0]:=⟨_,rfl⟩
       have gg0:g.get h.next=some [.int .i64 (xi s i:Nat),.int .i64 0,.int .i64 0]:=by rw[eg,vA rfl,vA rfl,vx rfl];rfl
       refine fin g _ _ et (by rw[eg];simp) (by rw[eg];simp) (fun j hj=>by rw[eg,vi (by omega),vi (by omega),vu (by omega)]) fun v' h' ap gh=> ?_
       rw[gg0]at gh
       simp only[Hb,Mc,ints,Sl,SY,I]at ap
       have n1:((i+1:Nat):Int)=(i:Int)+1:=by omega
       have m1:De 1 0=1:=rfl
       have kb':∀g:H,aQ AP.A 344 [.str s,.int .i64 i] g=some (.agg [.int .i64 0,.int .i64 0,.int .i64 0],g):=kb
       have w8:IntKind.wrap .i64 ((xi s i:Nat):Int)=((xi s i:Nat):Int):=wi (by omega)
       have cz:((0:Int)==0)=true:=by decide
       rw[n1]
       clear kb ih o bsp fin lt le
       generalize ((xi s i:Nat):Int)=Y at *
       simp (disch:=first|omega|(simp only[wT,Sc,Se,uR,Nat.reduceAdd];first|done|omega|fail)|(simp (disch:=first|omega|(simp only[wT,Sc,Se,uR,Nat.reduceAdd];first|done|omega|fail)|fail)only[wT,Cm,Sg,Sc,Se,uR,Nat.reduceAdd];done)|fail)only[go_sem,vD,Ck,]at ap
       simp (disch:=first|omega|(simp only[wT,Sc,Se,uR,Nat.reduceAdd,gg0];first|done|omega|fail)|(simp (disch:=first|omega|(simp only[wT,Sc,Se,uR,Nat.reduceAdd,gg0];first|done|omega|fail)|fail)only[wT,Cm,Sg,Sc,Se,uR,Nat.reduceAdd,gg0];done)|fail)only[go_sem,vD,Ck,AP.f332L0,wy,c0',kb',hx,HF,EM,m1,cz,w8,←eg,gg0,ap,gh]
     · have et:wo s i=(⟨0,(vR s i i (0,0)).1,(vR s i i (0,0)).2⟩,i+(vR s i i (0,0)).1):=if_neg c1
       have e1:Em (vR s i i (0,0))=vR s i i (0,0):=if_neg c1
       rw[e1]at kb
       have b258:(vR s i i (0,0)).1≤258:=by
        rcases bsp with q|q
        · omega
        · exact q.1
       obtain⟨g,eg⟩:∃g,g=(h.alloc [.int .i64 0,.int .i64 0,.int .i64 0]).set h.next [.int .i64 0,.int .i64 (vR s i i (0,0)).1,.int .i64 (vR s i i (0,0)).2]:=⟨_,rfl⟩
       have gg0:g.get h.next=some [.int .i64 0,.int .i64 (vR s i i (0,0)).1,.int .i64 (vR s i i (0,0)).2]:=by rw[eg,vA rfl,vx rfl];rfl
       refine fin g _ _ et (by rw[eg];simp) (by rw[eg];simp) (fun j hj=>by rw[eg,vi (by omega),vu (by omega)]) fun v' h' ap gh=> ?_
       rw[gg0]at gh
       simp only[Hb,Mc,ints,Sl,SY,I]at ap
       have n1:((i+(vR s i i (0,0)).1:Nat):Int)=(i:Int)+((vR s i i (0,0)).1:Nat):=by omega
       have m1:De 1 ((vR s i i (0,0)).1:Int)=((vR s i i (0,0)).1:Int):=by unfold De;split<;>omega
       have cb:(((vR s i i (0,0)).1:Int)==0)=false:=by simp;omega
       rw[n1]
       clear ih o bsp et e1 hx fin lt le
       generalize (vR s i i (0,0)).1=B1 at *
       generalize (vR s i i (0,0)).2=B2 at *
       simp (disch:=first|omega|(simp only[wT,Sc,Se,uR,Nat.reduceAdd];first|done|omega|fail)|(simp (disch:=first|omega|(simp only[wT,Sc,Se,uR,Nat.reduceAdd];first|done|omega|fail)|fail)only[wT,Cm,Sg,Sc,Se,uR,Nat.reduceAdd];done)|fail)only[go_sem,vD,Ck,]at ap
       simp (disch:=first|omega|(simp only[wT,Sc,Se,uR,Nat.reduceAdd,gg0];first|done|omega|fail)|(simp (disch:=first|omega|(simp only[wT,Sc,Se,uR,Nat.reduceAdd,gg0];first|done|omega|fail)|fail)only[wT,Cm,Sg,Sc,Se,uR,Nat.reduceAdd,gg0];done)|fail)only[go_sem,vD,Ck,AP.f332L0,wy,c0',kb,cb,HF,EM,m1,←eg,gg0,ap,gh]
   · obtain⟨e',r1,r2⟩:=stop i h ov (by omega)
     exact⟨e',h,ov,r1,r2,by simpa [yf,c0]using o,rfl,uM _⟩
theorem Jw (h:H) (s:ByteArray):aQ AP.A 332 [.str s] h=some (if 300<s.size then .bL [.aO,.int .i64 500]else .bL [Ci (tokens s),.int .i64 0],h):=by
 by_cases c:300<s.size
 · rw[if_pos c]
   refine tQ (fn:=AP.f332) (h2:=h.dI) (e:=[(2,.aO),(3,.int .i64 500)]) (vs:=[.aO,.int .i64 500]) rfl rfl rfl ?_ rfl rfl
   have c':(300:Int)<s.size:=by omega
   simp (disch:=omega)only[go_sem,vD,AP.f332,wy,c']
 · rw[if_neg c]
   obtain⟨e',h',ov',r1,r2,r3,r4,r5⟩:=Ju s (by omega) s.size 0 h.dI .aO [] (by omega) (by omega) (by simp) wm.nil (by simp)
   have r1':Lp AP.A [0,4,5] AP.f332L0 [(0,.str s),(4,.aO),(5,.int .i64 0)] h.dI=some (.exit 0,e',h'):=r1
   clear r1
   rw[List.nil_append]at r3
   refine tQ (fn:=AP.f332) (h2:=h') (e:=[(2,ov'),(3,.int .i64 0)]) (vs:=[ov',.int .i64 0]) rfl rfl rfl ?_ rfl ?_
   · have c':¬(300:Int)<s.size:=by omega
     simp (disch:=omega)only[go_sem,vD,AP.f332,wy,c',rU,r1',r2]
   · have o':=r3
     rw[AG]at o'
     have s1:=o'.zX (fl:=h.next) (m:=13) (t:=true) (by rw[r4];simp)
     show(fw (snap h'.get h.next 15 true) [ov',.int .i64 0]).bind _=_
     simp only[fw,s1,uJ]
     rw[←AG];rfl
theorem Gx {P:List Nat} {i b:Nat} (h:i%8=0) (hl:P.length=i/8):v7 P i b=P++[b]:=by
 unfold v7
 rw[if_pos h]
 dsimp only
 rw[←hl,h]
 rw[Sb,So (uM _),Nat.sub_self]
 rw[List.set_append_right _ _ (uM _),Nat.sub_self]
 simp
theorem Fc {P:List Nat} {a i b:Nat} (h:¬i%8=0) (hl:P.length=i/8):v7 (P++[a]) i b=P++[a|||b* 2^(i%8)]:=by
 unfold v7
 rw[if_neg h]
 dsimp only
 rw[←hl]
 rw[Sb,So (uM _),Nat.sub_self]
 rw[List.set_append_right _ _ (uM _),Nat.sub_self]
 simp
theorem RA:∀b,b<256→b/2^0%2|||b/2^1%2* 2^1|||b/2^2%2* 2^2|||b/2^3%2* 2^3|||b/2^4%2* 2^4|||b/2^5%2* 2^5|||b/2^6%2* 2^6|||b/2^7%2* 2^7=b:=by decide+kernel
theorem HH {bs:List Nat} (h:bs.length%8=0) {b:Nat} (hb:b<256):vN (bs++vz b 8)=vN bs++[b]:=by
 have pl:=xP bs
 have e:vN (bs++vz b 8)=wW (vz b 8) bs.length (vN bs):=by
  unfold vN;rw[Au,uR]
 rw[e]
 obtain⟨n,hn⟩:∃n,n=bs.length:=⟨_,rfl⟩
 rw[←hn]at h pl ⊢
 generalize vN bs=P at *
 have lP:P.length=n/8:=by omega
 show wW [b/2^0%2,b/2^1%2,b/2^2%2,b/2^3%2,b/2^4%2,b/2^5%2,b/2^6%2,b/2^7%2] n P=_
 have m:∀k,1≤k→k<8→(n+k)%8=k∧P.length=(n+k)/8:=fun k h1 h2=>by omega
 simp only[wW]
 rw[Gx h lP]
 have st:∀k a c,1≤k→k<8→v7 (P++[a]) (n+k) c=P++[a|||c* 2^k]:=fun k a c h1 h2=>by
  obtain⟨m1,m2⟩:=m k h1 h2
  rw[Fc (by omega) m2,m1]
 rw[st 1 _ _ (by omega) (by omega)]
 rw[show n+1+1=n+2 by omega,st 2 _ _ (by omega) (by omega)]
 rw[show n+2+1=n+3 by omega,st 3 _ _ (by omega) (by omega)]
 rw[show n+3+1=n+4 by omega,st 4 _ _ (by omega) (by omega)]
 rw[show n+4+1=n+5 by omega,st 5 _ _ (by omega) (by omega)]
 rw[show n+5+1=n+6 by omega,st 6 _ _ (by omega) (by omega)]
 rw[show n+6+1=n+7 by omega,st 7 _ _ (by omega) (by omega)]
 rw[RA b hb]
def yd (s:ByteArray) (i:Nat):List Nat:=(List.range i).flatMap fun k=>vz (xi s k) 8
theorem AM (s:ByteArray) (i:Nat):yd s (i+1)=yd s i++vz (xi s i) 8:=by simp [yd,List.range_succ]
theorem BW (s:ByteArray):∀i,(yd s i).length=8* i
 |0=>rfl
 |i+1=>by rw[AM,vb,BW s i];simp [vz,vH];omega
theorem B9 (bs:List Nat) (h:bs.length%8=0) (s:ByteArray):∀i,vN (bs++yd s i)=vN bs++preB s i
 |0=>by simp [yd,preB]
 | i + 1 => by
   rw[AM,←Sp,HH (by rw[vb,BW];omega) (CC s i),B9 bs h s i,BI,Sp]
theorem FQ (s:ByteArray):bytesOf (preB s s.size)=s:=by
 apply ByteArray.ext
 apply Array.ext
 · have:=vW (preB s s.size)
   rw[xp]at this
   exact this
 · intro i h1 h2
   simp only[bytesOf,preB,SX,List.getElem_toArray,List.getElem_map,List.getElem_range,Function.comp_apply]
   have hi:i<s.size:=h2
   unfold xi
   rw[show s[i]?=some s[i]by simp [hi]]
   simp
   rfl
theorem CD (a b:List Nat):bytesOf (a++b)=bytesOf a++bytesOf b:=by
 apply ByteArray.ext
 simp [bytesOf,ByteArray.data_append]
theorem GZ (s:ByteArray):bytesOf (vN (wH s.size++yd s s.size))=xf s:=by
 have l:(wH s.size).length=40:=by simp [wH,vz,vH]
 rw[B9 _ (by omega),CD,FQ];rfl
theorem IF (s:ByteArray) (hs:s.size≤300) (h0:H) (w:Nat):∀(m i:Nat) (bs:List Nat) (h:H) (ov:AV),i+m=s.size→WX h0 h w bs ov→bs.length+8* m≤60000→
 ∃h' ov',Lp AP.A [0,4,5,25,26] AP.f325L0 [(0,.str s),(4,.aC w 0),(5,.fn 335 [.aC w 0] []),(25,.int .i64 s.size),(26,.int .i64 i)] h=some (.exit 0,[(0,.str s),(4,.aC w 0),(5,.fn 335 [.aC w 0] []),(25,.int .i64 s.size),(26,.int .i64 s.size),(27,.bool false)],h')∧WX h0 h' w (bs++((List.range' i m).flatMap fun k=>vz (xi s k) 8)) ov'
 | 0, i, bs, h, ov, hi, x, hb => by
   obtain rfl:i=s.size:=by omega
   refine⟨h,ov,s6 ?_,by simpa using x⟩
   simp (disch:=omega)only[go_sem,vD,AP.f325L0]
 | m + 1, i, bs, h, ov, hi, x, hb => by
   have bl:=CC s i
   obtain⟨h1,o1,k1,w1,f1⟩:=xY x.wr (xi s i) 8 (by omega) (by omega) (by omega)
   obtain⟨h',ov',L,x2⟩:=IF s hs h0 w m (i+1) (bs++vz (xi s i) 8) h1 o1 (by omega) (x.step w1 f1) (by simp [vz,vH];omega)
   refine⟨h',ov',s7 ?_ L,by rw[List.range'_succ,Sj,←Sp];exact x2⟩
   have hx:=zS (s:=s) (i:=(i:Int)) ⟨by omega,by omega⟩
   rw[show((i:Int)).toNat=i by omega]at hx
   have c0:(i:Int)<s.size:=by omega
   have w8:IntKind.wrap .i64 ((xi s i:Nat):Int)=((xi s i:Nat):Int):=wi (by omega)
   have k1':aQ AP.A 335 [.aC w 0,.int .i64 (xi s i:Nat),.int .i64 8] h=some (.int .i64 0,h1):=k1
   have n1:((i+1:Nat):Int)=(i:Int)+1:=by omega
   rw[n1]
   clear x x2 L w1 f1 k1
   generalize ((xi s i:Nat):Int)=Y at *
   simp (disch:=omega)only[go_sem,vD,AP.f325L0,c0,hx,w8,k1']
theorem Me:∀n:Nat,n≤300→bits .xor .i64 (n:Int) 65535=65535-(n:Int):=by
 intro n hn
 have:∀n:Nat,n<301→decide (bits .xor .i64 ((n:Nat):Int) 65535=65535-((n:Nat):Int))=true:=by decide+kernel
 exact of_decide_eq_true (this n (by omega))
theorem Jt (h:H) (s:ByteArray):aQ AP.A 325 [.str s] h=some (if 300<s.size then .bL [.str ⟨#[]⟩,.int .i64 800]else .bL [.str (xf s),.int .i64 0],h):=by
 by_cases c:300<s.size
 · rw[if_pos c]
   have c':(300:Int)<s.size:=by omega
   refine tQ (fn:=AP.f325) (h2:=h.dI) (e:=[(2,.str ⟨#[]⟩),(3,.int .i64 800)]) (vs:=[.str ⟨#[]⟩,.int .i64 800]) rfl rfl rfl ?_ rfl rfl
   simp (disch:=omega)only[go_sem,vD,AP.f325,wy,c']
 · rw[if_neg c]
   obtain⟨h1,o1,k1,x1,f1⟩:=HY (h:=h.dI) rfl 0 (by omega)
   have e0:vz 1 1++vz 0 2=vz 1 3:=by decide
   rw[e0]at x1
   obtain⟨h2,k2,w2,r2⟩:=KF x1.wr 5 (by simp [vz,vH]) (by omega) (by simp [vz,vH])
   have x2:=x1.step w2 r2
   obtain⟨h3,o3,k3,w3,r3⟩:=xY x2.wr s.size 16 (by omega) (by omega) (by simp [vz,vH])
   have x3:=x2.step w3 r3
   obtain⟨h4,o4,k4,w4,r4⟩:=xY x3.wr (65535-s.size) 16 (by omega) (by omega) (by simp [vz,vH])
   have x4:=x3.step w4 r4
   have ee:vz 1 3++List.replicate 5 0++vz s.size 16++vz (65535-s.size) 16=wH s.size:=by unfold wH;simp only[Sp]
   rw[ee]at x4
   obtain⟨h5,o5,L,x5⟩:=IF s (by omega) h.dI h.dI.next s.size 0 _ h4 o4 (by omega) x4 (by simp [wH,vz,vH];omega)
   have eb:wH s.size++((List.range' 0 s.size).flatMap fun k=>vz (xi s k) 8)=wH s.size++yd s s.size:=by unfold yd;rw[List.range_eq_range']
   rw[eb]at x5
   have k6:=Iw x5.wr
   rw[GZ s]at k6
   have hN:h.dI.next=h.next:=rfl
   rw[hN]at k1 k2 k3 k4 L k6
   have c':¬(300:Int)<s.size:=by omega
   have k1':aQ AP.A 333 [.int .i64 0] h.dI=some (.aC h.next 0,h1):=k1
   have k3':aQ AP.A 335 [.aC h.next 0,.int .i64 s.size,.int .i64 16] h2=some (.int .i64 0,h3):=k3
   have xo:=Me s.size (by omega)
   have e4:((65535-s.size:Nat):Int)=65535-(s.size:Int):=by omega
   rw[e4]at k4
   have k4':aQ AP.A 335 [.aC h.next 0,.int .i64 (65535-(s.size:Int)),.int .i64 16] h3=some (.int .i64 0,h4):=k4
   have L':Lp AP.A [0,4,5,25,26] AP.f325L0 [(0,.str s),(4,.aC h.next 0),(5,.fn 335 [.aC h.next 0] []),(25,.int .i64 s.size),(26,.int .i64 0)] h4=_:=L
   refine tQ (fn:=AP.f325) (h2:=h5) (e:=[(2,.str (xf s)),(3,.int .i64 0)]) (vs:=[.str (xf s),.int .i64 0]) rfl rfl rfl ?_ rfl rfl
   clear x1 x2 x3 x4 x5 w2 w3 w4 r2 r3 r4 L k1 k3 k4 ee eb e0
   generalize xf s=TT at *
   generalize 65535-(s.size:Int)=Z at *
   simp (disch:=omega)only[go_sem,vD,AP.f325,wy,c',k1',k2,k3',xo,k4',rU,L',k6]
theorem A6 (W : List Int) (F : List Bool) : ∀ (m i : Nat) (a : Int), (a = -1 ∧ (∀ j, j < i → F.getD j false = false)) ∨ (∃ k : Nat, a = k ∧ k < i ∧ F.getD k false = true ∧ (∀ j, j < i → F.getD j false = true → W.getD k 0 ≤ W.getD j 0) ∧ ∀ j, j < k → F.getD j false = true → W.getD k 0 < W.getD j 0) →
 (wS W F m i a= -1)∨(∃k:Nat,wS W F m i a=k∧∀j,j<k→F.getD j false=true→W.getD k 0<W.getD j 0)
 | 0, i, a, h => by
   rcases h with ⟨h,_⟩|⟨k,h,_,_,_,h2⟩
   · exact .inl h
   · exact .inr ⟨k,h,h2⟩
 | m + 1, i, a, h => by
   rw[wS]
   refine A6 W F m (i+1) _ ?_
   by_cases c:F.getD i false=true∧(a<0∨W.getD i 0<W.getD a.toNat 0)
   · rw [if_pos c]
     refine .inr ⟨i,rfl,by omega,c.1,fun j hj hf=> ?_,fun j hj hf=> ?_⟩
     · by_cases q:j=i
       · subst q;exact SO _
       · rcases h with ⟨_,h2⟩|⟨k,rfl,h1,h2,h3,h4⟩
         · rw[h2 j (by omega)]at hf;cases hf
         · have:=h3 j (by omega) hf
           have tk:((k:Nat):Int).toNat=k:=by omega
           rw[tk]at c
           have:=c.2
           omega
     · rcases h with ⟨_,h2⟩|⟨k,rfl,h1,h2,h3,h4⟩
       · rw[h2 j (by omega)]at hf;cases hf
       · have:=h3 j (by omega) hf
         have tk:((k:Nat):Int).toNat=k:=by omega
         rw[tk]at c
         have:=c.2
         omega
   · rw [if_neg c]
     rcases h with ⟨rfl,h2⟩|⟨k,rfl,h1,h2,h3,h4⟩
     · refine .inl ⟨rfl,fun j hj=> ?_⟩
       by_cases q:j=i
       · subst q
         cases e:F.getD j false with
         |false=>rfl
         |true=>exact absurd ⟨e,.inl (by omega)⟩ c
       · exact h2 j (by omega)
     · refine .inr ⟨k,rfl,by omega,h2,fun j hj hf=> ?_,h4⟩
       by_cases q:j=i
       · subst q
         have tk:((k:Nat):Int).toNat=k:=by omega
         rw[tk]at c
         have:¬(W.getD j 0<W.getD k 0):=fun x=>c ⟨hf,.inr x⟩
         omega
       · exact h3 j (by omega) hf
theorem Gm {W:List Int} {F:List Bool} (h:0≤wS W F W.length 0 (-1)):∀j,j<xA W F→F.getD j false=true→W.getD (xA W F) 0<W.getD j 0:=by
 rcases A6 W F W.length 0 (-1) (.inl ⟨rfl,fun j hj=>by omega⟩)with q|⟨k,q,r⟩
 · omega
 · have ek:xA W F=k:=by unfold xA;rw[q];omega
   rw[ek];exact r
structure Tz where
 w:Int
 m:Int
 L:List Int
def Lm (n N:Nat) (S:List Int) (r:Nat):Int:=if r<n then S.getD r 0 else(N:Int)+(r-n:Nat)
def xc (rc:Nat→Tz) (t:Nat):Int:=(rc t).w* 1000000+(rc t).m
def BC:List Int→List Int→List Int
 |O,[]=>O
 |O,s::r=>BC (wV O s.toNat) r
theorem CY:∀(L O:List Int),(BC O L).length=O.length
 |[],O=>rfl
 |s::r,O=>by rw[BC,CY r,xm]
theorem OK (O:List Int) (i q:Nat) (hi:i<O.length):(wV O i).getD q 0=O.getD q 0+if i=q then 1 else 0:=by
 unfold wV
 rw[Sb,Sr]
 by_cases c:i=q
 · subst c;rw[if_pos rfl,if_pos hi,if_pos rfl];rfl
 · rw[if_neg c,if_neg c,Sb];omega
theorem E1:∀(L O:List Int) (q:Nat),(∀s∈L,s.toNat<O.length)→(BC O L).getD q 0=O.getD q 0+(L.map Int.toNat).count q
 |[],O,q,h=>by simp [BC]
 | s :: r, O, q, h => by
   rw[BC,E1 r _ q (fun t ht=>by rw[xm];exact h t (by simp [ht])),OK _ _ _ (h s (by simp)),Sl,List.count_cons]
   by_cases c:s.toNat=q
   · subst c;simp;omega
   · simp [c]
structure AJ (n N:Nat) (S:List Int):Prop where
 len:S.length=n
 OY:∀s∈S,0≤s∧s<N
 inc:∀i j,i<j→j<n→S.getD i 0<S.getD j 0
 nd:(S.map Int.toNat).Nodup
theorem AJ.at {n N:Nat} {S:List Int} (o:AJ n N S) {i:Nat} (h:i<n):0≤S.getD i 0∧S.getD i 0<N:=by
 refine o.OY _ ?_
 rw[Sb,Sd (by rw[o.len];exact h)]
 exact Su _
theorem AJ.inj {n N:Nat} {S:List Int} (o:AJ n N S) {i j:Nat} (hi:i<n) (hj:j<n) (h:S.getD i 0=S.getD j 0):i=j:=by
 rcases Nat.lt_trichotomy i j with q|q|q
 · have:=o.inc i j q hj;omega
 · exact q
 · have:=o.inc j i q hi;omega
theorem OR {n N:Nat} {S:List Int} (o:AJ n N S) {r q:Nat} (h:r<q):Lm n N S r<Lm n N S q:=by
 unfold Lm
 by_cases c:q<n
 · rw[if_pos (by omega),if_pos c];exact o.inc r q h c
 · rw[if_neg c]
   split
   · rename_i a;have:=o.at a;omega
   · omega
structure Fx (n N:Nat) (tot:Int) (S:List Int) (G s:FS) (rc:Nat→Tz) (tr:Nat→Tr) (l:List Nat) (O:List Int):Prop where
 hv:yG false n tot s (l.map tr)
 lw:s.W.length+l.length=2* n
 ll:l.length≤n
 fin:FS.yu (l.length-1) s=G
 so:AJ n N S
 rel:∀t∈l,(rc t).w=s.W.getD (tr t).1 0∧(rc t).m=Lm n N S (tr t).1∧(rc t).L=(tr t).2.map fun p=>S.getD p.1 0
 out:∀t∈l,∀p∈(tr t).2,O.getD (S.getD p.1 0).toNat 0=((p.2:Nat):Int)
 zero:∀q,(∀s∈S,s.toNat≠q)→O.getD q 0=0
 len:O.length=N
theorem Fx.perm {n N:Nat} {tot:Int} {S:List Int} {G s:FS} {rc:Nat→Tz} {tr:Nat→Tr} {l l':List Nat} {O:List Int} (v:Fx n N tot S G s rc tr l O) (p:l.Perm l'):Fx n N tot S G s rc tr l' O where
 hv:=v.hv.perm (p.map tr)
 lw:=by rw[←p.length_eq];exact v.lw
 ll:=by rw[←p.length_eq];exact v.ll
 fin:=by rw[←p.length_eq];exact v.fin
 so:=v.so
 rel t h:=v.rel t (p.mem_iff.2 h)
 out t h:=v.out t (p.mem_iff.2 h)
 zero:=v.zero
 len:=v.len
theorem Gn {n N:Nat} {S W:List Int} {F:List Bool} (so:AJ n N S) (hl:F.length=W.length) (hW:W.length<2* n) (hn:n≤1000) (hN:N≤1000) {rc:Nat→Tz} {tr:Nat→Tr} {l:List Nat} (hf:∀i,F.getD i false=true→∃t∈l,(tr t).1=i) (ht:∀t∈l,F.getD (tr t).1 false=true) (rel:∀t∈l,(rc t).w=W.getD (tr t).1 0∧(rc t).m=Lm n N S (tr t).1) {t0:Nat} (h0:t0∈l) (hm:∀t∈l,xc rc t0≤xc rc t):
 (tr t0).1=xA W F∧0≤wS W F W.length 0 (-1)∧∀t∈l,W.getD (tr t0).1 0≤W.getD (tr t).1 0:=by
 obtain⟨l1,la,fa,ma⟩:=Ap hl (ht t0 h0)
 obtain⟨ta,hta,ea⟩:=hf _ fa
 have fi:=Gm l1
 have mr:∀t∈l,0≤(rc t).m∧(rc t).m<1000000:=fun t h=>by
  rw[(rel t h).2]
  have lt:(tr t).1<W.length:=by
   have:=ht t h
   rw[Sb]at this
   cases e:F[(tr t).1]? with
   |none=>rw[e]at this;cases this
   |some b=>have:=(uI.1 e).1;omega
  unfold Lm
  split
  · rename_i a;have:=so.at a;omega
  · omega
 have m1:=hm ta hta
 have w0:=ma (tr t0).1 (ht t0 h0)
 have r0:=rel t0 h0
 have ra:=rel ta hta
 have q0:=mr t0 h0
 have qa:=mr ta hta
 unfold xc at m1
 have ew:W.getD (tr t0).1 0=W.getD (xA W F) 0:=by rw[←ea]at w0 ⊢;rw[r0.1,ra.1]at m1;omega
 have em:(rc t0).m≤(rc ta).m:=by rw[r0.1,ra.1,ea,ew]at m1;omega
 have e1:(tr t0).1=xA W F:=by
  rcases Nat.lt_trichotomy (tr t0).1 (xA W F)with q|q|q
  · have:=fi _ q (ht t0 h0);omega
  · exact q
  · rw[←ea]at q
    have:=OR so q
    rw[r0.2,ra.2]at em;omega
 refine⟨e1,l1,fun t h=> ?_⟩
 rw[ew];exact ma _ (ht t h)
theorem Fx.step {n N : Nat} {tot : Int} {S : List Int} {G s : FS} {rc rc' : Nat → Tz} {tr : Nat → Tr} {l2 : List Nat} {O : List Int} {a b t : Nat} (v : Fx n N tot S G s rc tr (a :: b :: l2) O) (hn : n ≤ 1000) (hN : N ≤ 1000) (ht : tot < 1000000000000000)
 (ha:∀t∈b::l2,xc rc a≤xc rc t) (hb:∀t∈l2,xc rc b≤xc rc t) (fr:∀x∈l2,x≠t) (er:∀x∈l2,rc' x=rc x)
 (et:rc' t=⟨(rc a).w+(rc b).w,((N+(n-(l2.length+2)):Nat):Int),(rc a).L++(rc b).L⟩):
 Fx n N tot S G s.E4 rc' (fun x=>if x=t then(s.U.length,xE ((tr a).2++(tr b).2))else tr x) (t::l2) (BC O ((rc a).L++(rc b).L))∧(∀q∈(rc a).L++(rc b).L,0≤q∧q<N)∧((rc a).L++(rc b).L).length≤n∧0<((rc a).L++(rc b).L).length:=by
 have lw:=v.lw
 have ll:=v.ll
 simp only[Sc]at lw ll
 obtain⟨ea,l1,mA⟩:=Gn (F:=s.F) (W:=s.W) v.so v.hv.lf (by omega) hn hN (tr:=tr) (rc:=rc) (l:=a::b::l2) (fun i hi=>by
  obtain⟨x,hx,e⟩:=v.hv.free i hi
  obtain⟨y,hy,rfl⟩:=Sm.1 hx
  exact⟨y,hy,e⟩) (fun x hx=>(v.hv.root _ (Sm.2 ⟨x,hx,rfl⟩)).1) (fun x hx=>⟨(v.rel x hx).1,(v.rel x hx).2.1⟩) (t0:=a) (by simp) (fun x hx=>by
   rcases u6.1 hx with q|q
   · subst q;exact SO _
   · exact ha x q)
 have nd:=v.hv.nd
 simp only[Sl,SW,u6,not_or]at nd
 obtain⟨⟨nab,na⟩,nb,n2⟩:=nd
 have naL:∀x∈b::l2,(tr x).1≠s.a:=fun x hx e=>by
  have e':(tr x).1=(tr a).1:=by rw[e,ea];rfl
  rcases u6.1 hx with q|q
  · subst q;exact nab e'.symm
  · exact na (Sm.2 ⟨tr x,Sm.2 ⟨x,q,rfl⟩,e'⟩)
 obtain⟨eb,l2',mB⟩:=Gn (F:=s.F1) (W:=s.W) v.so (by show(s.F.set s.a false).length=_;rw[Sz];exact v.hv.lf) (by omega) hn hN (tr:=tr) (rc:=rc) (l:=b::l2) (fun i hi=>by
  have hne:s.a≠i:=fun e=>by
   subst e
   have:(s.F.set s.a false).getD s.a false=true:=hi
   rw[zd]at this;cases this
  have hi':s.F.getD i false=true:=by
   have:(s.F.set s.a false).getD i false=true:=hi
   rwa [getD_set_ne hne]at this
  obtain⟨x,hx,e⟩:=v.hv.free i hi'
  obtain⟨y,hy,rfl⟩:=Sm.1 hx
  rcases u6.1 hy with q|q
  · subst q;exact absurd (ea.symm.trans e) hne
  · exact⟨y,q,e⟩) (fun x hx=>by
    show(s.F.set s.a false).getD (tr x).1 false=true
    rw[getD_set_ne (fun e=>naL x hx e.symm)]
    exact(v.hv.root _ (Sm.2 ⟨x,by simp only[u6]at hx ⊢;exact .inr hx,rfl⟩)).1) (fun x hx=>by
     have hx':x∈a::b::l2:=SP _ hx
     exact⟨(v.rel x hx').1,(v.rel x hx').2.1⟩) (t0:=b) (by simp) (fun x hx=>by
    rcases u6.1 hx with q|q
    · subst q;exact SO _
    · exact hb x q)
 have ea':(tr a).1=s.a:=ea
 have eb':(tr b).1=s.b:=eb
 obtain⟨ok,hv⟩:=v.hv.K5 (T2:=l2.map tr) (ta:=tr a) (tb:=tr b) (SR _) ea' eb' l1 l2' (by have:=mA b (by simp);rw[ea',eb']at this;exact this) (fun x hx=>by
  obtain⟨y,hy,rfl⟩:=Sm.1 hx
  have:=mB y (by simp [hy]);rw[eb']at this;exact this) ht
 have tm:∀x∈l2,(if x=t then((s.U.length,xE ((tr a).2++(tr b).2)):Tr)else tr x)=tr x:=fun x hx=>if_neg (fr x hx)
 have em:(t::l2).map (fun x=>if x=t then((s.U.length,xE ((tr a).2++(tr b).2)):Tr)else tr x)=(s.U.length,xE ((tr a).2++(tr b).2))::l2.map tr:=by
  rw[Sl,if_pos rfl]
  congr 1
  exact SD tm
 have lv:=v.hv.leaves
 have lnd:(((a::b::l2).map tr).flatMap fun t=>t.2.map (·.1)).Nodup:=lv.nodup_iff.2 List.nodup_range
 have llt:∀x∈a::b::l2,∀p∈(tr x).2,p.1<n:=fun x hx p hp=>SU.1 (lv.mem_iff.1 (List.mem_flatMap.2 ⟨tr x,Sm.2 ⟨x,hx,rfl⟩,Sm.2 ⟨p,hp,rfl⟩⟩))
 have eL:(rc a).L++(rc b).L=((tr a).2++(tr b).2).map fun p=>S.getD p.1 0:=by
  rw[(v.rel a (by simp)).2.2,(v.rel b (by simp)).2.2,List.map_append]
 have ltab:∀p∈(tr a).2++(tr b).2,p.1<n:=fun p hp=>by
  rcases SH.1 hp with q|q
  · exact llt a (by simp) p q
  · exact llt b (by simp) p q
 have rL:∀q∈(rc a).L++(rc b).L,0≤q∧q<N:=fun q hq=>by
  rw[eL]at hq
  obtain⟨p,hp,rfl⟩:=Sm.1 hq
  exact v.so.at (ltab p hp)
 have rL2:∀q∈(rc a).L++(rc b).L,q.toNat<O.length:=fun q hq=>by have:=rL q hq;rw[v.len];omega
 have cnt1:∀k:Nat,k<n→(((rc a).L++(rc b).L).map Int.toNat).count (S.getD k 0).toNat=(((tr a).2++(tr b).2).map (·.1)).count k:=fun k hk=>by
  rw[eL,SX]
  have:∀q:List (Nat×Nat),(∀p∈q,p.1<n)→(q.map (Int.toNat∘fun p=>S.getD p.1 0)).count (S.getD k 0).toNat=(q.map (·.1)).count k:=by
   intro q
   induction q with
   |nil=>intro _;rfl
   | cons p q ih =>
     intro h
     rw[Sl,Sl,List.count_cons,List.count_cons,ih fun p hp=>h p (by simp [hp])]
     have hp:=h p (by simp)
     have a1:=v.so.at hp
     have a2:=v.so.at hk
     congr 1
     by_cases c:p.1=k
     · simp [c]
     · have:¬(S.getD p.1 0).toNat=(S.getD k 0).toNat:=fun e=>c (v.so.inj hp hk (by omega))
       simp only[Function.comp_apply,beq_iff_eq,this,c,ve]
  exact this _ ltab
 rw[Sl,Sl,Sj,Sj,←Sp,←List.map_append]at lnd
 have lnd1:=(List.nodup_append.1 lnd)
 refine⟨⟨by rw[em];exact hv,by rw[FS.Ip];simp only[Sc];omega,by simp only[Sc];omega, ?_,v.so, ?_, ?_, ?_,by rw[CY];exact v.len⟩,rL, ?_, ?_⟩
 · have:=v.fin
   simpa [FS.yu]using this
 · intro x hx
   rcases u6.1 hx with q|q
   · subst q
     rw[if_pos rfl,et]
     refine⟨?_, ?_, ?_⟩
     · show(rc a).w+(rc b).w=s.E4.W.getD s.U.length 0
       rw[(v.rel a (by simp)).1,(v.rel b (by simp)).1,ea',eb']
       show _=(s.W++[s.sum]).getD s.U.length 0
       have e:(s.W++[s.sum]).getD s.U.length 0=s.sum:=by rw[v.hv.lu,Sb,So (uM _)];simp
       rw[e];rfl
     · show _=Lm n N S s.U.length
       have lu:=v.hv.lu
       unfold Lm
       rw[if_neg (by omega)]
       show((N+(n-(l2.length+2)):Nat):Int)=(N:Int)+((s.U.length-n:Nat):Int)
       have:s.U.length-n=n-(l2.length+2):=by omega
       rw[this];omega
     · show(rc a).L++(rc b).L=_
       rw[eL];unfold xE;rw[SX];rfl
   · rw[tm x q,er x q]
     have:=v.rel x (by simp [q])
     refine⟨?_,this.2⟩
     have rr:=v.hv.root _ (Sm.2 ⟨x,SP _ (SP _ q),rfl⟩)
     have lt:=(uI.1 rr.2).1
     rw[this.1]
     show _=(s.W++[s.sum]).getD (tr x).1 0
     rw[Sb,Sb,Sn (by rw[←v.hv.lu];exact lt)]
 · intro x hx p hp
   rcases u6.1 hx with q|q
   · subst q
     rw[if_pos rfl]at hp
     obtain⟨p0,hp0,rfl⟩:=Sm.1 hp
     have hlt:=ltab p0 hp0
     show(BC O _).getD (S.getD p0.1 0).toNat 0=((p0.2+1:Nat):Int)
     rw[E1 _ _ _ rL2,cnt1 _ hlt]
     have c1:(((tr a).2++(tr b).2).map (·.1)).count p0.1=1:=by rw[lnd1.1.count,if_pos (Sm.2 ⟨p0,hp0,rfl⟩)]
     rw[c1]
     have o1:O.getD (S.getD p0.1 0).toNat 0=((p0.2:Nat):Int):=by
      rcases SH.1 hp0 with z|z
      · exact v.out a (by simp) p0 z
      · exact v.out b (by simp) p0 z
     rw[o1];omega
   · rw[tm x q]at hp
     have hlt:=llt x (by simp [q]) p hp
     rw[E1 _ _ _ rL2,cnt1 _ hlt]
     have c0:(((tr a).2++(tr b).2).map (·.1)).count p.1=0:=List.count_eq_zero.2 fun hm=>
      lnd1.2.2 _ hm p.1 (List.mem_flatMap.2 ⟨tr x,Sm.2 ⟨x,q,rfl⟩,Sm.2 ⟨p,hp,rfl⟩⟩) rfl
     rw[c0,v.out x (by simp [q]) p hp];omega
 · intro q hq
   rw[E1 _ _ _ rL2,v.zero q hq]
   have:(((rc a).L++(rc b).L).map Int.toNat).count q=0:=List.count_eq_zero.2 fun hm=>by
    obtain⟨y,hy,rfl⟩:=Sm.1 hm
    rw[eL]at hy
    obtain⟨p,hp,rfl⟩:=Sm.1 hy
    have hp':=ltab p hp
    refine hq (S.getD p.1 0) ?_ rfl
    rw[Sb,Sd (by rw[v.so.len];exact hp')]
    exact Su _
   rw[this];rfl
 · have ln:=lv.length_eq
   rw[Sl,Sl,Sj,Sj,vb,vb,List.length_map,List.length_map,List.length_range]at ln
   rw[eL,List.length_map,vb];omega
 · have:=v.hv.ne (tr a) (by simp)
   rw[eL,List.length_map,vb]
   have:=List.length_pos_iff.2 this
   omega
theorem Fx.init {N:Nat} {S ws:List Int} {rc:Nat→Tz} {l:List Nat} (so:AJ ws.length N S) (pos:∀y∈ws,1≤y) (tr:Nat→Tr) (htr:l.map tr=T0 ws.length)
 (rel:∀t∈l,∃i,i<ws.length∧tr t=(i,[(i,0)])∧rc t=⟨ws.getD i 0,S.getD i 0,[S.getD i 0]⟩):
 Fx ws.length N ws.sum S (FS.yu (ws.length-1) (Cj ws)) (Cj ws) rc tr l (List.replicate N 0) where
 hv:=by rw[htr];exact yG.init ws false pos (fun h=>by cases h)
 lw:=by
  have:l.length=ws.length:=by have:=SI List.length htr;simpa [T0]using this
  rw[this];show ws.length+ws.length=_;omega
 ll:=by
  have:l.length=ws.length:=by have:=SI List.length htr;simpa [T0]using this
  omega
 fin:=by
  have:l.length=ws.length:=by have:=SI List.length htr;simpa [T0]using this
  rw[this]
 so:=so
 rel t ht:=by
  obtain⟨i,hi,e1,e2⟩:=rel t ht
  rw[e1,e2]
  refine⟨rfl, ?_,rfl⟩
  show S.getD i 0=Lm _ _ _ i
  unfold Lm;rw[if_pos hi]
 out t ht p hp:=by
  obtain⟨i,hi,e1,e2⟩:=rel t ht
  rw[e1]at hp
  simp at hp
  subst hp
  have:=so.at hi
  show(List.replicate N (0:Int)).getD (S.getD i 0).toNat 0=_
  rw[Sb,SE,if_pos (by omega)];rfl
 zero q _:=by
  rw[Sb,SE];split<;>rfl
 len:=by simp
theorem Fx.QU {N : Nat} {S ws : List Int} {G : FS} {rc : Nat → Tz} {tr : Nat → Tr} {t : Nat} {O : List Int} {tot : Int} {s : FS} (hG : G = FS.yu (ws.length - 1) (Cj ws)) (v : Fx ws.length N tot S G s rc tr [t] O) : O = vT S (vw ws) (List.replicate N 0) := by
 have es:s=G:=v.fin
 have up:=v.hv.up
 have rt:=(v.hv.root (tr t) (by simp)).2
 have rtD:s.U.getD (tr t).1 (-1)= -1:=by rw[Sb,rt];rfl
 have rl:=(uI.1 rt).1
 have lv:=v.hv.leaves
 simp only[Sl,SY,Sj,List.flatMap_nil,Sw]at lv
 have dep:∀q∈(tr t).2,BS s.U s.U.length (s.U.getD q.1 (-1))=q.2:=fun q hq=>by
  have:=v.hv.pt (tr t) (by simp) q hq
  have l:=Fj up this
  exact Fk up this rtD _ (by omega)
 have eD:vw ws=EW s.U ws.length:=by rw[es,hG];rfl
 have dl:(vw ws).length=ws.length:=wC ws
 have nd:=v.so.nd
 have ol:=v.len
 apply List.ext_getElem?
 intro q
 by_cases hq:q<N
 · have e0:O[q]?=some (O.getD q 0):=by rw[Sb,Sd (by omega)];rfl
   rw[e0]
   by_cases c:∃s∈S,s.toNat=q
   · obtain⟨y,hy,rfl⟩:=c
     obtain⟨j,hj,ej⟩:=SN.1 hy
     have hj':j<ws.length:=by rw[v.so.len]at hj;exact hj
     have h1:S[j]?=some y:=by rw[Sd hj,ej]
     have eyD:S.getD j 0=y:=by rw[Sb,h1];rfl
     obtain⟨p,hp,ep⟩:=Sm.1 (lv.mem_iff.2 (SU.2 hj'))
     have o1:=v.out t (by simp) p hp
     rw[ep,eyD]at o1
     have h2:(vw ws)[j]?=some ((p.2:Nat):Int):=by
      rw[eD];unfold EW
      rw[uV,SG hj']
      rw[←ep]
      show some ((BS s.U s.U.length (s.U.getD p.1 (-1)):Nat):Int)=_
      rw[dep p hp]
     rw[xQ S _ _ j y _ nd h1 h2 (by simpa using hq),o1]
   · have c':∀s∈S,s.toNat≠q:=fun s hs e=>c ⟨s,hs,e⟩
     rw[wP _ _ _ _ c',v.zero q c',SE,if_pos hq]
 · rw[Sq (by omega),Sq (by rw[wG];simp;omega)]
def ze:List Int→Nat
 |[]=>0
 |c::r=>if c=0 then 0 else ze r+1
def yz (C:List Int):Nat:=(vq C).length
def Dh (C:List Int):List Int:=if yz C=1 then C.set (ze C) 1 else C
theorem GI (C:List Int):(Dh C).length=C.length:=by unfold Dh;split<;>simp
theorem EI:∀(C:List Int),(∀y∈C,0≤y)→vq C=[]→∀y∈C,y=0
 |[],_,_,y,hy=>by simp at hy
 | c :: r, hp, h, y, hy => by
   rw[vq]at h
   by_cases q:0<c
   · rw[if_pos q]at h;cases h
   · rw[if_neg q]at h
     rcases u6.1 hy with z|z
     · have:=hp c (by simp);omega
     · exact EI r (fun y h=>hp y (by simp [h])) h y z
theorem OT {C : List Int} (hC : ∀ y ∈ C, 0 ≤ y) (h2 : 2 ≤ C.length) : vp 0 (Dh C) = wD C ∧ vq (Dh C) = wN C := by
 unfold wD wN Bf HI Dh yz
 rw[vP]
 by_cases c:(vq C).length=1
 · rw [if_pos c, if_pos c, if_pos c]
   match C,h2 with
   | c0 :: c1 :: r, _ =>
     have p0:=hC c0 (by simp)
     have p1:=hC c1 (by simp)
     by_cases q:0<c0
     · have w1:(vq (c1::r)).length=0:=by rw[vq,if_pos q]at c;simpa using c
       have wn:=SA w1
       have s1:vp 1 (c1::r)=[]:=SA (by rw[vP,w1])
       have z1:=EI (c1::r) (fun y h=>hC y (by simp [h])) wn c1 (by simp)
       have i0:ze (c0::c1::r)=1:=by rw[ze,if_neg (by omega),ze,if_pos z1]
       have s2:vp 2 r=[]:=by rw[vp,if_neg (by omega)]at s1;exact s1
       have w2:vq r=[]:=by rw[vq,if_neg (by omega)]at wn;exact wn
       rw[i0]
       have eS:vp 0 (c0::c1::r)=[0]:=by rw[vp,if_pos q,s1];rfl
       have eW:vq (c0::c1::r)=[c0]:=by rw[vq,if_pos q,wn]
       rw[eS,eW]
       have e1:vp 0 (c0::1::r)=[0,1]:=by rw[vp,if_pos q,vp,if_pos (by omega),s2];rfl
       have e2:vq (c0::1::r)=[c0,1]:=by rw[vq,if_pos q,vq,if_pos (by omega),w2]
       exact⟨e1,e2⟩
     · have z0:c0=0:=by omega
       have i0:ze (c0::c1::r)=0:=by rw[ze,if_pos z0]
       rw[i0]
       have eS:vp 0 (c0::c1::r)=vp 1 (c1::r):=by rw[vp,if_neg q]
       have eW:vq (c0::c1::r)=vq (c1::r):=by rw[vq,if_neg q]
       rw[eS,eW]
       rw[eW]at c
       have cS:(vp 1 (c1::r)).length=1:=by rw[vP];exact c
       obtain⟨s,es⟩:=List.length_eq_one_iff.1 cS
       obtain⟨w,ew⟩:=List.length_eq_one_iff.1 c
       have sr:=wY 1 (c1::r) s (by rw[es];simp)
       have e1:vp 0 (1::c1::r)=0::vp 1 (c1::r):=by rw[vp,if_pos (by omega)];rfl
       have e2:vq (1::c1::r)=1::vq (c1::r):=by rw[vq,if_pos (by omega)]
       have e3:(c0::c1::r).set 0 1=1::c1::r:=rfl
       rw[e3,e1,e2,es,ew]
       have g:[s].getD 0 0=s:=rfl
       rw[g,if_pos (by omega),if_pos (by omega)]
       exact⟨rfl,rfl⟩
 · rw[if_neg c,if_neg c,if_neg c];exact⟨rfl,rfl⟩
theorem Cf:∀(i:Nat) (C:List Int),(∀y∈C,0≤y)→vp i (wu C)=vp i C∧vq (wu C)=wu (vq C)
 |i,[],_=>⟨rfl,rfl⟩
 | i, c :: r, h => by
   have hc:=h c (by simp)
   obtain⟨a,b⟩:=Cf (i+1) r fun y hy=>h y (by simp [hy])
   show vp i (yD c::wu r)=_∧vq (yD c::wu r)=_
   rw[vp,vp,vq,vq,a,b]
   have e:0<yD c↔0<c:=by unfold yD;omega
   by_cases q:0<c
   · rw[if_pos (e.2 q),if_pos (e.2 q),if_pos q,if_pos q];exact⟨rfl,rfl⟩
   · rw[if_neg (fun z=>q (e.1 z)),if_neg (fun z=>q (e.1 z)),if_neg q,if_neg q];exact⟨rfl,rfl⟩
theorem AE : ∀ (i : Nat) (C : List Int) (j k : Nat), j < k → k < (vp i C).length → (vp i C).getD j 0 < (vp i C).getD k 0
 |i,[],j,k,h,hk=>by simp [vp]at hk
 | i, c :: r, j, k, h, hk => by
   rw[vp]at hk ⊢
   split
   · rename_i q
     rw[if_pos q]at hk
     obtain⟨k,rfl⟩:∃m,k=m+1:=⟨k-1,by omega⟩
     simp only[Sc]at hk
     cases j with
     | zero =>
       have hm:(vp (i+1) r).getD k 0∈vp (i+1) r:=by rw[Sb,Sd (by omega)];exact Su _
       have:=wY (i+1) r _ hm
       show(i:Int)<(vp (i+1) r).getD k 0
       omega
     |succ j=>exact AE (i+1) r j k (by omega) (by omega)
   · rename_i q
     rw[if_neg q]at hk
     exact AE (i+1) r j k h hk
theorem ED (C:List Int):AJ (vq C).length C.length (vp 0 C):=
 ⟨vP 0 C,fun s hs=>by have:=wY 0 C s hs;omega,fun i j h1 h2=>AE 0 C i j h1 (by rw[vP];exact h2),BR C 0⟩
theorem Ds {S D:List Int} {n:Nat} (hl:D.length=S.length) (nd:(S.map Int.toNat).Nodup) (hr:∀s∈S,s.toNat<n) {m:Int} (hm:0≤m):(∀y∈vT S D (List.replicate n 0),y≤m)↔Ar D 0≤m:=by
 constructor
 · intro h
   refine Ba D 0 m (fun d hd=> ?_) hm
   obtain⟨j,hj,ej⟩:=SN.1 hd
   have h1:S[j]?=some (S[j]'(by omega)):=Sd (by omega)
   have h2:D[j]?=some d:=by rw[Sd hj,ej]
   exact h d (uQ (xQ S D (List.replicate n 0) j _ d nd h1 h2 (by simpa using hr _ (Su _))))
 · intro h y hy
   obtain⟨p,hp,ep⟩:=SN.1 hy
   have e:(vT S D (List.replicate n 0))[p]?=some y:=by rw[Sd hp,ep]
   by_cases c:∃s∈S,s.toNat=p
   · obtain⟨s,hs,rfl⟩:=c
     obtain⟨j,hj,ej⟩:=SN.1 hs
     have h1:S[j]?=some s:=by rw[Sd hj,ej]
     have h2:D[j]?=some (D[j]'(by omega)):=Sd (by omega)
     rw[xQ S D _ j s _ nd h1 h2 (by simpa using hr s hs)]at e
     have e:=uC e
     have:=(Ct D 0).2 _ (Su (show j<D.length by omega))
     omega
   · have c':∀s∈S,s.toNat≠p:=fun s hs q=>c ⟨s,hs,q⟩
     rw[wP _ _ _ _ c',SE]at e
     split at e
     · obtain rfl:=uC e;exact hm
     · cases e
def wE (l:List Nat):List AV:=l.map fun t=>AV.aC t 0
theorem xV (l:List Nat):(wE l).length=l.length:=by simp [wE]
theorem zM {l:List Nat} {J:List AV} {i:Nat} (h:i<l.length):(wE l++J)[i]?=some (.aC (l.getD i 0) 0):=by
 rw[Sn (by rw[xV];exact h),wE,uV,Sb,Sd h];rfl
theorem zD {l:List Nat} {i:Nat} (h:i<l.length):l.getD i 0∈l:=by
 rw[Sb,Sd h];exact Su h
structure Hz (h:H) (a id:Nat) (l:List Nat) (J:List AV) (rc:Nat→Tz):Prop where
 ga:h.get a=some [.aD id 0 l.length 1]
 gi:h.get id=some (wE l++J)
 fa:h.floor≤a
 fi:h.floor≤id
 ne:a≠id
 tr:∀t∈l,t≠a∧t≠id∧(0≤(rc t).m∧(rc t).m<1000000)∧∃sv,h.get t=some [.int .i64 (rc t).w,.int .i64 (rc t).m,sv]
 lb:l.length<100000
theorem Hz.set {h:H} {a id:Nat} {l l':List Nat} {J:List AV} {rc:Nat→Tz} (z:Hz h a id l J rc) (p:l'.Perm l):Hz (h.set id (wE l'++J)) a id l' J rc where
 ga:=by rw[vi z.ne,z.ga,p.length_eq]
 gi:=by rw[vA rfl,z.gi];rfl
 fa:=by simpa using z.fa
 fi:=by simpa using z.fi
 ne:=z.ne
 tr t ht:=by
  obtain⟨a1,a2,a3,sv,a4⟩:=z.tr t (p.mem_iff.1 ht)
  exact⟨a1,a2,a3,sv,by rw[vi a2];exact a4⟩
 lb:=by rw[p.length_eq];exact z.lb
theorem CU (h:H) (id n:Nat):aQ AP.A 363 [.aD id 0 n 1] h=some (.int .i64 n,h):=by
 refine tz (fn:=AP.f363) (e:=[(2,.int .i64 n)]) (vs:=[.int .i64 n]) rfl rfl rfl (by simp (disch:=omega)only[go_sem,vD,AP.f363,zt]) rfl
theorem ON {h:H} {a id:Nat} {l:List Nat} {J:List AV} {rc:Nat→Tz} (z:Hz h a id l J rc) {i j:Nat} (hi:i<l.length) (hj:j<l.length):
 aQ AP.A 368 [.aD id 0 l.length 1,.int .i64 i,.int .i64 j] h=some (.bool (decide (xc rc (l.getD i 0)<xc rc (l.getD j 0))),h):=by
 obtain⟨_,_,mi,si,gi⟩:=z.tr _ (zD hi)
 obtain⟨_,_,mj,sj,gj⟩:=z.tr _ (zD hj)
 have pi:=zM (J:=J) hi
 have pj:=zM (J:=J) hj
 have gid:=z.gi
 unfold xc
 generalize wE l++J=P at *
 generalize l.getD i 0=ti at *
 generalize l.getD j 0=tj at *
 generalize (rc ti).w=wi at *
 generalize (rc ti).m=mmi at *
 generalize (rc tj).w=wj at *
 generalize (rc tj).m=mmj at *
 generalize l.length=n at *
 clear z
 have i1:fJ 1 (.aD id 0 n 1) (.int .i64 i)=some (.aC id i):=by
  simp [fJ,cI,nB,hi]
 have j1:fJ 1 (.aD id 0 n 1) (.int .i64 j)=some (.aC id j):=by
  simp [fJ,cI,nB,hj]
 by_cases c:wi=wj
 · have e:decide (wi* 1000000+mmi<wj* 1000000+mmj)=decide (mmi<mmj):=decide_eq_decide.2 (by omega)
   rw[e]
   have cb:(wi !=wj)=false:=by simp [c]
   refine tz (fn:=AP.f368) (e:=[(6,.bool (decide (mmi<mmj)))]) (vs:=[.bool (decide (mmi<mmj))]) rfl rfl rfl ?_ rfl
   simp (disch:=omega)only[go_sem,vD,AP.f368,i1,j1,gid,pi,pj,gi,gj,cb]
 · have e:decide (wi* 1000000+mmi<wj* 1000000+mmj)=decide (wi<wj):=decide_eq_decide.2 (by omega)
   rw[e]
   have cb:(wi !=wj)=true:=by simp [c]
   refine tz (fn:=AP.f368) (e:=[(6,.bool (decide (wi<wj)))]) (vs:=[.bool (decide (wi<wj))]) rfl rfl rfl ?_ rfl
   simp (disch:=omega)only[go_sem,vD,AP.f368,i1,j1,gid,pi,pj,gi,gj,cb]
theorem KJ {l:List Nat} {J:List AV} {i j:Nat} (hi:i<l.length) (hj:j<l.length):((wE l++J).set i (.aC (l.getD j 0) 0)).set j (.aC (l.getD i 0) 0)=wE (Bn l i j)++J:=by
 rw[List.set_append_left _ _ (by rw[xV];exact hi),List.set_append_left _ _ (by rw[Sz,xV];exact hj)]
 unfold wE Bn
 rw[List.map_set,List.map_set]
theorem O4 {h:H} {a id:Nat} {l:List Nat} {J:List AV} {rc:Nat→Tz} (z:Hz h a id l J rc) {i j:Nat} (hi:i<l.length) (hj:j<l.length):
 aQ AP.A 369 [.aD id 0 l.length 1,.int .i64 i,.int .i64 j] h=some (.bL [],h.set id (wE (Bn l i j)++J)):=by
 have pi:=zM (J:=J) hi
 have pj:=zM (J:=J) hj
 have gid:=z.gi
 have fi:=z.fi
 have e:=KJ (J:=J) hi hj
 have pl:l.length≤(wE l++J).length:=by rw[vb,xV];omega
 rw[←e]
 generalize wE l++J=P at *
 generalize l.getD i 0=ti at *
 generalize l.getD j 0=tj at *
 generalize l.length=n at *
 clear z e
 have i1:fJ 1 (.aD id 0 n 1) (.int .i64 i)=some (.aC id i):=by
  simp [fJ,cI,nB,hi]
 have j1:fJ 1 (.aD id 0 n 1) (.int .i64 j)=some (.aC id j):=by
  simp [fJ,cI,nB,hj]
 have e2:(h.set id (P.set i (.aC tj 0))).set id ((P.set i (.aC tj 0)).set j (.aC ti 0))=h.set id ((P.set i (.aC tj 0)).set j (.aC ti 0)):=H.set_set _ _ _ _
 rw[←e2]
 have g2:(h.set id (P.set i (.aC tj 0))).get id=some (P.set i (.aC tj 0)):=by rw[vA rfl,gid];rfl
 refine v8 (fn:=AP.f369) (e:=[]) (vs:=[]) rfl rfl rfl ?_ rfl
 simp (disch:=omega)only[go_sem,vD,AP.f369,i1,j1,gid,pi,pj,g2]
theorem HB {h:H} {a id:Nat} {l:List Nat} {J:List AV} {rc:Nat→Tz} (z:Hz h a id l J rc) {i j:Nat} {x y:Int} (hx:x=i) (hy:y=j) (hi:i<l.length) (hj:j<l.length):
 aQ AP.A 368 [.aD id 0 l.length 1,.int .i64 x,.int .i64 y] h=some (.bool (decide (xc rc (l.getD i 0)<xc rc (l.getD j 0))),h):=by subst hx;subst hy;exact ON z hi hj
theorem HN {h:H} {a id:Nat} {l:List Nat} {J:List AV} {rc:Nat→Tz} (z:Hz h a id l J rc) {i j:Nat} {x y:Int} (hx:x=i) (hy:y=j) (hi:i<l.length) (hj:j<l.length):
 aQ AP.A 369 [.aD id 0 l.length 1,.int .i64 x,.int .i64 y] h=some (.bL [],h.set id (wE (Bn l i j)++J)):=by subst hx;subst hy;exact O4 z hi hj
abbrev BB (a:Nat):AV:=.iface 1 (.aC a 0)
theorem D4 {h:H} {a n i:Nat} {i0:Int} (hn:n<100000) (hi:n≤2* i+1) (hi2:i<100000):
 aK (aQ AP.A) bq AP.f366L0 [(0,BB a),(1,.int .i64 i0),(2,.int .i64 n),(7,.int .i64 i)] h=some (.exit 0,[(0,BB a),(1,.int .i64 i0),(2,.int .i64 n),(7,.int .i64 i),(8,.int .i64 (2* (i:Int)+1)),(21,.bool true)],h):=by
 have c:(n:Int)≤2* (i:Int)+1:=by omega
 simp (disch:=omega)only[go_sem,vD,AP.f366L0,c]
theorem Hr {h : H} {a id : Nat} {l : List Nat} {J : List AV} {rc : Nat → Tz} (z : Hz h a id l J rc) {n i : Nat} {i0 : Int} (hn : n ≤ l.length) (hi : 2 * i + 1 < n) :
 (xc rc (l.getD (DM (xc rc) n i l) 0)<xc rc (l.getD i 0)→aK (aQ AP.A) bq AP.f366L0 [(0,BB a),(1,.int .i64 i0),(2,.int .i64 n),(7,.int .i64 i)] h=some (.normal,[(0,BB a),(1,.int .i64 i0),(2,.int .i64 n),(7,.int .i64 (DM (xc rc) n i l:Nat))],h.set id (wE (Bn l i (DM (xc rc) n i l))++J)))∧
 (¬xc rc (l.getD (DM (xc rc) n i l) 0)<xc rc (l.getD i 0)→aK (aQ AP.A) bq AP.f366L0 [(0,BB a),(1,.int .i64 i0),(2,.int .i64 n),(7,.int .i64 i)] h=some (.exit 0,[(0,BB a),(1,.int .i64 i0),(2,.int .i64 n),(7,.int .i64 i),(9,.int .i64 (DM (xc rc) n i l:Nat)),(39,.bool true)],h)):=by
 obtain⟨kr,kn⟩:=Cr (ky:=xc rc) (n:=n) (i:=i) (l:=l) hi
 have lb:=z.lb
 have c0:¬(n:Int)≤2* (i:Int)+1:=by omega
 have ga:=z.ga
 have key:∀x:Int,x=(DM (xc rc) n i l:Nat)→x<1000000→(2* (i:Int)+1+1<n→aQ AP.A 368 [.aD id 0 l.length 1,.int .i64 (2* (i:Int)+1+1),.int .i64 (2* (i:Int)+1)] h=some (.bool (decide (x=2* (i:Int)+1+1)),h))∧(¬2* (i:Int)+1+1<n→x=2* (i:Int)+1)∧(x=2* (i:Int)+1∨x=2* (i:Int)+1+1):=by
  intro x hx hx2
  refine⟨fun c=> ?_,fun c=>by omega,by omega⟩
  rw[HB z (i:=2* i+2) (j:=2* i+1) (by omega) (by omega) (by omega) (by omega)]
  congr 3
  have:DM (xc rc) n i l=2* i+2↔xc rc (l.getD (2* i+2) 0)<xc rc (l.getD (2* i+1) 0):=by
   unfold DM
   by_cases q:xc rc (l.getD (2* i+2) 0)<xc rc (l.getD (2* i+1) 0)
   · rw[if_pos ⟨by omega,q⟩];exact⟨fun _=>q,fun _=>rfl⟩
   · rw[if_neg (fun z=>q z.2)];exact⟨fun z=>by omega,fun z=>absurd z q⟩
  exact decide_eq_decide.2 (by rw[←this];omega)
 generalize hk:DM (xc rc) n i l=k at *
 obtain⟨k1,k2,k3⟩:=key k rfl (by omega)
 have lk:=HB z (x:=k) (y:=i) rfl rfl (by omega) (by omega)
 have sk:=HN z (x:=i) (y:=k) rfl rfl (by omega) (by omega)
 constructor
 · intro c
   rw[Si c]at lk
   by_cases c1:2* (i:Int)+1+1<n
   · have k1':=k1 c1
     rcases k3 with e|e
     · have e2:decide ((k:Int)=2* (i:Int)+1+1)=false:=Sf (by omega)
       rw[e2]at k1'
       rw[e]at lk sk ⊢
       clear z key k1 k2
       simp (disch:=omega)only[go_sem,vD,AP.f366L0,c0,c1,ga,k1',lk,sk]
     · have e2:decide ((k:Int)=2* (i:Int)+1+1)=true:=Si (by omega)
       rw[e2]at k1'
       rw[e]at lk sk ⊢
       clear z key k1 k2
       simp (disch:=omega)only[go_sem,vD,AP.f366L0,c0,c1,ga,k1',lk,sk]
   · rw[k2 c1]at lk sk ⊢
     clear z key k1 k2
     simp (disch:=omega)only[go_sem,vD,AP.f366L0,c0,c1,ga,lk,sk]
 · intro c
   rw[Sf c]at lk
   by_cases c1:2* (i:Int)+1+1<n
   · have k1':=k1 c1
     rcases k3 with e|e
     · have e2:decide ((k:Int)=2* (i:Int)+1+1)=false:=Sf (by omega)
       rw[e2]at k1'
       rw[e]at lk ⊢
       clear z key k1 k2 sk
       simp (disch:=omega)only[go_sem,vD,AP.f366L0,c0,c1,ga,k1',lk]
     · have e2:decide ((k:Int)=2* (i:Int)+1+1)=true:=Si (by omega)
       rw[e2]at k1'
       rw[e]at lk ⊢
       clear z key k1 k2 sk
       simp (disch:=omega)only[go_sem,vD,AP.f366L0,c0,c1,ga,k1',lk]
   · rw[k2 c1]at lk ⊢
     clear z key k1 k2 sk
     simp (disch:=omega)only[go_sem,vD,AP.f366L0,c0,c1,ga,lk]
theorem D5 {a id : Nat} {J : List AV} {rc : Nat → Tz} {n : Nat} {i0 : Int} : ∀ (f i : Nat) (l : List Nat) (h : H), Hz h a id l J rc → n ≤ l.length → n ≤ i + f → i < 100000 →
 ∃e' k,Lp AP.A [0,1,2,7] AP.f366L0 [(0,BB a),(1,.int .i64 i0),(2,.int .i64 n),(7,.int .i64 i)] h=some (.exit 0,e',h.set id (wE (sink (xc rc) n f i l)++J))∧look e' 1=.int .i64 i0∧look e' 7=.int .i64 k
 | 0, i, l, h, z, hn, hf, hi => by
   rw[sink,H.jv z.gi]
   exact⟨_,i,s6 (D4 (by have:=z.lb;omega) (by omega) hi),rfl,rfl⟩
 | f + 1, i, l, h, z, hn, hf, hi => by
   have lb:=z.lb
   rw[sink]
   by_cases c0:n≤2* i+1
   · rw[if_pos c0,H.jv z.gi]
     exact⟨_,i,s6 (D4 (by omega) c0 hi),rfl,rfl⟩
   · rw[if_neg c0]
     obtain⟨r1,r2⟩:=Hr z (i0:=i0) hn (show 2* i+1<n by omega)
     obtain⟨kr,kn⟩:=Cr (ky:=xc rc) (n:=n) (i:=i) (l:=l) (by omega)
     by_cases c1:xc rc (l.getD (DM (xc rc) n i l) 0)<xc rc (l.getD i 0)
     · rw[if_pos c1]
       have r1:=r1 c1
       generalize DM (xc rc) n i l=k at *
       have zs:=z.set (yV (l:=l) (i:=i) (j:=k) (by omega) (by omega))
       obtain⟨e',m,k1,k2,k3⟩:=D5 f k _ _ zs (by rw[ye];exact hn) (by omega) (by omega)
       rw[H.set_set]at k1
       exact⟨e',m,s7 r1 k1,k2,k3⟩
     · rw[if_neg c1,H.jv z.gi]
       exact⟨_,i,s6 (r2 c1),rfl,rfl⟩
theorem J5 {h:H} {a id:Nat} {l:List Nat} {J:List AV} {rc:Nat→Tz} (z:Hz h a id l J rc) {n i:Nat} (hn:n≤l.length) (hi:i<100000):
 ∃b,aQ AP.A 366 [BB a,.int .i64 i,.int .i64 n] h=some (.bool b,h.set id (wE (sink (xc rc) n n i l)++J)):=by
 obtain⟨e',k,L,e1,e7⟩:=D5 (i0:=i) n i l h z hn (by omega) hi
 refine⟨decide ((i:Int)<k),tz (fn:=AP.f366) (e:=[(6,.bool (decide ((i:Int)<k)))]) (vs:=[.bool (decide ((i:Int)<k))]) rfl rfl rfl ?_ rfl⟩
 simp (disch:=omega)only[go_sem,vD,AP.f366,rU,L,qV,rE,e1,e7]
theorem Ec {a id:Nat} {J:List AV} {rc:Nat→Tz} {n:Nat}:∀(i:Nat) (l:List Nat) (h:H),Hz h a id l J rc→l.length=n→i<100000→
 ∃e',Lp AP.A [0,2,3] AP.f362L0 [(0,BB a),(2,.int .i64 n),(3,.int .i64 ((i:Int)-1))] h=some (.exit 0,e',h.set id (wE (zE (ky:=xc rc) n i l)++J))
 | 0, l, h, z, hn, hi => by
   rw[zE,H.jv z.gi]
   refine⟨[(0,BB a),(2,.int .i64 n),(3,.int .i64 (-1)),(10,.bool false)],s6 ?_⟩
   have c:¬(0:Int)≤-1:=by omega
   show aK (aQ AP.A) bq AP.f362L0 [(0,BB a),(2,.int .i64 n),(3,.int .i64 (-1))] h=_
   simp (disch:=omega)only[go_sem,vD,AP.f362L0,c]
 | i + 1, l, h, z, hn, hi => by
   have lb:=z.lb
   obtain⟨b,k⟩:=J5 z (n:=n) (i:=i) (by omega) (by omega)
   have e0:((i+1:Nat):Int)-1=(i:Int):=by omega
   have c:(0:Int)≤(i:Int):=by omega
   have zs:=z.set (l':=sink (xc rc) n n i l) (EB (by omega))
   obtain⟨e',L⟩:=Ec (n:=n) i _ _ zs (by rw[Bj];exact hn) (by omega)
   rw[H.set_set]at L
   refine⟨e',s7 (e':=[(0,BB a),(2,.int .i64 n),(3,.int .i64 ((i:Int)-1))]) ?_ (by rw[zE];exact L)⟩
   rw[e0]
   simp (disch:=omega)only[go_sem,vD,AP.f362L0,c,k]
theorem Hv {n:Nat} (h:n<100000):bm .quo (.int .i64 (n:Int)) (.int .i64 2)=some (.int .i64 ((n/2:Nat):Int)):=by
 have e:=rK (k:=.i64) (a:=(n:Int)) (b:=2) (by omega)
 have:Int.tdiv (n:Int) 2=((n/2:Nat):Int):=yW n 2
 rw[e,this,wi (by omega)]
theorem LV {h:H} {a id:Nat} {l:List Nat} {J:List AV} {rc:Nat→Tz} (z:Hz h a id l J rc):
 aQ AP.A 362 [BB a] h=some (.bL [],h.set id (wE (zE (ky:=xc rc) l.length (l.length/2) l)++J)):=by
 have lb:=z.lb
 have ga:=z.ga
 have k:∀g:H,aQ AP.A 363 [.aD id 0 l.length 1] g=_:=fun g=>CU g id l.length
 obtain⟨e',L⟩:=Ec (n:=l.length) (l.length/2) l h z rfl (by omega)
 have q:=Hv lb
 refine v8 (fn:=AP.f362) (e:=[]) (vs:=[]) rfl rfl rfl ?_ rfl
 generalize wE (zE (ky:=xc rc) l.length (l.length/2) l)=P at *
 generalize l.length=n at *
 clear z
 simp (disch:=omega)only[go_sem,vD,AP.f362,ga,k,q,rU,L]
theorem QE {h:H} {a id:Nat} {l:List Nat} {t:Nat} {J:List AV} {rc:Nat→Tz} (z:Hz h a id (l++[t]) J rc):
 aQ AP.A 370 [.aC a 0] h=some (.iface 2 (.aC t 0),h.set a [.aD id 0 l.length 1])∧Hz (h.set a [.aD id 0 l.length 1]) a id l (.aC t 0::J) rc:=by
 have lb:=z.lb
 have ga:=z.ga
 have gi:=z.gi
 have fa:=z.fa
 have pt:=zM (J:=J) (show l.length<(l++[t]).length by simp)
 have gt:(l++[t]).getD l.length 0=t:=by simp
 rw[gt]at pt
 have eP:wE (l++[t])++J=wE l++(.aC t 0::J):=by simp [wE]
 constructor
 · have lP:l.length+1≤(wE (l++[t])++J).length:=by rw[vb,xV];simp
   rw[vb,SL]at lb ga
   generalize wE (l++[t])++J=P at *
   generalize l.length=n at *
   clear z eP gt
   have i1:fJ 1 (.aD id 0 (n+1) 1) (.int .i64 n)=some (.aC id n):=by simp [fJ,cI,nB,show(n:Int)<(n:Int)+1 by omega]
   have s1:rP h 1 (.aD id 0 (n+1) 1) none (some (.int .i64 n)) none=some (.aD id 0 n 1):=by
    have:=Mt (m:=n) (p:=id) (o:=0) (k:=n+1) gi (n:=1) (by omega) (by omega) ⟨by omega,by simp;omega⟩
    rw[show((n:Int)).toNat=n by omega]at this
    exact this
   have n1:((n+1:Nat):Int)-1=n:=by omega
   refine tz (fn:=AP.f370) (e:=[(2,.iface 2 (.aC t 0))]) (vs:=[.iface 2 (.aC t 0)]) rfl rfl rfl ?_ rfl
   simp (disch:=omega)only[go_sem,vD,AP.f370,ga,zt,n1,i1,gi,pt,s1]
 · refine⟨by rw[vA rfl,ga];rfl,by rw[vi (fun q=>z.ne q.symm),gi,eP],by simpa using fa,by simpa using z.fi,z.ne,fun x hx=> ?_,by simp at lb;omega⟩
   obtain⟨a1,a2,a3,sv,a4⟩:=z.tr x (by simp [hx])
   exact⟨a1,a2,a3,sv,by rw[vi a1];exact a4⟩
theorem Kl {h:H} {a id:Nat} {l:List Nat} {J:List AV} {rc:Nat→Tz} (z:Hz h a id l J rc) (h1:1≤l.length) (ho:Hg (xc rc) 0 l.length l):
 ∃t l' h',aQ AP.A 364 [BB a] h=some (.iface 2 (.aC t 0),h')∧Hz h' a id l' (.aC t 0::J) rc∧l.Perm (t::l')∧Hg (xc rc) 0 l'.length l'∧(∀x∈l',xc rc t≤xc rc x)∧h'.next=h.next∧h'.floor=h.floor∧∀i,i≠a→i≠id→h'.get i=h.get i:=by
 have lb:=z.lb
 have ga:=z.ga
 obtain⟨n,hn⟩:∃n,l.length=n+1:=⟨l.length-1,by omega⟩
 have k0:∀g:H,aQ AP.A 363 [.aD id 0 l.length 1] g=_:=fun g=>CU g id l.length
 have k1:=HN z (i:=0) (j:=n) (x:=0) (y:=n) rfl rfl (by omega) (by omega)
 have p1:=yV (l:=l) (i:=0) (j:=n) (by omega) (by omega)
 have z1:=z.set p1
 have z1a:=z1.ga
 have g:∀k,(Bn l 0 n).getD k 0=if k=n then l.getD 0 0 else if k=0 then l.getD n 0 else l.getD k 0:=fun k=>Fv (by omega) (by omega)
 have sl1:(Bn l 0 n).length=n+1:=by rw[ye];exact hn
 obtain⟨b,k2⟩:=J5 z1 (n:=n) (i:=0) (by omega) (by omega)
 obtain⟨s1,s2,s3⟩:=Fq (ky:=xc rc) (lo:=0) (n:=n) n 0 (Bn l 0 n) (by omega) (by omega) (by omega) ⟨fun c h0 hc hp hne=>by
  rw[g,g,if_neg (by omega),if_neg hne,if_neg (by omega),if_neg (by omega)]
  exact ho c h0 (by omega) (by omega),fun c h0 hc hp h1 h2=>by omega⟩
 have z2:=z1.set s2
 have sl2:(sink (xc rc) n n 0 (Bn l 0 n)).length=n+1:=by rw[Bj];exact sl1
 have e3:=s3 n (uM _)
 rw[g,if_pos rfl]at e3
 obtain⟨l',hl'⟩:∃l',l'=(sink (xc rc) n n 0 (Bn l 0 n)).take n:=⟨_,rfl⟩
 have ll':l'.length=n:=by rw[hl',SM,sl2];omega
 have eS:sink (xc rc) n n 0 (Bn l 0 n)=l'++[l.getD 0 0]:=by
  rw[hl',←e3]
  have:=List.take_append_drop n (sink (xc rc) n n 0 (Bn l 0 n))
  have e4:(sink (xc rc) n n 0 (Bn l 0 n)).drop n=[(sink (xc rc) n n 0 (Bn l 0 n)).getD n 0]:=by
   rw[List.drop_eq_getElem_cons (by omega),List.drop_eq_nil_of_le (by omega),Sb,Sd (by omega)];rfl
  rw[←e4,this]
 have gl:∀k,k<n→(l'++[l.getD 0 0]).getD k 0=l'.getD k 0:=fun k hk=>by
  rw[Sb,Sn (by omega),←Sb]
 rw[H.set_set]at k2 z2
 rw[eS]at s1 s2 z2 k2
 obtain⟨k3,z3⟩:=QE z2
 have pm:l.Perm (l.getD 0 0::l'):=(s2.trans p1).symm.trans List.perm_append_comm
 refine⟨l.getD 0 0,l',_, ?_,z3,pm, ?_, ?_,by simp,by simp,fun i h1 h2=>by rw[vi h1,vi h2]⟩
 · rw[ye]at z1a
   have gS:((h.set id (wE (Bn l 0 n)++J)).get a)=some [.aD id 0 l.length 1]:=by rw[z1a]
   have k2':aQ AP.A 366 [BB a,.int .i64 0,.int .i64 n] (h.set id (wE (Bn l 0 n)++J))=_:=k2
   have n1:(l.length:Int)-1=n:=by omega
   refine tz (fn:=AP.f364) (e:=[(2,.iface 2 (.aC (l.getD 0 0) 0))]) (vs:=[.iface 2 (.aC (l.getD 0 0) 0)]) rfl rfl rfl ?_ rfl
   generalize wE (Bn l 0 n)++J=P1 at *
   generalize wE (l'++[l.getD 0 0])++J=P2 at *
   generalize l.getD 0 0=t at *
   generalize l'.length=m at *
   generalize l.length=N at *
   clear z z1 z2 z3 g s1 s2 s3 ho
   simp (disch:=omega)only[go_sem,vD,AP.f364,ga,k0,n1,k1,k2',k3]
 · intro c h0 hc hp
   have:=s1 c h0 (by omega) (by omega)
   rw[gl _ (by omega),gl _ (by omega)]at this
   exact this
 · intro x hx
   have:x∈l:=pm.mem_iff.2 (SP _ hx)
   obtain⟨j,hj,ej⟩:=SN.1 this
   have:=Kk ho j hj
   rw[show l.getD j 0=x by rw[Sb,Sd hj,←ej];rfl]at this
   exact this
theorem Ih:bm .quo (.int .i64 (-1)) (.int .i64 2)=some (.int .i64 0):=by
 have e:=rK (k:=.i64) (a:= -1) (b:=2) (by omega)
 rw[e];rfl
theorem Md {a id : Nat} {J : List AV} {rc : Nat → Tz} : ∀ (f j : Nat) (l : List Nat) (h : H), Hz h a id l J rc → j < l.length → j ≤ f →
 ∃e',Lp AP.A [0,1] AP.f367L0 [(0,BB a),(1,.int .i64 j)] h=some (.exit 0,e',h.set id (wE (Dp (xc rc) f j l)++J)):=by
 intro f
 induction f with
 | zero =>
   intro j l h z hj hf
   obtain rfl:j=0:=by omega
   rw[Dp,H.jv z.gi]
   refine⟨[(0,BB a),(1,.int .i64 0),(4,.int .i64 0),(17,.bool true)],s6 ?_⟩
   show aK (aQ AP.A) bq AP.f367L0 [(0,BB a),(1,.int .i64 0)] h=_
   simp (disch:=omega)only[go_sem,vD,AP.f367L0,Ih]
 | succ f ih =>
   intro j l h z hj hf
   have lb:=z.lb
   have ga:=z.ga
   rw[Dp]
   by_cases c0:j=0
   · subst c0
     rw[if_pos rfl,H.jv z.gi]
     refine⟨[(0,BB a),(1,.int .i64 0),(4,.int .i64 0),(17,.bool true)],s6 ?_⟩
     show aK (aQ AP.A) bq AP.f367L0 [(0,BB a),(1,.int .i64 0)] h=_
     simp (disch:=omega)only[go_sem,vD,AP.f367L0,Ih]
   · rw[if_neg c0]
     obtain⟨p,hp⟩:∃p,p=(j-1)/2:=⟨_,rfl⟩
     have n1:(j:Int)-1=((j-1:Nat):Int):=by omega
     have q:=Hv (n:=j-1) (by omega)
     rw[←hp]at q ⊢
     have ls:=HB z (x:=j) (y:=p) rfl rfl (by omega) (by omega)
     have sw:=HN z (x:=p) (y:=j) rfl rfl (by omega) (by omega)
     have cb:((p:Int)==(j:Int))=false:=by simp;omega
     by_cases c1:xc rc (l.getD j 0)<xc rc (l.getD p 0)
     · rw[if_pos c1]
       rw[Si c1]at ls
       have zs:=z.set (yV (l:=l) (i:=p) (j:=j) (by omega) (by omega))
       obtain⟨e',L⟩:=ih p _ _ zs (by rw[ye];omega) (by omega)
       rw[H.set_set]at L
       refine⟨e',s7 (e':=[(0,BB a),(1,.int .i64 p)]) ?_ L⟩
       clear z zs ih
       simp (disch:=omega)only[go_sem,vD,AP.f367L0,n1,q,ga,ls,sw,cb]
     · rw[if_neg c1,H.jv z.gi]
       rw[Sf c1]at ls
       refine⟨[(0,BB a),(1,.int .i64 j),(4,.int .i64 p),(17,.bool true)],s6 ?_⟩
       clear z ih
       simp (disch:=omega)only[go_sem,vD,AP.f367L0,n1,q,ga,ls,cb]
theorem Q3 {h:H} {a id:Nat} {l:List Nat} {J:List AV} {rc:Nat→Tz} (z:Hz h a id l J rc) {j:Nat} (hj:j<l.length):
 aQ AP.A 367 [BB a,.int .i64 j] h=some (.bL [],h.set id (wE (Dp (xc rc) j j l)++J)):=by
 obtain⟨e',L⟩:=Md j j l h z hj (uM _)
 refine v8 (fn:=AP.f367) (e:=[]) (vs:=[]) rfl rfl rfl ?_ rfl
 simp (disch:=omega)only[go_sem,vD,AP.f367,rU,L]
theorem LW {h:H} {a id:Nat} {l:List Nat} {c:AV} {J:List AV} {rc:Nat→Tz} (z:Hz h a id l (c::J) rc) (ho:Hg (xc rc) 0 l.length l) {t:Nat} {sv:AV} (ht:t≠a∧t≠id) (hm:0≤(rc t).m∧(rc t).m<1000000) (gt:h.get t=some [.int .i64 (rc t).w,.int .i64 (rc t).m,sv]) (hlb:l.length+1<100000) (hfl:h.floor≤h.next):
 ∃l' h',aQ AP.A 365 [BB a,.iface 2 (.aC t 0)] h=some (.bL [],h')∧Hz h' a id l' J rc∧l'.Perm (t::l)∧Hg (xc rc) 0 l'.length l'∧h'.next=h.next+1∧h'.floor=h.floor∧∀i,i<h.next→i≠a→i≠id→h'.get i=h.get i:=by
 have lb:=z.lb
 have ga:=z.ga
 have gi:=z.gi
 have fa:=z.fa
 have fi:=z.fi
 have ne:=z.ne
 have la:=h.lt _ _ ga
 have li:=h.lt _ _ gi
 have lt:=h.lt _ _ gt
 have eP:(wE l++c::J).set l.length (.aC t 0)=wE (l++[t])++J:=by
  rw[List.set_append_right _ _ (by rw[xV];exact uM _),xV,Nat.sub_self];simp [wE]
 have lP:l.length+1≤(wE l++c::J).length:=by rw[vb,xV];simp
 obtain⟨h1,eh1⟩:∃g,g=((h.alloc [.aC t 0]).set id (wE (l++[t])++J)).set a [.aD id 0 (l.length+1) 1]:=⟨_,rfl⟩
 have k1:aQ AP.A 371 [.aC a 0,.iface 2 (.aC t 0)] h=some (.bL [],h1):=by
  rw[eh1,←eP]
  refine v8 (fn:=AP.f371) (e:=[]) (vs:=[]) rfl rfl rfl ?_ rfl
  have gi1:(h.alloc [.aC t 0]).get id=some (wE l++c::J):=by rw[vu (by omega),gi]
  generalize wE l++c::J=P at *
  generalize l.length=n at *
  clear z ho eP eh1
  simp (disch:=first|omega|(simp only[wT,Sc,Se,uR,Nat.reduceAdd];first|done|omega|fail)|(simp (disch:=first|omega|(simp only[wT,Sc,Se,uR,Nat.reduceAdd];first|done|omega|fail)|fail)only[wT,Cm,Sg,Sc,Se,uR,Nat.reduceAdd];done)|fail)only[go_sem,vD,Ck,AP.f371,ga,gi,lP]
 have z1:Hz h1 a id (l++[t]) J rc:=by
  rw[eh1]
  refine⟨by rw[vA rfl,vi ne,vu (by omega),ga];simp,by rw[vi (Ne.symm ne),vA rfl,vu (by omega),gi];rfl,by simpa using fa,by simpa using fi,ne,fun x hx=> ?_,by simp;omega⟩
  rcases SH.1 hx with q|q
  · obtain⟨a1,a2,a3,s,a4⟩:=z.tr x q
    have:=h.lt _ _ a4
    exact⟨a1,a2,a3,s,by rw[vi a1,vi a2,vu (by omega),a4]⟩
  · obtain rfl:=List.mem_singleton.1 q
    exact⟨ht.1,ht.2,hm,sv,by rw[vi ht.1,vi ht.2,vu (by omega),gt]⟩
 have k2:=CU h1 id (l.length+1)
 have k3:=Q3 z1 (j:=l.length) (by simp)
 obtain⟨r1,r2⟩:=IA (ky:=xc rc) (n:=l.length+1) l.length l.length (l++[t]) (uM _) (by omega) (by simp) ⟨fun x h0 hx hne=>by
  have hl:x<l.length:=by omega
  have:=ho x h0 hl (by omega)
  rw[Sb,Sb,Sn (by omega),Sn hl,←Sb,←Sb]
  exact this,fun x h0 hx hp h1=>by omega⟩
 have z2:=z1.set r2
 have g1:=z1.ga
 rw[vb,SL]at g1
 refine⟨_,_, ?_,z2,r2.trans List.perm_append_comm,by rw[GP];simpa using r1,by rw[eh1];simp,by rw[eh1];simp,fun i hi h2 h3=>by rw[vi h3,eh1,vi h2,vi h3,vu (by omega)]⟩
 refine v8 (fn:=AP.f365) (e:=[]) (vs:=[]) rfl rfl rfl ?_ rfl
 have n1:((l.length+1:Nat):Int)-1=l.length:=by omega
 generalize wE (Dp (xc rc) l.length l.length (l++[t]))++J=P2 at *
 generalize l.length=n at *
 clear z z1 z2 ho r1 r2 eP
 simp (disch:=omega)only[go_sem,vD,AP.f365,k1,g1,k2,n1,k3]
theorem AD:∀(p q:List Int) (i:Nat),vp i (p++q)=vp i p++vp (i+p.length) q
 |[],q,i=>by simp [vp]
 | c :: p, q, i => by
   rw[List.cons_append,vp,vp,AD p q (i+1),Sc,show i+1+p.length=i+(p.length+1)by omega]
   split<;>rfl
theorem BU:∀(p q:List Int),vq (p++q)=vq p++vq q
 |[],q=>by simp [vq]
 | c :: p, q => by
   rw[List.cons_append,vq,vq,BU p q]
   split<;>rfl
structure Bt (hb h:H) (a o N:Nat) (p:List Int) (l:List Nat) (av:AV):Prop where
 ext:Ext hb h
 fl:h.floor=hb.next
 JH:h.floor≤h.next
 ga:h.get a=some [av]
 fa:hb.next≤a
 go:h.get o=some (ints (List.replicate N 0))
 fo:hb.next≤o
 QL:a≠o
 own:wm 1 h av l.length (wE l)
 nv:∀j,av.id?=some j→j≠a∧j≠o
 ll:l.length=(vq p).length
 nd:l.Nodup
 tr:∀i,i<l.length→∃sid,h.get (l.getD i 0)=some [.int .i64 ((vq p).getD i 0),.int .i64 ((vp 0 p).getD i 0),.aD sid 0 1 1]∧h.get sid=some [.int .i64 ((vp 0 p).getD i 0)]∧(l.getD i 0≠a∧l.getD i 0≠o∧av.id?≠some (l.getD i 0))∧(sid≠a∧sid≠o∧av.id?≠some sid)
theorem Bz {α:Type} {l m:List α} {i:Nat} {d:α} (h:i<l.length):(l++m).getD i d=l.getD i d:=by
 rw[Sb,Sn h,←Sb]
theorem Bx {α:Type} {l:List α} {x d:α}:(l++[x]).getD l.length d=x:=by
 rw[Sb,So (uM _)];simp
theorem Af {hb : H} {x : AV} {C : List Int} {a o : Nat} (hC : C.length < 1000) (rd : Rd hb x (ints C)) (pos : ∀ y ∈ C, 0 ≤ y) : ∀ (q p : List Int) (l : List Nat) (av : AV) (h : H), C = p ++ q → Bt hb h a o C.length p l av →
 ∃l' av' h',Lp AP.A [0,3,4,16,17,18] AP.f359L2 [(0,x),(3,.aD o 0 C.length 1),(4,.aC a 0),(16,x),(17,.int .i64 C.length),(18,.int .i64 p.length)] h=some (.exit 0,[(0,x),(3,.aD o 0 C.length 1),(4,.aC a 0),(16,x),(17,.int .i64 C.length),(18,.int .i64 C.length),(19,.bool false)],h')∧Bt hb h' a o C.length C l' av'
 | [], p, l, av, h, hp, b => by
   rw[Sw]at hp;subst hp
   refine⟨l,av,h,s6 ?_,b⟩
   simp (disch:=omega)only[go_sem,vD,AP.f359L2]
 | y :: q, p, l, av, h, hp, b => by
   have hl:C.length=p.length+(q.length+1):=by rw[hp];simp
   obtain⟨ad,a1,a2⟩:=rd.xu
   have b1:=a1 p.length ⟨by omega,by omega⟩
   have hyC:C[p.length]?=some y:=by rw[hp];simp
   have b2:=a2 h b.ext p.length y hyC
   have yr:=pos y (uQ hyC)
   have n2:(p++[y]).length=p.length+1:=by simp
   have c1:((p.length:Nat):Int)<C.length:=by omega
   by_cases c:0<y
   · have ga:=b.ga
     have la:=h.lt _ _ ga
     have lo:=h.lt _ _ b.go
     have fl:=b.fl
     have fa:=b.fa
     have fo:=b.fo
     obtain⟨g,eg⟩:∃g,g=(h.alloc [.int .i64 p.length]).alloc [.int .i64 y,.int .i64 p.length,.aD h.next 0 1 1]:=⟨_,rfl⟩
     have gl:∀i,i<h.next→g.get i=h.get i:=fun i hi=>by rw[eg,vu (by simp;omega),vu (by omega)]
     have gn:g.next=h.next+2:=by rw[eg];simp
     have gf:g.floor=h.floor:=by rw[eg];simp
     have owng:wm 1 g av l.length (wE l):=b.own.mono gf fun i hi=>gl i (b.own.lt hi).2
     have bfl:=b.JH
     have ll:=b.ll
     have wl:(vq p).length≤p.length:=by rw[←vP 0 p];exact wI 0 p
     obtain⟨v1,h1,p1,p2,p3,p4,p5,p6⟩:=owng.push (by omega) (z:=8) (m:=1) (by omega) (by omega) [.aC (h.next+1) 0] rfl rfl (zW (by omega))
     rw[gn]at p1 p4 p5 p6
     have avlt:∀j,av.id?=some j→j<h.next:=fun j hj=>(b.own.lt hj).2
     have hav:∀i,h.next≤i→av.id?≠some i:=fun i hi q=>by have:=avlt i q;omega
     have k1:∀i,i<h.next+2→av.id?≠some i→h1.get i=g.get i:=fun i hi hne=>p5 i hne hi
     have ga1:h1.get a=some [av]:=by rw[k1 a (by omega) (fun q=>(b.nv _ q).1 rfl),gl a la,ga]
     have gt1:h1.get (h.next+1)=some [.int .i64 y,.int .i64 p.length,.aD h.next 0 1 1]:=by
      rw[k1 _ (by omega) (hav _ (by omega)),eg,vx (by simp)]
     have gs1:h1.get h.next=some [.int .i64 p.length]:=by
      rw[k1 _ (by omega) (hav _ (by omega)),eg,vu (by simp),vx rfl]
     have S1:vp 0 (p++[y])=vp 0 p++[((p.length:Nat):Int)]:=by rw[AD,uR,vp,if_pos c];rfl
     have W1:vq (p++[y])=vq p++[y]:=by rw[BU,vq,if_pos c];rfl
     have sl:=vP 0 p
     have vid:v1.id?=some (h.next+3):=p6
     have nb:Bt hb (h1.set a [v1]) a o C.length (p++[y]) (l++[h.next+1]) v1:=by
      refine⟨fun i d hi=> ?_,by simp;omega,by simp;omega,by rw[vA rfl,ga1];rfl,fa, ?_,fo,b.QL, ?_,fun j hj=> ?_, ?_, ?_,fun i hi=> ?_⟩
      · have:=hb.lt _ _ hi
        have hi2:=b.ext i d hi
        have:=h.lt _ _ hi2
        rw[vi (by omega),k1 i (by omega) (fun q=>by have:=(b.own.lt q).1;omega),gl i (by omega),hi2]
      · rw[vi (Ne.symm b.QL),k1 o (by omega) (fun q=>(b.nv _ q).2 rfl),gl o lo,b.go]
      · have:wm 1 (h1.set a [v1]) v1 (l.length+1) (wE l++[.aC (h.next+1) 0]):=p2.mono (by simp) fun j hj=>by
         rw[vid]at hj
         have:=uC hj
         rw[vi (by omega)]
        simpa [wE]using this
      · rw[vid]at hj
        have:=uC hj
        exact⟨by omega,by omega⟩
      · rw[W1];simp [ll]
      · rw[List.nodup_append]
        refine⟨b.nd,by simp,fun u hu w hw=> ?_⟩
        obtain rfl:=List.mem_singleton.1 hw
        obtain⟨j,hj,ej⟩:=SN.1 hu
        obtain⟨sid,t1,_⟩:=b.tr j hj
        rw[show l.getD j 0=u by rw[Sb,Sd hj,←ej];rfl]at t1
        have:=h.lt _ _ t1
        omega
      · rw[vb,SL]at hi
        by_cases e:i<l.length
        · obtain⟨sid,t1,t2,⟨t3,t4,t5⟩,t6,t7,t8⟩:=b.tr i e
          have l1:=h.lt _ _ t1
          have l2:=h.lt _ _ t2
          rw[Bz e,W1,S1,Bz (by omega),Bz (by omega)]
          refine⟨sid,by rw[vi t3,k1 _ (by omega) t5,gl _ l1,t1],by rw[vi t6,k1 _ (by omega) t8,gl _ l2,t2],⟨t3,t4,fun z=> ?_⟩,t6,t7,fun z=> ?_⟩
          · rw[vid]at z;have:=uC z;omega
          · rw[vid]at z;have:=uC z;omega
        · obtain rfl:i=l.length:=by omega
          rw[Bx,W1,S1]
          have e1:(vq p++[y]).getD l.length 0=y:=by rw[ll];exact Bx
          have e2:(vp 0 p++[((p.length:Nat):Int)]).getD l.length 0=p.length:=by rw[ll,←sl];exact Bx
          rw[e1,e2]
          refine⟨h.next,by rw[vi (by omega),gt1],by rw[vi (by omega),gs1],⟨by omega,by omega,fun z=> ?_⟩,by omega,by omega,fun z=> ?_⟩
          · rw[vid]at z;have:=uC z;omega
          · rw[vid]at z;have:=uC z;omega
     obtain⟨l',av',h',L,nb'⟩:=Af hC rd pos q (p++[y]) _ _ _ (by rw[hp];simp) nb
     refine⟨l',av',h',s7 ?_ L,nb'⟩
     have hfa:h1.floor≤a:=by omega
     have e3:(((p++[y]).length:Nat):Int)=(p.length:Int)+1:=by simp
     rw[e3]
     have vs:v1.sc=true:=p2.sc
     have vc:v1.cells=[v1]:=p2.cells
     rw[eg]at p1
     clear nb nb' rd b owng p2 L k1 gl gn gf eg S1 W1 hyC
     simp (disch:=omega)only[go_sem,vD,AP.f359L2,c1,b1,b2,c,ga,vx,vu,p1,ga1,hfa,vs,vc]
   · have S1:vp 0 (p++[y])=vp 0 p:=by rw[AD,vp,if_neg c];simp [vp]
     have W1:vq (p++[y])=vq p:=by rw[BU,vq,if_neg c];simp [vq]
     have nb:Bt hb h a o C.length (p++[y]) l av:=⟨b.ext,b.fl,b.JH,b.ga,b.fa,b.go,b.fo,b.QL,b.own,b.nv,by rw[W1];exact b.ll,b.nd,fun i hi=>by rw[W1,S1];exact b.tr i hi⟩
     obtain⟨l',av',h',L,nb'⟩:=Af hC rd pos q (p++[y]) _ _ _ (by rw[hp];simp) nb
     refine⟨l',av',h',s7 ?_ L,nb'⟩
     have e3:(((p++[y]).length:Nat):Int)=(p.length:Int)+1:=by simp
     rw[e3]
     clear nb nb' rd b L S1 W1 hyC
     simp (disch:=omega)only[go_sem,vD,AP.f359L2,c1,b1,b2,c]
theorem Hz.congr {h:H} {a id:Nat} {l:List Nat} {J:List AV} {rc rc':Nat→Tz} (z:Hz h a id l J rc) (e:∀x∈l,rc' x=rc x):Hz h a id l J rc':=
 ⟨z.ga,z.gi,z.fa,z.fi,z.ne,fun t ht=>by rw[e t ht];exact z.tr t ht,z.lb⟩
theorem Hz.mono {h g:H} {a id:Nat} {l:List Nat} {J:List AV} {rc:Nat→Tz} (z:Hz h a id l J rc) (hf:g.floor=h.floor) (hg:∀i,(i=a∨i=id∨i∈l)→g.get i=h.get i):Hz g a id l J rc:=
 ⟨by rw[hg a (.inl rfl)];exact z.ga,by rw[hg id (.inr (.inl rfl))];exact z.gi,by rw[hf];exact z.fa,by rw[hf];exact z.fi,z.ne,fun t ht=>by rw[hg t (.inr (.inr ht))];exact z.tr t ht,z.lb⟩
theorem Hg.congr {rc rc':Nat→Tz} {l:List Nat} (o:Hg (xc rc) 0 l.length l) (e:∀x∈l,rc' x=rc x):Hg (xc rc') 0 l.length l:=fun c h0 hc hp=>by
 have:=o c h0 hc hp
 have m1:=e _ (zD (l:=l) (i:=c) hc)
 have m2:=e _ (zD (l:=l) (i:=(c-1)/2) (by omega))
 unfold xc at this ⊢
 rw[m1,m2];exact this
theorem Rd.vY {h g:H} {v:AV} {cs:List AV} (r:Rd h v cs) (hg:∀j,v.id?=some j→g.get j=h.get j):Rd g v cs:=by
 refine⟨?_,r.2⟩
 have:=r.1
 cases v with
 | aD id off len s =>
   simp only[aR]at this ⊢
   rw[hg id rfl];exact this
 |_=>exact this
structure Mz (hb h:H) (a id o n N:Nat) (J:List AV) (l:List Nat) (rc:Nat→Tz) (O:List Int):Prop where
 z:Hz h a id l J rc
 ext:Ext hb h
 fl:h.floor=hb.next
 JH:h.floor≤h.next
 la:hb.next≤a
 li:hb.next≤id
 lo:hb.next≤o
 go:h.get o=some (ints O)
 no:o≠a∧o≠id
 ol:O.length=N
 ob:∀y∈O,0≤y∧y≤((1000* (n-l.length):Nat):Int)
 tr:∀t∈l,t≠o∧∃sv,h.get t=some [.int .i64 (rc t).w,.int .i64 (rc t).m,sv]∧Rd h sv (ints (rc t).L)∧sv.sc=true∧sv.cells=[sv]∧∀j,sv.id?=some j→j≠a∧j≠id∧j≠o
 wb:∀t∈l,0≤(rc t).w∧(rc t).w<1000000000000000
theorem Ge:∀(L O:List Int) (B:Int),(∀y∈O,0≤y∧y≤B)→0≤B→∀y∈BC O L,0≤y∧y≤B+L.length
 |[],O,B,h,hB,y,hy=>by have:=h y hy;simp;exact this
 | s :: r, O, B, h, hB, y, hy => by
   rw[BC]at hy
   have:=Ge r _ (B+1) (yQ h hB) (by omega) y hy
   rw[Sc];omega
theorem Gd {a o t N:Nat} {made:Int} {sv:AV} {L:List Int} (h0:H) (rd:Rd h0 sv (ints L)) (hL:L.length<100000) (hr:∀s∈L,0≤s∧s<N) (hN:N<100000):∀(q p:List Int) (O:List Int) (B:Int) (h:H),L=p++q→Ext h0 h→h0.get o=none→h.get o=some (ints O)→h.floor≤o→O.length=N→(∀y∈O,0≤y∧y≤B)→0≤B→B+q.length<1000000000→
 ∃h',Lp AP.A [3,4,7,10,75,76,77] AP.f359L0 [(3,.aD o 0 N 1),(4,.aC a 0),(7,.int .i64 made),(10,.aC t 0),(75,sv),(76,.int .i64 L.length),(77,.int .i64 p.length)] h=some (.exit 4,[(3,.aD o 0 N 1),(4,.aC a 0),(7,.int .i64 made),(10,.aC t 0),(75,sv),(76,.int .i64 L.length),(77,.int .i64 L.length),(78,.bool false)],h')∧h'.get o=some (ints (BC O q))∧h'.floor=h.floor∧h'.next=h.next∧∀i,i≠o→h'.get i=h.get i
 | [], p, O, B, h, hp, hx, hn, go, fo, hO, ob, hB, hb => by
   rw[Sw]at hp;subst hp
   refine⟨h,s6 ?_,go,rfl,rfl,fun _ _=>rfl⟩
   simp (disch:=omega)only[go_sem,vD,AP.f359L0]
 | s :: q, p, O, B, h, hp, hx, hn, go, fo, hO, ob, hB, hb => by
   have hl:L.length=p.length+(q.length+1):=by rw[hp];simp
   obtain⟨ad,a1,a2⟩:=rd.xu
   have b1:=a1 p.length ⟨by omega,by omega⟩
   have hyC:L[p.length]?=some s:=by rw[hp];simp
   have b2:=a2 h hx p.length s hyC
   have sr:=hr s (uQ hyC)
   have c1:((p.length:Nat):Int)<L.length:=by omega
   have sO:s.toNat<O.length:=by omega
   have gs:=AZ sO
   have ib:cI (.int .i64 s) N=some s.toNat:=by
    simp [cI,nB,sr]
   have yb:=ob (O.getD s.toNat 0) (by rw[Sb,Sd sO];exact Su _)
   have st:=yo O s.toNat (O.getD s.toNat 0+1)
   have lO:(ints O).length=O.length:=by rw[pF]
   obtain⟨h',L1,g1,f1,n1,k1⟩:=Gd h0 rd hL hr hN q (p++[s]) (wV O s.toNat) (B+1) (h.set o (ints (wV O s.toNat))) (by rw[hp];simp) (hx.IC hn _) hn (by rw[vA rfl,go];rfl) (by simpa using fo) (by rw[xm];exact hO) (yQ ob hB) (by omega) (by simp at hb;omega)
   refine⟨h',s7 ?_ L1,by rw[BC];exact g1,by rw[f1];simp,by rw[n1];simp,fun i hi=>by rw[k1 i hi,vi hi]⟩
   have e3:(((p++[s]).length:Nat):Int)=(p.length:Int)+1:=by simp
   rw[e3]
   unfold wV
   rw[←st]
   rw[hO]at lO sO
   generalize ints O=P at *
   generalize O.getD s.toNat 0=y at *
   generalize s.toNat=k at *
   clear rd L1 ob hr a1 a2 hyC st g1 k1 hx
   simp (disch:=omega)only[go_sem,vD,AP.f359L0,c1,b1,b2,ib,go,gs,fo]
theorem HD {hb h : H} {a id o n N : Nat} {J : List AV} {l : List Nat} {rc : Nat → Tz} {O : List Int} {tr : Nat → Tr} {tot : Int} {S : List Int} {G s : FS} (v : Mz hb h a id o n N J l rc O) (sm : Fx n N tot S G s rc tr l O) (ho : Hg (xc rc) 0 l.length l) (h2 : 2 ≤ l.length) (hn : n ≤ 1000) (hN : N ≤ 1000) (ht : tot < 1000000000000000) :
 ∃h' J' l' rc' tr' s' O',aK (aQ AP.A) bq AP.f359L1 [(3,.aD o 0 N 1),(4,.aC a 0),(7,.int .i64 (N+(n-l.length):Nat))] h=some (.normal,[(3,.aD o 0 N 1),(4,.aC a 0),(7,.int .i64 (N+(n-l'.length):Nat))],h')∧Mz hb h' a id o n N J' l' rc' O'∧Fx n N tot S G s' rc' tr' l' O'∧Hg (xc rc') 0 l'.length l'∧l'.length+1=l.length:=by
 have ga:=v.z.ga
 have lb:=v.z.lb
 have ll:=sm.ll
 obtain⟨ta,l1,h1,k1,z1,pm1,ho1,le1,n1,f1,kp1⟩:=Kl v.z (by omega) ho
 have pl1:=pm1.length_eq
 rw[Sc]at pl1
 obtain⟨tb,l2,h2',k2,z2,pm2,ho2,le2,n2,f2,kp2⟩:=Kl z1 (by omega) ho1
 have pl2:=pm2.length_eq
 rw[Sc]at pl2
 have pm:l.Perm (ta::tb::l2):=pm1.trans (pm2.cons ta)
 have sm1:=sm.perm pm
 have kp:∀i,i≠a→i≠id→h2'.get i=h.get i:=fun i q1 q2=>by rw[kp2 i q1 q2,kp1 i q1 q2]
 have tm:∀x∈ta::tb::l2,x∈l:=fun x hx=>pm.mem_iff.2 hx
 have T:∀x∈l,x≠a∧x≠id∧x≠o∧x<h.next∧∃sv,h2'.get x=some [.int .i64 (rc x).w,.int .i64 (rc x).m,sv]∧Rd h2' sv (ints (rc x).L)∧sv.sc=true∧sv.cells=[sv]∧∀j,sv.id?=some j→j≠a∧j≠id∧j≠o:=fun x hx=>by
  obtain⟨a1,a2,_,_⟩:=v.z.tr x hx
  obtain⟨a3,sv,g1,g2,g3,g4,g5⟩:=v.tr x hx
  exact⟨a1,a2,a3,h.lt _ _ g1,sv,by rw[kp x a1 a2,g1],g2.vY fun j hj=>kp j (g5 j hj).1 (g5 j hj).2.1,g3,g4,g5⟩
 obtain⟨ta1,ta2,ta3,ta4,sva,ga1,ga2,ga3,ga4,ga5⟩:=T ta (tm _ (by simp))
 obtain⟨tb1,tb2,tb3,tb4,svb,gb1,gb2,gb3,gb4,gb5⟩:=T tb (tm _ (by simp))
 have wa:=v.wb ta (tm _ (by simp))
 have wb:=v.wb tb (tm _ (by simp))
 have nx:h2'.next=h.next:=by rw[n2,n1]
 obtain⟨t,et⟩:∃t,t=h2'.next+1:=⟨_,rfl⟩
 obtain⟨rc',erc⟩:∃r:Nat→Tz,r=fun x=>if x=t then⟨(rc ta).w+(rc tb).w,((N+(n-(l2.length+2)):Nat):Int),(rc ta).L++(rc tb).L⟩else rc x:=⟨_,rfl⟩
 have fr:∀x∈l2,x≠t:=fun x hx=>by
  obtain⟨_,_,_,q,_⟩:=T x (tm x (by simp [hx]))
  omega
 have rct:rc' t=⟨(rc ta).w+(rc tb).w,((N+(n-(l2.length+2)):Nat):Int),(rc ta).L++(rc tb).L⟩:=by rw[erc];exact if_pos rfl
 have rco:∀x∈l2,rc' x=rc x:=fun x hx=>by rw[erc];exact if_neg (fr x hx)
 obtain⟨sm2,rL,cL,pL⟩:=sm1.step hn hN ht (rc':=rc') (t:=t) (fun x hx=>le1 x (pm2.mem_iff.2 hx)) (fun x hx=>le2 x hx) fr rco rct
 obtain⟨L,eL⟩:∃L,L=(rc ta).L++(rc tb).L:=⟨_,rfl⟩
 rw[←eL]at rct sm2 rL cL pL
 have xa:Ext h2' (h2'.alloc [sva,svb]):=(Ext.refl _).alloc _
 have k3:aQ AP.A 62 [.aD h2'.next 0 2 1] (h2'.alloc [sva,svb])=some (v9 L,h2'.alloc [sva,svb]):=by
  have r1:Rd (h2'.alloc [sva,svb]) (.aD h2'.next 0 2 1) ([(sva,(rc ta).L),(svb,(rc tb).L)].map (·.1)):=⟨by simp [aR,vx],by intro s e;cases e⟩
  have e:cat [(sva,(rc ta).L),(svb,(rc tb).L)]=L:=by rw[eL];simp [cat]
  have:=CK (h2'.alloc [sva,svb]) (.aD h2'.next 0 2 1) [(sva,(rc ta).L),(svb,(rc tb).L)] r1 (fun p hp=>by
   simp at hp
   rcases hp with rfl|rfl
   · exact ga2.mono fun i c q=>xa i c q
   · exact gb2.mono fun i c q=>xa i c q) (by rw[e];omega) (by simp) (by rw[e];exact pL)
  rw[e]at this;exact this
 obtain⟨h4,eh4⟩:∃g,g=(h2'.alloc [sva,svb]).alloc [.int .i64 ((rc ta).w+(rc tb).w),.int .i64 (N+(n-l.length):Nat),v9 L]:=⟨_,rfl⟩
 have gt4:h4.get t=some [.int .i64 ((rc ta).w+(rc tb).w),.int .i64 (N+(n-l.length):Nat),v9 L]:=by rw[eh4,et,vx (by simp)]
 have n4:h4.next=h.next+2:=by rw[eh4];simp;omega
 have f4:h4.floor=h.floor:=by rw[eh4];simp;omega
 have kp4:∀i,i<h.next→h4.get i=h2'.get i:=fun i hi=>by rw[eh4,vu (by simp;omega),vu (by omega)]
 have lo:=h.lt _ _ v.go
 have la:=h.lt _ _ ga
 have li:=h.lt _ _ v.z.gi
 have go4:h4.get o=some (ints O):=by rw[kp4 o lo,kp o v.no.1 v.no.2,v.go]
 have ln:iV false (v9 L)=some (.int .i64 L.length):=rfl
 have rdL:Rd H.empty (v9 L) (ints L):=xZ _ _
 have fl:=v.fl
 have vlo:=v.lo
 obtain⟨h5,L5,g5,f5,n5,kp5⟩:=Gd (a:=a) (t:=t) (made:=(N+(n-l.length):Nat)) (N:=N) H.empty rdL (by omega) rL (by omega) L [] O ((1000* (n-l.length):Nat):Int) h4 rfl (fun i c q=>by simp [H.empty,H.get]at q) (by simp [H.empty,H.get]) go4 (by omega) v.ol v.ob (by omega) (by omega)
 have gt5:h5.get t=some [.int .i64 (rc' t).w,.int .i64 (rc' t).m,v9 L]:=by
  rw[kp5 t (by omega),gt4,rct,show l.length=l2.length+2 by omega]
 have z2':Hz h5 a id l2 (.aC tb 0:: .aC ta 0::J) rc':=by
  refine(z2.mono (by omega) fun i hi=> ?_).congr rco
  have:i<h.next∧i≠o:=by
   rcases hi with rfl|rfl|hi
   · exact⟨la,v.no.1.symm⟩
   · exact⟨li,v.no.2.symm⟩
   · obtain⟨_,_,q1,q2,_⟩:=T i (tm i (by simp [hi]))
     exact⟨q2,q1⟩
  rw[kp5 i this.2,kp4 i this.1]
 have JH:=v.JH
 obtain⟨l',h6,k6,z6,pm6,ho6,n6,f6,kp6⟩:=LW z2' (ho2.congr rco) (t:=t) (sv:=v9 L) ⟨by omega,by omega⟩ (by rw[rct];exact⟨by show(0:Int)≤((_:Nat):Int);omega,by show((_:Nat):Int)<1000000;omega⟩) gt5 (by omega) (by omega)
 have pl6:=pm6.length_eq
 rw[Sc]at pl6
 have kpo:∀i,i<h.next→i≠a→i≠id→i≠o→h6.get i=h.get i:=fun i q1 q2 q3 q4=>by rw[kp6 i (by omega) q2 q3,kp5 i q4,kp4 i q1,kp i q2 q3]
 refine⟨h6,_,l',rc',_,_,BC O L, ?_,⟨z6,fun i c hi=> ?_,by omega,by omega,v.la,v.li,v.lo, ?_,v.no,by rw[CY];exact v.ol, ?_,fun x hx=> ?_,fun x hx=> ?_⟩,sm2.perm pm6.symm,ho6,by omega⟩
 · have c:(1:Int)<l.length:=by omega
   have k0:∀g:H,aQ AP.A 363 [.aD id 0 l.length 1] g=_:=fun g=>CU g id l.length
   have em:((N+(n-l'.length):Nat):Int)=((N+(n-l.length):Nat):Int)+1:=by omega
   have lms:((([]:List Int).length:Nat):Int)=0:=rfl
   rw[lms]at L5
   rw[em]
   have mb:((N+(n-l.length):Nat):Int)<1000000:=by omega
   have ga4':=(kp4 ta ta4).trans ga1
   have gb4':=(kp4 tb tb4).trans gb1
   have im1:(v9 L).sc=true:=rfl
   have im2:(v9 L).cells=[v9 L]:=rfl
   generalize ((N+(n-l.length):Nat):Int)=made at *
   generalize (rc ta).w=A1 at *
   generalize (rc ta).m=A2 at *
   generalize (rc tb).w=B1 at *
   generalize (rc tb).m=B2 at *
   generalize v9 L=iL at *
   generalize L.length=LL at *
   rw[et]at k6 L5 gt4
   clear v sm z1 z2 z2' z6 pm1 ho ho1 ho2 ho6 le1 le2 pm2 pm sm1 kp tm T fr rco rct sm2 rL xa eL kp4 kp5 kp6 kpo gt5 go4 g5 rdL erc
   simp (disch:=first|omega|(simp only[wT,Sc,Se,uR,Nat.reduceAdd,ga1,gb1];first|done|omega|fail)|(simp (disch:=first|omega|(simp only[wT,Sc,Se,uR,Nat.reduceAdd,ga1,gb1];first|done|omega|fail)|fail)only[wT,Cm,Sg,Sc,Se,uR,Nat.reduceAdd,ga1,gb1];done)|fail)only[go_sem,vD,Ck,AP.f359L1,ga,k0,c,k1,k2,ga1,gb1,k3,←eh4,gt4,ga4',gb4',ln,rU,L5,k6,ga3,ga4,gb3,gb4,im1,im2]
 · have:=hb.lt _ _ hi
   have e:=v.ext i c hi
   have:=h.lt _ _ e
   have:=v.la
   have:=v.li
   rw[kpo i (by omega) (by omega) (by omega) (by omega),e]
 · rw[kp6 o (by omega) v.no.1 v.no.2,g5]
 · intro y hy
   have:=Ge L O _ v.ob (by omega) y hy
   omega
 · rcases u6.1 (pm6.mem_iff.1 hx)with q|q
   · subst q
     exact⟨by omega,v9 L,by rw[kp6 _ (by omega) (by omega) (by omega),gt5],by rw[rct];exact rdL.vY fun j hj=>(by cases hj),rfl,rfl,fun j hj=>(by cases hj)⟩
   · obtain⟨a1,a2,a3,a4,sv,q1,q2,q3,q4,q5⟩:=T x (tm x (by simp [q]))
     have kx:h6.get x=h2'.get x:=by rw[kpo x a4 a1 a2 a3,kp x a1 a2]
     refine⟨a3,sv,by rw[kx,rco x q,q1], ?_,q3,q4,q5⟩
     rw[rco x q]
     refine q2.vY fun j hj=> ?_
     obtain⟨b1,b2,b3⟩:=q5 j hj
     have jl:j<h2'.next:=by
      have:=q2.1
      cases sv with
      | aD i2 o2 l2' s2 =>
        obtain rfl:=uC hj
        cases e:h2'.get i2 with
        |none=>simp [aR,e]at this
        |some c=>exact h2'.lt _ _ e
      |aC i2 o2=>cases this
      |_=>cases hj
     rw[kpo j (by omega) b1 b2 b3,kp j b1 b2]
 · rcases u6.1 (pm6.mem_iff.1 hx)with q|q
   · subst q
     rw[rct]
     have e:=(sm2.rel _ (List.mem_cons_self)).1
     rw[rct]at e
     have ws:=sm2.hv.sum
     have wp:=sm2.hv.HV
     refine⟨by show 0≤(rc ta).w+(rc tb).w;omega, ?_⟩
     rw[Sl,Sl,SF]at ws
     have nn:∀q:List Tr,(∀t∈q,1≤s.E4.W.getD t.1 0)→0≤(q.map fun t=>s.E4.W.getD t.1 0).sum:=by
      intro q
      induction q with
      |nil=>intro _;simp
      |cons x q ih=>intro h;have:=ih fun t ht=>h t (by simp [ht]);have:=h x (by simp);simp only[Sl,SF];omega
     have:=nn _ (fun t ht=>wp t (SP _ ht))
     rw[←e]at ws
     show(rc ta).w+(rc tb).w<_
     have ws':(rc ta).w+(rc tb).w+_=tot:=ws
     omega
   · rw[rco x q];exact v.wb x (tm x (by simp [q]))
theorem Df {hb:H} {a id o n N:Nat} {tot:Int} {S:List Int} {G:FS} (hn:n≤1000) (hN:N≤1000) (ht:tot<1000000000000000):∀(m:Nat) (h:H) (J:List AV) (l:List Nat) (rc:Nat→Tz) (tr:Nat→Tr) (s:FS) (O:List Int),l.length=m+1→Mz hb h a id o n N J l rc O→Fx n N tot S G s rc tr l O→Hg (xc rc) 0 l.length l→
 ∃h' t rc' tr' s' O' mv,Lp AP.A [3,4,7] AP.f359L1 [(3,.aD o 0 N 1),(4,.aC a 0),(7,.int .i64 (N+(n-l.length):Nat))] h=some (.exit 2,[(3,.aD o 0 N 1),(4,.aC a 0),(7,mv),(41,.bool false)],h')∧Fx n N tot S G s' rc' tr' [t] O'∧h'.get o=some (ints O')∧h'.floor=hb.next
 | 0, h, J, l, rc, tr, s, O, hl, v, sm, ho => by
   obtain⟨t,rfl⟩:=List.length_eq_one_iff.1 hl
   have ga:=v.z.ga
   have k0:∀g:H,aQ AP.A 363 [.aD id 0 1 1] g=_:=fun g=>CU g id 1
   refine⟨h,t,rc,tr,s,O,.int .i64 (N+(n-[t].length):Nat),s6 ?_,sm,v.go,v.fl⟩
   rw[SL]at ga
   have c:¬(1:Int)<((1:Nat):Int):=by omega
   clear v sm ho
   generalize ((N+(n-[t].length):Nat):Int)=made
   simp (disch:=omega)only[go_sem,vD,AP.f359L1,ga,k0,c]
 | m + 1, h, J, l, rc, tr, s, O, hl, v, sm, ho => by
   obtain⟨h1,J1,l1,rc1,tr1,s1,O1,k,v1,sm1,ho1,e⟩:=HD v sm ho (by omega) hn hN ht
   obtain⟨h',t,rc',tr',s',O',mv,L,r⟩:=Df hn hN ht m h1 J1 l1 rc1 tr1 s1 O1 (by omega) v1 sm1 ho1
   exact⟨h',t,rc',tr',s',O',mv,s7 k L,r⟩
theorem Gc {l:List Nat} (nd:l.Nodup) {i:Nat} (h:i<l.length):l.idxOf (l.getD i 0)=i:=by
 have hm:l.getD i 0∈l:=zD h
 have h1:=List.idxOf_lt_length_of_mem hm
 have h2:=List.getElem_idxOf h1
 have h3:l[i]=l.getD i 0:=by rw[Sb,Sd h];rfl
 rcases Nat.lt_trichotomy (l.idxOf (l.getD i 0)) i with q|q|q
 · exact absurd (h2.trans h3.symm) (List.pairwise_iff_getElem.1 nd _ _ h1 h q)
 · exact q
 · exact absurd (h3.trans h2.symm) (List.pairwise_iff_getElem.1 nd _ _ h h1 q)
def Dn (l:List Nat) (C:List Int) (t:Nat):Tz:=⟨(vq C).getD (l.idxOf t) 0,(vp 0 C).getD (l.idxOf t) 0,[(vp 0 C).getD (l.idxOf t) 0]⟩
def HS (l:List Nat) (t:Nat):Tr:=(l.idxOf t,[(l.idxOf t,0)])
theorem Le {l:List Nat} (nd:l.Nodup) {n:Nat} (h:l.length=n):l.map (HS l)=T0 n:=by
 apply List.ext_getElem?
 intro i
 unfold T0
 rw[uV,uV]
 by_cases c:i<l.length
 · rw[Sd c,SG (by omega)]
   have h3:l[i]=l.getD i 0:=by rw[Sb,Sd c];rfl
   show some (HS l l[i])=_
   unfold HS
   rw[h3,Gc nd c];rfl
 · rw[Sq (by omega),Sq (by simp;omega)];rfl
def z7 (C:List Int):List Int:=vT (vp 0 C) (vw (vq C)) (List.replicate C.length 0)
theorem I9 (C:List Int):(z7 C).length=C.length:=by unfold z7;rw[wG];simp
theorem Gt {α:Type} {l:List α} {x d:α} (h:x∈l):∃i,i<l.length∧l.getD i d=x:=by
 obtain⟨i,hi,e⟩:=SN.1 h
 exact⟨i,hi,by rw[Sb,Sd hi,←e];rfl⟩
theorem K4 {hb h:H} {a o:Nat} {C:List Int} {l:List Nat} {av:AV} (b:Bt hb h a o C.length C l av) (hC:C.length<1000) (pos:∀y∈C,0≤y∧y≤2147483647) (h1:1≤l.length):
 ∃id,Hz h a id l [] (Dn l C)∧Mz hb h a id o (vq C).length C.length [] l (Dn l C) (List.replicate C.length 0)∧Fx (vq C).length C.length (vq C).sum (vp 0 C) (FS.yu ((vq C).length-1) (Cj (vq C))) (Cj (vq C)) (Dn l C) (HS l) l (List.replicate C.length 0):=by
 obtain⟨id,ev,gi,fi⟩:=JM b.own h1
 have av1:av.id?=some id:=by rw[ev];rfl
 have nva:=b.nv id av1
 have ga:=b.ga
 rw[ev]at ga
 have so:=ED C
 have sl:=vP 0 C
 have ll:=b.ll
 have fl:=b.fl
 have wl:=wI 0 C
 have rel:∀t∈l,∃i,i<l.length∧l.getD i 0=t∧HS l t=(i,[(i,0)])∧Dn l C t=⟨(vq C).getD i 0,(vp 0 C).getD i 0,[(vp 0 C).getD i 0]⟩:=fun t ht=>by
  obtain⟨i,hi,e⟩:=Gt (d:=0) ht
  have ix:=Gc b.nd hi
  rw[e]at ix
  exact⟨i,hi,e,by unfold HS;rw[ix],by unfold Dn;rw[ix]⟩
 have z:Hz h a id l [] (Dn l C):=by
  refine⟨ga,by rw[Sw];exact gi,by rw[fl];exact b.fa,fi,nva.1.symm,fun t ht=> ?_,by omega⟩
  obtain⟨i,hi,e,_,e2⟩:=rel t ht
  obtain⟨sid,t1,t2,⟨t3,t4,t5⟩,_⟩:=b.tr i hi
  have:=so.at (i:=i) (by omega)
  rw[e]at t1 t3 t5
  rw[e2]
  exact⟨t3,fun q=>t5 (by rw[q];exact av1),⟨by show 0≤(vp 0 C).getD i 0;omega,by show(vp 0 C).getD i 0<_;omega⟩,_,t1⟩
 have wmem:∀i,i<l.length→1≤(vq C).getD i 0∧(vq C).getD i 0≤2147483647:=fun i hi=>by
  have hm:(vq C).getD i 0∈vq C:=by rw[Sb,Sd (by omega)];exact Su _
  obtain⟨q1,q2⟩:=yl C _ hm
  have:=pos _ q1
  omega
 refine⟨id,z,⟨z,b.ext,fl,b.JH,b.fa,by omega,b.fo,b.go,⟨b.QL.symm,fun q=>nva.2 q.symm⟩,by simp,fun y hy=>by have:=SJ hy;omega,fun t ht=> ?_,fun t ht=> ?_⟩, ?_⟩
 · obtain⟨i,hi,e,_,e2⟩:=rel t ht
   obtain⟨sid,t1,t2,⟨t3,t4,t5⟩,t6,t7,t8⟩:=b.tr i hi
   rw[e]at t1 t4
   rw[e2]
   refine⟨t4,.aD sid 0 1 1,t1,⟨?_,by intro s e;cases e⟩,rfl,rfl,fun j hj=> ?_⟩
   · show aR h 1 (.aD sid 0 1 1)=some (1,[.int .i64 ((vp 0 C).getD i 0)])
     simp [aR,t2]
   · obtain rfl:sid=j:=uC hj
     exact⟨t6,fun q=>t8 (by rw[q];exact av1),t7⟩
 · obtain⟨i,hi,e,_,e2⟩:=rel t ht
   rw[e2]
   have:=wmem i hi
   exact⟨by show 0≤(vq C).getD i 0;omega,by show(vq C).getD i 0<_;omega⟩
 · refine Fx.init so (fun y hy=>by obtain⟨i,hi,e⟩:=Gt (d:=0) hy;have:=wmem i (by omega);omega) (HS l) (Le b.nd ll) fun t ht=> ?_
   obtain⟨i,hi,e,e1,e2⟩:=rel t ht
   exact⟨i,by omega,e1,e2⟩
theorem J3 (h : H) (x : AV) (C : List Int) (h1 : 1 ≤ C.length) (hC : C.length < 1000) (rd : Rd h x (ints C)) (pos : ∀ y ∈ C, 0 ≤ y ∧ y ≤ 2147483647) :
 aQ AP.A 359 [x] h=some (zr 1 C.length (ints (z7 C)),h):=by
 have yZ:Rd h.dI x (ints C):=rd.mono (vB h)
 have ln:=rd.len
 rw[pF]at ln
 simp only[I]at ln
 obtain⟨g0,eg0⟩:∃g,g=(h.dI.alloc (xW C.length [.int .i64 0])).alloc [.aO]:=⟨_,rfl⟩
 have go:g0.get h.next=some (ints (List.replicate C.length 0)):=by rw[eg0,vu (by simp),vx (by simp),zh]
 have ga:g0.get (h.next+1)=some [.aO]:=by rw[eg0,vx (by simp)]
 have fl0:g0.floor=h.next:=by rw[eg0];simp
 have nx0:g0.next=h.next+2:=by rw[eg0];simp
 have b0:Bt h.dI g0 (h.next+1) h.next C.length [] [] .aO:=by
  refine⟨by rw[eg0];exact((Ext.refl _).alloc _).alloc _,by rw[fl0];rfl,by omega,ga,by simp,go,by simp,by omega,wm.nil,fun j hj=>(by cases hj),rfl,List.nodup_nil,fun i hi=>(by simp at hi)⟩
 obtain⟨l,av,g1,L1,b1⟩:=Af hC yZ (fun y hy=>(pos y hy).1) C [] [] .aO g0 rfl b0
 have L1':Lp AP.A [0,3,4,16,17,18] AP.f359L2 [(0,x),(3,.aD h.next 0 C.length 1),(4,.aC (h.next+1) 0),(16,x),(17,.int .i64 C.length),(18,.int .i64 0)] g0=_:=L1
 obtain⟨g2,g3,mv,k1,L2,g4,f3⟩:∃g2 g3 mv,aQ AP.A 362 [BB (h.next+1)] g1=some (.bL [],g2)∧Lp AP.A [3,4,7] AP.f359L1 [(3,.aD h.next 0 C.length 1),(4,.aC (h.next+1) 0),(7,.int .i64 C.length)] g2=some (.exit 2,[(3,.aD h.next 0 C.length 1),(4,.aC (h.next+1) 0),(7,mv),(41,.bool false)],g3)∧g3.get h.next=some (ints (z7 C))∧g3.floor=h.next:=by
  by_cases hl:1≤l.length
  · obtain⟨id,z,m,sm⟩:=K4 b1 hC pos hl
    have ll:=b1.ll
    obtain⟨i1,i2⟩:=Gk (ky:=xc (Dn l C)) (n:=l.length) (l.length/2) l (uM _) (fun c h0 hc hp=>by omega)
    have k:=LV z
    have z2:=z.set i2
    have hs:(vq C).sum<1000000000000000:=by
     have:=AB (vq C) 2147483647 (fun y hy=>(pos y (yl C y hy).1).2)
     have wl:=wI 0 C
     rw[vP]at wl
     have:(2147483647:Int)* ((vq C).length:Nat)≤2147483647* 1000:=Int.mul_le_mul_of_nonneg_left (by omega) (by omega)
     omega
    have pl:=i2.length_eq
    have m2:Mz h.dI (g1.set id (wE (zE (ky:=xc (Dn l C)) l.length (l.length/2) l)++[])) (h.next+1) id h.next (vq C).length C.length [] (zE (ky:=xc (Dn l C)) l.length (l.length/2) l) (Dn l C) (List.replicate C.length 0):=by
     refine⟨z2,m.ext.set m.li _,by simpa using m.fl,by simpa using m.JH,m.la,m.li,m.lo,by rw[vi m.no.2];exact m.go,m.no,m.ol,by rw[pl];exact m.ob,fun t ht=> ?_,fun t ht=>m.wb t (i2.mem_iff.1 ht)⟩
     obtain⟨a1,sv,q1,q2,q3,q4,q5⟩:=m.tr t (i2.mem_iff.1 ht)
     obtain⟨_,a2,_⟩:=z.tr t (i2.mem_iff.1 ht)
     exact⟨a1,sv,by rw[vi a2];exact q1,q2.vY fun j hj=>vi (q5 j hj).2.1,q3,q4,q5⟩
    obtain⟨h',t,rc',tr',s',O',mv,L,sm',go',fl'⟩:=Df (n:=(vq C).length) (N:=C.length) (by have:=wI 0 C;rw[vP]at this;omega) (by omega) hs (l.length-1) _ _ _ _ _ _ _ (by omega) m2 (sm.perm i2.symm) (by rw[pl];exact i1)
    have e0:C.length+((vq C).length-(zE (ky:=xc (Dn l C)) l.length (l.length/2) l).length)=C.length:=by omega
    rw[e0]at L
    have:=Fx.QU rfl sm'
    exact⟨_,h',mv,k,L,by rw[go',this];rfl,fl'⟩
  · have el:l=[]:=SA (by omega)
    subst el
    have av0:av=.aO:=by
     rcases b1.own.2 with ⟨q,_⟩|⟨id,_,_,_,q⟩
     · exact q
     · simp at q
    have ga1:=b1.ga
    rw[av0]at ga1
    have k0:∀g:H,aQ AP.A 363 [.aO] g=some (.int .i64 0,g):=fun g=>by
     refine tz (fn:=AP.f363) (e:=[(2,.int .i64 0)]) (vs:=[.int .i64 0]) rfl rfl rfl (by simp (disch:=omega)only[go_sem,vD,AP.f363,EL]) rfl
    have LI:Lp AP.A [0,2,3] AP.f362L0 [(0,BB (h.next+1)),(2,.int .i64 0),(3,.int .i64 (-1))] g1=some (.exit 0,[(0,BB (h.next+1)),(2,.int .i64 0),(3,.int .i64 (-1)),(10,.bool false)],g1):=by
     refine s6 ?_
     have c:¬(0:Int)≤-1:=by omega
     simp (disch:=omega)only[go_sem,vD,AP.f362L0,c]
    have hq:=Hv (n:=0) (by omega)
    have hq':bm .quo (.int .i64 0) (.int .i64 2)=some (.int .i64 0):=hq
    refine⟨g1,g1,.int .i64 C.length, ?_,s6 ?_, ?_,b1.fl⟩
    · refine v8 (fn:=AP.f362) (e:=[]) (vs:=[]) rfl rfl rfl ?_ rfl
      simp (disch:=omega)only[go_sem,vD,AP.f362,ga1,k0,hq',rU,LI]
    · have c:¬(1:Int)<0:=by omega
      simp (disch:=omega)only[go_sem,vD,AP.f359L1,ga1,k0,c]
    · rw[b1.go]
      have e:vq C=[]:=SA (by have:=b1.ll;simp at this;omega)
      have e2:vp 0 C=[]:=SA (by rw[vP,e];rfl)
      unfold z7
      rw[e2];rfl
 have own:wm 1 g3 (.aD h.next 0 C.length 1) C.length (ints (z7 C)):=⟨by rw[pF,I9];omega,.inr ⟨h.next,rfl,g4,by omega,by omega⟩⟩
 have s1:=own.zX (fl:=h.next) (m:=14) (t:=true) (by omega)
 refine tQ (fn:=AP.f359) (h2:=g3) (e:=[(2,.aD h.next 0 C.length 1)]) (vs:=[.aD h.next 0 C.length 1]) rfl rfl rfl ?_ rfl s1
 clear own s1 b1 b0 L1 rd yZ pos go ga g4
 simp (disch:=first|omega|(simp only[wT,Sc,Se,uR,Nat.reduceAdd];first|done|omega|fail)|(simp (disch:=first|omega|(simp only[wT,Sc,Se,uR,Nat.reduceAdd];first|done|omega|fail)|fail)only[wT,Cm,Sg,Sc,Se,uR,Nat.reduceAdd];done)|fail)only[go_sem,vD,Ck,AP.f359,ln,←eg0,rU,L1',k1,L2]
theorem QF {a b c x:aF} {e e':Env} {h h':H} {q:dq} (k:aK (aQ AP.A) bq (.seq a (.seq b c)) e h=some (.normal,e',h')) (z:aK (aQ AP.A) bq x e' h'=q):aK (aQ AP.A) bq (.seq a (.seq b (.seq c x))) e h=q:=by
 have st:∀{a b b':aF} {e:Env} {h:H},(∀e h,aK (aQ AP.A) bq b e h=some (.normal,e',h')→aK (aQ AP.A) bq b' e h=q)→aK (aQ AP.A) bq (.seq a b) e h=some (.normal,e',h')→aK (aQ AP.A) bq (.seq a b') e h=q:=fun {a b b' e h} f k=>by
  rw[rI]at k ⊢
  cases hq:aK (aQ AP.A) bq a e h with
  |none=>rw[hq]at k;cases k
  | some r =>
    obtain⟨ex,ev,hr⟩:=r
    cases ex with
    |normal=>rw[hq,sB]at k;rw[sB];exact f _ _ k
    |exit i=>rw[hq]at k;cases k
    |ret=>rw[hq]at k;cases k
 refine st (fun e h=>st fun e h k=> ?_) k
 rw[rI,k,sB];exact z
theorem Gs {v:AV} {l:List Int} (hl:l.length<100000) (h:H) (rd:Rd h v (ints l)):∀(q p:List Int) (m:Int),l=p++q→
 ∃e',Lp AP.A [0,3,4] AP.f360L0 [(0,v),(3,.int .i64 m),(4,.int .i64 p.length)] h=some (.exit 0,e',h)∧look e' 3=.int .i64 (Ar q m)
 | [], p, m, hp => by
   rw[Sw]at hp;subst hp
   have ln:=rd.len
   rw[pF]at ln
   simp only[I]at ln
   refine⟨[(0,v),(3,.int .i64 m),(4,.int .i64 l.length),(15,.bool false)],s6 ?_,rfl⟩
   simp (disch:=omega)only[go_sem,vD,AP.f360L0,ln]
 | y :: q, p, m, hp => by
   have ln:=rd.len
   rw[pF]at ln
   simp only[I]at ln
   have hlen:l.length=p.length+(q.length+1):=by rw[hp];simp
   obtain⟨ad,a1,a2⟩:=rd.xu
   have b1:=a1 p.length ⟨by omega,by omega⟩
   have b2:=a2 h (Ext.refl h) p.length y (by rw[hp];simp)
   obtain⟨e',L,r⟩:=Gs hl h rd q (p++[y]) (De m y) (by rw[hp];simp)
   have w1:((p++[y]).length:Int)=(p.length:Int)+1:=by simp
   rw[w1]at L
   refine⟨e',s7 ?_ L,r⟩
   clear L rd a1 a2 hp
   simp (disch:=omega)only[go_sem,vD,AP.f360L0,ln,b1,b2,HF,EM]
theorem Mn (h:H) (v:AV) (l:List Int) (h1:1≤l.length) (hl:l.length<100000) (rd:Rd h v (ints l)):∃M,aQ AP.A 360 [v] h=some (.int .i64 M,h)∧∀m,M≤m↔∀y∈l,y≤m:=by
 obtain⟨y,r,rfl⟩:∃y r,l=y::r:=by
  cases l with
  |nil=>simp at h1
  |cons y r=>exact⟨y,r,rfl⟩
 have yZ:Rd h.dI v (ints (y::r)):=rd.mono (vB h)
 have ln:=rd.len
 rw[pF]at ln
 simp only[I]at ln
 obtain⟨ad,a1,a2⟩:=yZ.xu
 have b1:=a1 0 ⟨by omega,by simp⟩
 have b2:=a2 h.dI (Ext.refl _) 0 y rfl
 obtain⟨e',L,q⟩:=Gs hl h.dI yZ r [y] y rfl
 have L':Lp AP.A [0,3,4] AP.f360L0 [(0,v),(3,.int .i64 y),(4,.int .i64 1)] h.dI=some (.exit 0,e',h.dI):=L
 refine⟨Ar r y,tQ (fn:=AP.f360) (h2:=h.dI) (e:=[(2,.int .i64 (Ar r y))]) (vs:=[.int .i64 (Ar r y)]) rfl rfl rfl ?_ rfl rfl,fun m=>⟨fun h z hz=> ?_,fun h=>Ba r y m (fun d hd=>h d (by simp [hd])) (h y (by simp))⟩⟩
 · have c:¬(((y::r).length:Nat):Int)<1:=by simp;omega
   have b2':bP false 1 (ad 0) h.dI=some (.int .i64 y):=b2
   generalize (((y::r).length:Nat):Int)=N at *
   clear rd yZ a1 a2 L
   simp (disch:=omega)only[go_sem,vD,AP.f360,ln,c,b1,b2',rU,L',q]
 · have:=Ct r y
   rcases u6.1 hz with e|e
   · subst e;omega
   · have:=this.2 z e;omega
theorem Gl {v:AV} {l:List Int} (hl:l.length<1125899906842624) (h:H) (rd:Rd h v (ints l)):∀(q p:List Int),l=p++q→(0:Int)∈q→
 ∃e',Lp AP.A [0,1,7,8] AP.f189L0 [(0,v),(1,.int .i64 0),(7,.int .i64 l.length),(8,.int .i64 p.length)] h=some (.ret,e',h)∧look e' 4=.int .i64 (p.length+ze q:Nat)
 |[],p,hp,h0=>by simp at h0
 | x :: q, p, hp, h0 => by
   have hlen:l.length=p.length+(q.length+1):=by rw[hp];simp
   obtain⟨ad,a1,a2⟩:=rd.xu
   have b1:=a1 p.length ⟨by omega,by omega⟩
   have b2:=a2 h (Ext.refl h) p.length x (by rw[hp];simp)
   rw[ze]
   by_cases c:x=0
   · rw[if_pos c]
     refine⟨[(4,.int .i64 p.length)],tG ?_,rfl⟩
     subst c
     clear rd a1 a2 hp
     simp (disch:=omega)only[go_sem,vD,AP.f189L0,b1,b2]
   · rw[if_neg c]
     obtain⟨e',r1,r2⟩:=Gl hl h rd q (p++[x]) (by rw[hp];simp) (by rcases u6.1 h0 with q|q;exact absurd q.symm c;exact q)
     have w1:((p++[x]).length:Int)=(p.length:Int)+1:=by simp
     rw[w1]at r1
     refine⟨e',s7 ?_ r1,by rw[r2];simp;omega⟩
     have cb:((0:Int)==x)=false:=by simp;omega
     clear r1 rd a1 a2 hp
     simp (disch:=omega)only[go_sem,vD,AP.f189L0,b1,b2,c,cb]
theorem Qy (h:H) (v:AV) (l:List Int) (rd:Rd h v (ints l)) (hl:l.length<100000) (h0:(0:Int)∈l):aQ AP.A 189 [v,.int .i64 0] h=some (.int .i64 (ze l:Nat),h):=by
 have yZ:Rd h.dI v (ints l):=rd.mono (vB h)
 have ln:=rd.len
 rw[pF]at ln
 simp only[I]at ln
 obtain⟨e',r1,r3⟩:=Gl (by omega) h.dI yZ l [] rfl h0
 have r1':Lp AP.A [0,1,7,8] AP.f189L0 [(0,v),(1,.int .i64 0),(7,.int .i64 l.length),(8,.int .i64 0)] h.dI=some (.ret,e',h.dI):=r1
 simp only[Se,uR]at r3
 refine tQ (fn:=AP.f189) (h2:=h.dI) (e:=e') (vs:=[.int .i64 (ze l:Nat)]) rfl rfl rfl ?_ (by simp only[AP.f189,cq,m0,r3];rfl) rfl
 clear rd yZ r1 r3
 simp (disch:=omega)only[go_sem,vD,AP.f189,ln,rU,r1']
theorem BT {v:AV} {l:List Int} (hl:l.length<100000) (h:H) (rd:Rd h v (ints l)):∀(q p:List Int) (m:Nat),l=p++q→m≤p.length→
 ∃e',Lp AP.A [3,6,7,8] AP.f358L0 [(3,.int .i64 m),(6,v),(7,.int .i64 l.length),(8,.int .i64 p.length)] h=some (.exit 0,e',h)∧look e' 3=.int .i64 (m+yz q:Nat)
 | [], p, m, hp, hm => by
   rw[Sw]at hp;subst hp
   refine⟨[(3,.int .i64 m),(6,v),(7,.int .i64 l.length),(8,.int .i64 l.length),(9,.bool false)],s6 ?_,rfl⟩
   simp (disch:=omega)only[go_sem,vD,AP.f358L0]
 | y :: q, p, m, hp, hm => by
   have hlen:l.length=p.length+(q.length+1):=by rw[hp];simp
   obtain⟨ad,a1,a2⟩:=rd.xu
   have b1:=a1 p.length ⟨by omega,by omega⟩
   have b2:=a2 h (Ext.refl h) p.length y (by rw[hp];simp)
   have c1:((p.length:Nat):Int)<l.length:=by omega
   have w1:((p++[y]).length:Int)=(p.length:Int)+1:=by simp
   by_cases c:0<y
   · obtain⟨e',L,r⟩:=BT hl h rd q (p++[y]) (m+1) (by rw[hp];simp) (by simp;omega)
     rw[w1]at L
     refine⟨e',s7 ?_ L,by rw[r];unfold yz;rw[vq,if_pos c,Sc];congr 1;omega⟩
     have w2:((m+1:Nat):Int)=(m:Int)+1:=by omega
     rw[w2]
     clear L rd a1 a2 hp
     simp (disch:=omega)only[go_sem,vD,AP.f358L0,c1,b1,b2,c]
   · obtain⟨e',L,r⟩:=BT hl h rd q (p++[y]) m (by rw[hp];simp) (by simp;omega)
     rw[w1]at L
     refine⟨e',s7 ?_ L,by rw[r];unfold yz;rw[vq,if_neg c]⟩
     clear L rd a1 a2 hp
     simp (disch:=omega)only[go_sem,vD,AP.f358L0,c1,b1,b2,c]
theorem Lf (h:H) (v:AV) (l:List Int) (rd:Rd h v (ints l)) (hl:l.length<100000):aQ AP.A 358 [v] h=some (.int .i64 (yz l:Nat),h):=by
 have yZ:Rd h.dI v (ints l):=rd.mono (vB h)
 have ln:=rd.len
 rw[pF]at ln
 simp only[I]at ln
 obtain⟨e',L,r⟩:=BT hl h.dI yZ l [] 0 rfl (by simp)
 have L':Lp AP.A [3,6,7,8] AP.f358L0 [(3,.int .i64 0),(6,v),(7,.int .i64 l.length),(8,.int .i64 0)] h.dI=some (.exit 0,e',h.dI):=L
 rw[uR]at r
 refine tQ (fn:=AP.f358) (h2:=h.dI) (e:=[(2,.int .i64 (yz l:Nat))]) (vs:=[.int .i64 (yz l:Nat)]) rfl rfl rfl ?_ rfl rfl
 clear rd yZ L
 simp (disch:=omega)only[go_sem,vD,AP.f358,ln,rU,L',r]
def I0 (v:AV):Bool:=match v with| .int _ n=>decide (n<0)||decide (2147483647<n)|_=>true
theorem Pg (n:Int) (h:H):aQ AP.A 357 [.int .i64 n] h=some (.bool (I0 (.int .i64 n)),h):=by
 by_cases c1:n<0
 · refine tQ (fn:=AP.f357) (h2:=h.dI) (e:=[(2,.bool true)]) (vs:=[.bool true]) rfl rfl rfl ?_ rfl ?_
   · simp (disch:=omega)only[go_sem,vD,AP.f357,c1]
   · simp [I0,c1];rfl
 · refine tQ (fn:=AP.f357) (h2:=h.dI) (e:=[(2,.bool (decide (2147483647<n)))]) (vs:=[.bool (decide (2147483647<n))]) rfl rfl rfl ?_ rfl ?_
   · simp (disch:=omega)only[go_sem,vD,AP.f357,c1]
   · simp [I0,c1];rfl
theorem Dk {mv:AV} {n wid:Nat} (hn:n<1000):∀(q p:List Int) (h:H),p.length+q.length=n→(∀y∈q,0≤y∧y<1000000000000)→h.get wid=some (ints (wu p++q))→h.floor≤wid→h.floor≤h.next→
 ∃h',Lp AP.A [1,7,55,56,57] AP.f351L0 [(1,mv),(7,.aD wid 0 n 1),(55,.aD wid 0 n 1),(56,.int .i64 n),(57,.int .i64 p.length)] h=some (.exit 2,[(1,mv),(7,.aD wid 0 n 1),(55,.aD wid 0 n 1),(56,.int .i64 n),(57,.int .i64 n),(58,.bool false)],h')∧h'.get wid=some (ints (wu (p++q)))∧h'.floor=h.floor∧h'.next=h.next∧(∀i,i≠wid→h'.get i=h.get i)
 | [], p, h, hl, hr, hg, hf, hfl => by
   obtain rfl:p.length=n:=by simpa using hl
   refine⟨h,s6 ?_,by simpa using hg,rfl,rfl,fun _ _=>rfl⟩
   simp (disch:=omega)only[go_sem,vD,AP.f351L0]
 | y :: q, p, h, hl, hr, hg, hf, hfl => by
   have yr:=hr y (by simp)
   simp only[Sc]at hl
   have n1:(((p++[y]).length:Nat):Int)=(p.length:Int)+1:=by simp
   have hp:(wu p).length=p.length:=zR p
   have ix:(ints (wu p++y::q))[p.length]?=some (.int .i64 y):=sG (by rw[So (by omega),hp];simp)
   have il:(ints (wu p++y::q)).length=n:=by rw[pF,vb,hp,Sc];omega
   have st:(ints (wu p++y::q)).set p.length (.int .i64 (yD y))=ints (wu (p++[y])++q):=by
    rw[yo,List.set_append_right _ _ (by omega),hp,Nat.sub_self]
    simp [wu]
   have q1:bm .quo (.int .i64 (y+1)) (.int .i64 2)=some (.int .i64 (yD y)):=by
    have e:=rK (k:=.i64) (a:=y+1) (b:=2) (by omega)
    rw[e,Int.tdiv_eq_ediv_of_nonneg (by omega),wi (by omega)];rfl
   have c1:((p.length:Nat):Int)<n:=by omega
   have g2:(h.set wid (ints (wu (p++[y])++q))).get wid=some (ints (wu (p++[y])++q)):=by rw[vA rfl,hg];rfl
   obtain⟨h',k1,k2,k3,k4,k5⟩:=Dk (mv:=mv) hn q (p++[y]) (h.set wid (ints (wu (p++[y])++q))) (by simp;omega) (fun e he=>hr e (by simp [he])) g2 (by simpa using hf) (by simpa using hfl)
   refine⟨h',s7 ?_ k1,by rw[k2];simp,by rw[k3];simp,by rw[k4];simp,fun i hi=>by rw[k5 i hi,vi hi]⟩
   rw[n1]
   clear k1 k2 k3 k4 k5 g2 hr
   generalize ints (wu p++y::q)=A at *
   generalize ints (wu (p++[y])++q)=B at *
   simp (disch:=omega)only[go_sem,vD,AP.f351L0,c1,ix,il,st,q1,hg]
theorem Jd {C:List Int} (h:∀y∈C,0≤y∧y≤2147483647):∀y∈wu C,0≤y∧y≤2147483647:=fun y hy=>by
 obtain⟨z,hz,rfl⟩:=Sm.1 hy
 have:=h z hz
 unfold yD;omega
theorem Iv {m : Nat} {S : List Int} {n wid : Nat} (hn1 : 1 ≤ n) (hn : n < 1000) (nd : (S.map Int.toNat).Nodup) (hr : ∀ s ∈ S, s.toNat < n) : ∀ (K : Nat) (C O : List Int) (h : H), wU m K (vq C) → C.length = n → vp 0 C = S → (∀ y ∈ C, 0 ≤ y ∧ y ≤ 2147483647) → O.length = n → (∀ p, p < n → (∀ s ∈ S, s.toNat ≠ p) → O[p]? = some 0) → h.get wid = some (ints C) → h.floor ≤ wid → h.floor ≤ h.next →
 ∃h' v,Lp AP.A [1,7] AP.f351L1 [(1,.int .i64 m),(7,.aD wid 0 n 1)] h=some (.ret,[(4,v),(5,.int .i64 0)],h')∧v=zr 1 n (ints (yE S K (vq C) O))∧h'.floor=h.floor
 | 0, C, O, h, r, hC, hS, hp, hO, hz, hg, hf, hfl => by
   cases r with
   | last o c =>
     have wl:(vq C).length=S.length:=by rw[←vP 0 C,hS]
     have rd:Rd h (.aD wid 0 n 1) (ints C):=wm.yZ (by
      rw[pF]
      exact⟨by rw[pF];omega,.inr ⟨wid,by rw[hC],hg,hf,by omega⟩⟩)
     have k1:=J3 h _ C (by omega) (by omega) rd hp
     have e:z7 C=yE S 0 (vq C) O:=by
      unfold z7
      rw[yE,hS,hC]
      exact(xX (by rw[wC,wl]) nd hO hr hz).symm
     rw[hC,e]at k1
     have lr:(yE S 0 (vq C) O).length=n:=by rw[BE,hO]
     obtain⟨M,k2,k3⟩:=Mn h (zr 1 n (ints (yE S 0 (vq C) O))) (yE S 0 (vq C) O) (by omega) (by omega) (by have:=Ay h (yE S 0 (vq C) O);rwa [lr]at this)
     have c':M≤m:=by
      rw[k3,yE]
      rw[xX (by rw[wC,wl]) nd hO hr hz]
      exact(Ds (by rw[wC,wl]) nd hr (by omega)).2 c
     refine⟨h,_,tG ?_,rfl,rfl⟩
     clear k3 rd nd hr hz
     simp (disch:=omega)only[go_sem,vD,AP.f351L1,k1,k2,c']
 | K + 1, C, O, h, r, hC, hS, hp, hO, hz, hg, hf, hfl => by
   cases r with
   | more o c hne r =>
     have wl:(vq C).length=S.length:=by rw[←vP 0 C,hS]
     have rd:Rd h (.aD wid 0 n 1) (ints C):=wm.yZ (by
      rw[pF]
      exact⟨by rw[pF];omega,.inr ⟨wid,by rw[hC],hg,hf,by omega⟩⟩)
     have k1:=J3 h _ C (by omega) (by omega) rd hp
     have e:z7 C=vT S (vw (vq C)) O:=by
      unfold z7
      rw[hS,hC]
      exact(xX (by rw[wC,wl]) nd hO hr hz).symm
     rw[hC,e]at k1
     have lr:(vT S (vw (vq C)) O).length=n:=by rw[wG,hO]
     obtain⟨M,k2,k3⟩:=Mn h (zr 1 n (ints (vT S (vw (vq C)) O))) (vT S (vw (vq C)) O) (by omega) (by omega) (by have:=Ay h (vT S (vw (vq C)) O);rwa [lr]at this)
     have c':¬M≤m:=by
      rw[k3]
      rw[xX (by rw[wC,wl]) nd hO hr hz]
      intro q
      have:=(Ds (by rw[wC,wl]) nd hr (by omega)).1 q
      omega
     have hpn:∀y∈C,0≤y:=fun y hy=>(hp y hy).1
     obtain⟨s1,s2⟩:=Cf 0 C hpn
     obtain⟨h1,L,g1,f1,n1,_⟩:=Dk (mv:=.int .i64 m) hn C [] h (by simpa using hC) (fun y hy=>by have:=hp y hy;omega) hg hf hfl
     have L':Lp AP.A [1,7,55,56,57] AP.f351L0 [(1,.int .i64 m),(7,.aD wid 0 n 1),(55,.aD wid 0 n 1),(56,.int .i64 n),(57,.int .i64 0)] h=_:=L
     obtain⟨h',v,L2,r2,f2⟩:=Iv hn1 hn nd hr K (wu C) (vT S (vw (vq C)) O) h1 (by rw[s2];exact r) (by rw[zR,hC]) (by rw[s1,hS]) (Jd hp) (by rw[wG,hO]) (fun p hp hq=>by rw[wP _ _ _ _ hq];exact hz p hp hq) g1 (by omega) (by omega)
     refine⟨h',v,s7 ?_ L2,by rw[r2,s2];rfl,by omega⟩
     clear k3 rd nd hr hz L L2 r2 hp hpn g1
     simp (disch:=omega)only[go_sem,vD,AP.f351L1,k1,k2,c',zt,rU,L']
theorem Ff (h : H) (x : AV) (C : List Int) (m K : Nat) (h2 : 2 ≤ C.length) (hn : C.length ≤ 288) (rd : Rd h x (ints C)) (hm : 1 ≤ m ∧ m ≤ 15) (hr : ∀ y ∈ C, 0 ≤ y ∧ y ≤ 2147483647) (hs : yz C ≤ 2 ^ m) (ro : wU m K (wN C)) :
 aQ AP.A 351 [x,.int .i64 m] h=some (.bL [zr 1 C.length (ints (we C K)),.int .i64 0],h):=by
 have yZ:Rd h.dI x (ints C):=rd.mono (vB h)
 have ln:=rd.len
 rw[pF]at ln
 simp only[I]at ln
 have pos:∀y∈C,0≤y:=fun y hy=>(hr y hy).1
 have kb:=CL I0 (x:=x) (fv:=.fn 357 [] []) (cs:=ints C) (fun v hv g=>by
  obtain⟨n,_,rfl⟩:=Sm.1 hv
  rw[nF];exact Pg n g) (by rw[pF];omega) h.dI yZ
 have nb:(ints C).any I0=false:=by
  rw[List.any_eq_false]
  intro v hv
  obtain⟨n,hn',rfl⟩:=Sm.1 hv
  have:=hr n hn'
  simp [I0,I];omega
 rw[nb]at kb
 have ku:=Lf h.dI x C yZ (by omega)
 have s1:oY .shl .i64 1 (m:Int)=some (.int .i64 ((2^m:Nat):Int)):=by
  have:=Bi (a:=1) (s:=m) (by omega) (by
   have:2^m≤2^15:=Sv (by omega) hm.2
   omega)
  rwa [Nat.one_mul]at this
 have kc:=LG h.dI x C yZ (by omega) (by omega) (by simp)
 obtain⟨g,eg⟩:∃g,g=((h.dI.alloc []).del h.dI.next).alloc (ints C):=⟨_,rfl⟩
 rw[←eg]at kc
 have gg:g.get (h.next+1)=some (ints C):=by rw[eg,vx (by simp)]
 have gf:g.floor=h.next:=by rw[eg];simp
 have gn:g.next=h.next+2:=by rw[eg];simp
 have rdg:Rd g (.aD (h.next+1) 0 C.length 1) (ints C):=wm.yZ (by
  rw[pF]
  exact⟨by rw[pF];omega,.inr ⟨h.next+1,rfl,gg,by omega,by omega⟩⟩)
 have ku2:=Lf g _ C rdg (by omega)
 obtain ⟨g2, P, q1, q2, q3⟩ : ∃ g2, aK (aQ AP.A) bq (at_ 4 AP.f351.body) [(1, .int .i64 m), (7, .aD (h.next + 1) 0 C.length 1)] g = some (.normal, [(1, .int .i64 m), (7, .aD (h.next + 1) 0 C.length 1)], g2) ∧ g2.get (h.next + 1) = some (ints (Dh C)) ∧ g2.floor = h.next ∧ g2.next = h.next + 2 := by
  unfold Dh
  by_cases c:yz C=1
  · rw [if_pos c]
    have z0:(0:Int)∈C:=by
     refine Sx fun q=> ?_
     have:∀D:List Int,(∀y∈D,0<y)→(vq D).length=D.length:=by
      intro D
      induction D with
      |nil=>intro _;rfl
      |cons y D ih=>intro h;rw[vq,if_pos (h y (by simp)),Sc,Sc,ih fun z hz=>h z (by simp [hz])]
     have:=this C fun y hy=>by
      have:=pos y hy
      by_cases e:y=0
      · subst e;exact absurd hy q
      · omega
     unfold yz at c
     omega
    have kx:=Qy g _ C rdg (by omega) z0
    have il : ze C < C.length := by
     have:∀D:List Int,(0:Int)∈D→ze D<D.length:=by
      intro D
      induction D with
      |nil=>intro h;simp at h
      | cons y D ih =>
        intro h
        rw[ze,Sc]
        split
        · omega
        · rename_i e
          rcases u6.1 h with q|q
          · exact absurd q.symm e
          · have:=ih q;omega
     exact this C z0
    rw[c]at ku2
    have st:=yo C (ze C) 1
    refine⟨g.set (h.next+1) (ints (C.set (ze C) 1)), ?_,by rw[vA rfl,gg];rfl,by simpa using gf,by simpa using gn⟩
    have lC:(ints C).length=C.length:=pF C
    have gfl:g.floor≤h.next+1:=by omega
    have ib:cI (.int .i64 (ze C:Nat)) C.length=some (ze C):=by simp [cI,nB,il]
    rw[←st]
    clear rd yZ rdg kb ku kc s1 ro hr pos nb st eg
    generalize ints C=A at *
    generalize ze C=i at *
    generalize C.length=n at *
    simp (disch:=omega)only[go_sem,vD,AP.f351,Ad,AL,ku2,kx,ib,gg,gfl,lC]
  · rw[if_neg c]
    have cb:(((yz C:Nat):Int)==1)=false:=by simp;omega
    refine⟨g, ?_,gg,gf,gn⟩
    clear rd yZ rdg kb ku kc s1 ro hr pos nb eg
    simp (disch:=omega)only[go_sem,vD,AP.f351,Ad,AL,ku2,cb]
 obtain⟨p1,p2⟩:=OT pos h2
 have so:=ED (Dh C)
 have ppos:∀y∈Dh C,0≤y∧y≤2147483647:=fun y hy=>by
  unfold Dh at hy
  split at hy
  · rcases SK hy with q|q
    · exact hr y q
    · omega
  · exact hr y hy
 obtain⟨h',v,L,ev,fl'⟩:=Iv (m:=m) (n:=C.length) (wid:=h.next+1) (by omega) (by omega) so.nd (fun s hs=>by have:=so.OY s hs;rw[GI]at this;omega) K (Dh C) (List.replicate C.length 0) g2 (by rw[p2];exact ro) (GI C) rfl ppos (by simp) (fun p hp _=>by rw[SE,if_pos hp]) q1 (by omega) (by omega)
 rw[p1,p2]at ev
 have ev':v=zr 1 C.length (ints (we C K)):=ev
 have lo:(we C K).length=C.length:=yR C K
 refine tQ (fn:=AP.f351) (h2:=h') (e:=[(4,v),(5,.int .i64 0)]) (vs:=[v,.int .i64 0]) rfl rfl rfl ?_ rfl ?_
 · have hb:AP.f351.body=.seq (at_ 0 AP.f351.body) (.seq (at_ 1 AP.f351.body) (.seq (at_ 2 AP.f351.body) (.seq (at_ 3 AP.f351.body) (.seq (at_ 4 AP.f351.body) (Ls 5 AP.f351.body))))):=rfl
   have c1:¬(C.length:Int)<2:=by omega
   have c2:¬(288:Int)<(C.length:Int):=by omega
   have c3:¬(m:Int)<1:=by omega
   have c4:¬(15:Int)<(m:Int):=by omega
   have c5:¬((2^m:Nat):Int)<(yz C:Nat):=by omega
   have a012:aK (aQ AP.A) bq (.seq (at_ 0 AP.f351.body) (.seq (at_ 1 AP.f351.body) (at_ 2 AP.f351.body))) (params 0 [x,.int .i64 m]) h.dI=some (.normal,[(0,x),(1,.int .i64 m)],h.dI):=by
    clear rd yZ rdg kc ro hr pos nb eg L P ku2 so ppos
    generalize 2^m=M at *
    simp (disch:=omega)only[go_sem,vD,AP.f351,Ad,AL,ln,c1,c2,kb,c3,c4,s1,ku,c5]
   have a3:aK (aQ AP.A) bq (at_ 3 AP.f351.body) [(0,x),(1,.int .i64 m)] h.dI=some (.normal,[(1,.int .i64 m),(7,.aD (h.next+1) 0 C.length 1)],g):=by
    clear rd yZ rdg ro hr pos nb eg L P ku2 so ppos
    have kc':aQ AP.A 118 [x] h.dI=some (.aD (h.next+1) 0 C.length 1,g):=kc
    simp (disch:=omega)only[go_sem,vD,AP.f351,Ad,AL,kc']
   have a5:aK (aQ AP.A) bq (Ls 5 AP.f351.body) [(1,.int .i64 m),(7,.aD (h.next+1) 0 C.length 1)] g2=some (.ret,[(4,v),(5,.int .i64 0)],h'):=by
    clear rd yZ rdg ro hr pos nb eg P ku2 so ppos
    simp (disch:=omega)only[go_sem,vD,AP.f351,Lb,La,rU,L]
   rw[hb]
   refine QF a012 ?_
   rw[rI,a3,sB,rI,P,sB,a5]
 · have s1:snap h'.get h.next 15 true v=some v:=by
    rw[ev'];unfold zr;split<;>rfl
   show(fw (snap h'.get h.next 15 true) [v,.int .i64 0]).bind _=_
   rw[←ev']
   simp only[fw,s1,uJ]
   rfl
theorem DG : ∀ (ts : List Tok) (s : Int), vL s ts = true → ∀ t ∈ ts, yc t ∧ (t.len ≠ 0 → t.lit = 0)
 |[],_,_,t,ht=>by simp at ht
 | k :: ts, s, h, t, ht => by
   rw[vL]at h
   cases e:wq s k with
   |none=>rw[e]at h;cases h
   | some s' =>
     rw[e]at h
     simp only at h
     by_cases c:8192<s'
     · rw[if_pos c]at h;cases h
     · rw [if_neg c] at h
       rcases u6.1 ht with q|q
       · subst q
         unfold wq at e
         by_cases z:t.len=0
         · rw[if_pos z]at e
           split at e
           · cases e
           · exact⟨.inl ⟨z,by omega,by omega⟩,fun n=>absurd z n⟩
         · rw[if_neg z]at e
           split at e
           · cases e
           · exact⟨.inr ⟨by omega,by omega,by omega,by omega⟩,fun _=>by omega⟩
       · exact DG ts s' h t q
theorem H9 : ∀ (ts : List Tok) (o : List Nat), vL o.length ts = true → o.length + ts.length ≤ (xC ts o).length
 |[],o,_=>by simp [xC]
 | t :: r, o, h => by
   rw[vL]at h
   cases e:wq o.length t with
   |none=>rw[e]at h;cases h
   | some s' =>
     rw[e]at h
     simp only at h
     have z:=Al e
     have p:(o.length:Int)+1≤s':=by
      unfold wq at e
      split at e
      · split at e
        · cases e
        · have:=uC e;omega
      · split at e
        · cases e
        · have:=uC e;omega
     by_cases c:8192<s'
     · rw[if_pos c]at h;cases h
     · rw[if_neg c,←z]at h
       have:=H9 r (vS o t) h
       rw[xC,Sc];omega
theorem J7 {ts:List Tok} (h:DP ts=true):vL 0 ts=true∧ts.length≤300∧(∀t∈ts,yc t)∧(∀t∈ts,t.len≠0→t.lit=0)∧(xC ts []).length≤300:=by
 unfold DP yC at h
 by_cases m:vL 0 ts=true
 · rw[if_pos m]at h
   simp only[vW,decide_eq_true_eq]at h
   have:=H9 ts [] m
   have o:=DG ts 0 m
   exact⟨m,by simp at this;omega,fun t ht=>(o t ht).1,fun t ht=>(o t ht).2,h⟩
 · rw[if_neg m]at h;cases h
theorem KG (h : H) (v : AV) (ts : List Tok) (hn : ts.length < 1000000) (rd : yI 3 h v ts.length (wv ts)) : aQ AP.A 326 [v] h = some (if DP ts = true then .bL [.str (bytesOf (vN (wh ts))), .int .i64 0] else .bL [.str ⟨#[]⟩, .int .i64 800], h) := by
 have rd0:yI 3 h.dI v ts.length (wv ts):=rd.mono fun i c q=>q
 have k1:=KI h.dI v ts hn rd0
 by_cases Ib:DP ts=true
 · rw [if_pos Ib]
   rw[Ib]at k1
   obtain⟨_,hl,tok,lit,_⟩:=J7 Ib
   have kf:=Ig h.dI
   have kc:=zL h.dI (v9 vG) vG (by rw[xB];omega) (by rw[xB];omega) (xZ h.dI vG) (.inl (by rw[xS (by rw[xB];omega) (by rw[xB];omega) xz.OY xz.left,if_pos CR]))
   obtain⟨g,eg⟩:∃g,g=h.dI.alloc [.int .i64 5]:=⟨_,rfl⟩
   have hN:h.dI.next=h.next:=rfl
   have k5:aQ AP.A 43 [.aD h.next 0 1 1,.int .i64 30] g=some (v9 wK,g):=by
    have r:=yw g (.aD h.next 0 1 1) 5 30 (by omega) ⟨by
     have gg:g.get h.next=some [.int .i64 5]:=by rw[eg,vx (by simp)]
     simp [aR,gg];rfl,by intro s e;cases e⟩
    exact r
   have l5:wK.length=30:=by simp [wK]
   have kc5:=zL g (v9 wK) wK (by omega) (by omega) (xZ g wK) (.inr (by rw[xS (by omega) (by omega) zP.OY zP.left,if_neg (by rw[D6];omega)]))
   obtain⟨g2,eg2⟩:∃g2:H,g2=g:=⟨_,rfl⟩
   have gfl:g.floor=h.next:=by rw[eg];simp
   have gnx:g.next=h.next+1:=by rw[eg];simp
   have x0:=Lg (h:=g) (by omega)
   obtain⟨h1,o1,p1,w1,f1⟩:=xY x0.wr 1 1 (by omega) (by omega) (by simp)
   have x1:=x0.step w1 f1
   obtain⟨h2,o2,p2,w2,f2⟩:=xY x1.wr 1 2 (by omega) (by omega) (by simp [vz,vH])
   have x2:=x1.step w2 f2
   have kn:aQ AP.A 345 [] g=some (.aC g.next 0,g.alloc [.aO,.int .i64 0]):=by
    refine tz (fn:=AP.f345) (e:=[(0,.aC g.next 0)]) (vs:=[.aC g.next 0]) rfl rfl rfl ?_ rfl
    simp (disch:=omega)only[go_sem,vD,AP.f345]
   have kb:aQ AP.A 333 [.int .i64 1] g=some (.aC g.next 0,h2):=by
    refine tz (fn:=AP.f333) (e:=[(2,.aC g.next 0)]) (vs:=[.aC g.next 0]) rfl rfl rfl ?_ rfl
    clear x0 x1 x2
    have k1':aQ AP.A 335 [.aC g.next 0,.int .i64 1,.int .i64 1] (g.alloc [.aO,.int .i64 0])=some (.int .i64 0,h1):=p1
    have k2':aQ AP.A 335 [.aC g.next 0,.int .i64 1,.int .i64 2] h1=some (.int .i64 0,h2):=p2
    simp (disch:=omega)only[go_sem,vD,AP.f333,kn,k1',k2']
   have rdg:yI 3 g v ts.length (wv ts):=rd0.mono fun i c q=>by
    have:=h.lt i c q
    rw[eg,vu (by simp;omega)];exact q
   obtain⟨h3,k3⟩:=Ix (by omega) g rdg (zN g vG) (zN g wK) (fun t ht=>⟨D7 (tok t ht),tok t ht,lit t ht⟩) (AK xz yO (by rw[xB];omega)) g.next _ h2 o2 x2 (by simp [vz,vH];omega)
   have e:[]++vz 1 1++vz 1 2++(vV (vh vG) (vh wK) ts++vn (vh vG) 256)=wh ts:=by
    have:([]:List Nat)++vz 1 1++vz 1 2=vz 3 3:=by decide
    rw[this];rfl
   rw[e]at k3
   refine tQ (fn:=AP.f326) (h2:=h3) (e:=[(2,.str (bytesOf (vN (wh ts)))),(3,.int .i64 0)]) (vs:=[.str (bytesOf (vN (wh ts))),.int .i64 0]) rfl rfl rfl ?_ rfl rfl
   clear x0 w1 f1 w2 f2 x1 x2 p1 p2 e rd rd0 rdg eg2
   generalize bytesOf (vN (wh ts))=SB at *
   have ic:(v9 vG).cells=[v9 vG]:=rfl
   generalize v9 vG=I1 at *
   generalize v9 wK=I2 at *
   generalize zy vG=C1 at *
   generalize zy wK=C2 at *
   rw[gnx]at kb k3
   simp (disch:=omega)only[go_sem,vD,AP.f326,hN,k1,kf,kc,←eg,k5,kc5,kb,k3]
 · rw[if_neg Ib]
   rw[Bool.eq_false_iff.2 Ib]at k1
   refine tQ (fn:=AP.f326) (h2:=h.dI) (e:=[(2,.str ⟨#[]⟩),(3,.int .i64 800)]) (vs:=[.str ⟨#[]⟩,.int .i64 800]) rfl rfl rfl ?_ rfl rfl
   clear rd rd0
   simp (disch:=omega)only[go_sem,vD,AP.f326,k1]
theorem Jp {v:AV} {ts:List Tok} (hn:ts.length<1000000) (h0:H) (rd:yI 3 h0 v ts.length (wv ts)) (ia ib i:Nat) (t:Tok) (ht:ts[i]?=some t) (o:yc t) (tl:t.len≠0→t.lit=0) (hab:ia≠ib) (hia:h0.next≤ia) (hib:h0.next≤ib) {A B:List Int} {h:H} (hx:Ext h0 h) (ga:h.get ia=some (ints A)) (gb:h.get ib=some (ints B)) (hA:A.length=286) (hB:B.length=30) (rA:∀y∈A,0≤y∧y≤(i:Int)+1) (rB:∀y∈B,0≤y∧y≤(i:Int)+1) (fa:h.floor≤ia) (fb:h.floor≤ib) (hfl:h.floor≤h.next):
 ∃h',aK (aQ AP.A) bq AP.f340L0 (ax [(4,.aD ia 0 286 1),(5,.aD ib 0 30 1),(19,v),(20,.int .i64 ts.length),(21,.int .i64 i)] [4,5,19,20,21]) h=some (.normal,[(4,.aD ia 0 286 1),(5,.aD ib 0 30 1),(19,v),(20,.int .i64 ts.length),(21,.int .i64 (i+1:Nat))],h')∧h'.get ia=some (ints (zu [t] A))∧h'.get ib=some (ints (z4 [t] B))∧Lj h h' ia ib:=by
 obtain⟨ad,a1,a2,a3⟩:=rd.O7
 have hi:i<ts.length:=(uI.1 ht).1
 have hI:(0:Int)≤(i:Int)∧(i:Int)<ts.length:=⟨by omega,by omega⟩
 have b1:=a1 _ hI
 obtain⟨_,_,_,b2⟩:=a3 h hx _ _ ht
 have n1:((i+1:Nat):Int)=(i:Int)+1:=by omega
 have ci:(i:Int)<(ts.length:Int):=hI.2
 have la:(ints A).length=286:=by rw[pF,hA]
 have lb:(ints B).length=30:=by rw[pF,hB]
 have hian:=h.lt _ _ ga
 have hibn:=h.lt _ _ gb
 have step:∀(S B1 V S' B' V':Nat) (cp:Bool),(∀g:H,aQ AP.A 349 [.agg [.int .i64 t.lit,.int .i64 t.len,.int .i64 t.vU]] g=some (.bL [.agg [.int .i64 S,.int .i64 B1,.int .i64 V],.agg [.int .i64 S',.int .i64 B',.int .i64 V'],.bool cp],g))→S<286→S'<30→
  ∃h',aK (aQ AP.A) bq AP.f340L0 (ax [(4,.aD ia 0 286 1),(5,.aD ib 0 30 1),(19,v),(20,.int .i64 ts.length),(21,.int .i64 i)] [4,5,19,20,21]) h=some (.normal,[(4,.aD ia 0 286 1),(5,.aD ib 0 30 1),(19,v),(20,.int .i64 ts.length),(21,.int .i64 (i+1:Nat))],h')∧h'.get ia=some (ints (wV A S))∧h'.get ib=some (ints (if cp=true then wV B S' else B))∧Lj h h' ia ib:=by
  intro S B1 V S' B' V' cp ks hS hS'
  obtain⟨g1,eg1⟩:∃g,g=(h.alloc [.int .i64 0,.int .i64 0,.int .i64 0]).set h.next [.int .i64 t.lit,.int .i64 t.len,.int .i64 t.vU]:=⟨_,rfl⟩
  obtain⟨g2,eg2⟩:∃g,g=(((g1.alloc [.int .i64 0,.int .i64 0,.int .i64 0]).alloc [.int .i64 0,.int .i64 0,.int .i64 0]).set g1.next [.int .i64 S,.int .i64 B1,.int .i64 V]).set (g1.next+1) [.int .i64 S',.int .i64 B',.int .i64 V']:=⟨_,rfl⟩
  have n1':g1.next=h.next+1:=by rw[eg1];simp
  have n2':g2.next=h.next+3:=by rw[eg2];simp;omega
  have f2':g2.floor=h.floor:=by rw[eg2,eg1];simp
  have gt1:g1.get h.next=some [.int .i64 t.lit,.int .i64 t.len,.int .i64 t.vU]:=by rw[eg1,vA rfl,vx rfl];rfl
  have gk1:∀j,j<h.next→g1.get j=h.get j:=fun j hj=>by rw[eg1,vi (by omega),vu (by omega)]
  have gk2:∀j,j<h.next→g2.get j=h.get j:=fun j hj=>by rw[eg2,vi (by omega),vi (by omega),vu (by simp;omega),vu (by omega),gk1 j hj]
  have gS:g2.get g1.next=some [.int .i64 S,.int .i64 B1,.int .i64 V]:=by rw[eg2,vi (by omega),vA rfl,vu (by simp),vx rfl];rfl
  have gT:g2.get (g1.next+1)=some [.int .i64 S',.int .i64 B',.int .i64 V']:=by rw[eg2,vA rfl,vi (by omega),vx (by simp)];rfl
  have hA2:((g1.alloc [.int .i64 0,.int .i64 0,.int .i64 0]).alloc [.int .i64 0,.int .i64 0,.int .i64 0]).get g1.next=some [.int .i64 0,.int .i64 0,.int .i64 0]:=by rw[vu (by simp),vx rfl]
  have hB2:(((g1.alloc [.int .i64 0,.int .i64 0,.int .i64 0]).alloc [.int .i64 0,.int .i64 0,.int .i64 0]).set g1.next [.int .i64 S,.int .i64 B1,.int .i64 V]).get (g1.next+1)=some [.int .i64 0,.int .i64 0,.int .i64 0]:=by rw[vi (by omega),vx (by simp)]
  have fl1:h.floor≤h.next:=hfl
  have flg:g1.floor≤g1.next:=by rw[n1',eg1];simp;omega
  have ga2:g2.get ia=some (ints A):=by rw[gk2 ia hian,ga]
  have gb2:g2.get ib=some (ints B):=by rw[gk2 ib hibn,gb]
  have gx:=AZ (l:=A) (i:=S) (by omega)
  have gy:=AZ (l:=B) (i:=S') (by omega)
  have xr:0≤A.getD S 0∧A.getD S 0≤(i:Int)+1:=by
   rw[Sb,Sd (by omega)]
   exact rA _ (Su _)
  have yr:0≤B.getD S' 0∧B.getD S' 0≤(i:Int)+1:=by
   rw[Sb,Sd (by omega)]
   exact rB _ (Su _)
  have es:=yo A S (A.getD S 0+1)
  have et:=yo B S' (B.getD S' 0+1)
  change _=ints (wV A S)at es
  change _=ints (wV B S')at et
  have iS:cI (.int .i64 (S:Nat)) 286=some S:=by
   have:(S:Int)<((286:Nat):Int):=by omega
   simp [cI,nB];omega
  have iT:cI (.int .i64 (S':Nat)) 30=some S':=by
   simp [cI,nB];omega
  have ibd:i<1000000:=by omega
  have g3b:(g2.set ia (ints (wV A S))).get ib=some (ints B):=by rw[vi hab.symm,gb2]
  have g3T:(g2.set ia (ints (wV A S))).get (g1.next+1)=some [.int .i64 S',.int .i64 B',.int .i64 V']:=by rw[vi (by omega),gT]
  have fa2:g2.floor≤ia:=by omega
  have fb2:g2.floor≤ib:=by omega
  cases cp with
  | false =>
    refine⟨g2.set ia (ints (wV A S)), ?_,by rw[vA rfl,ga2];rfl,by rw[vi hab.symm,gb2];rfl,⟨by simp [f2'],by simp [n2'],fun j h1 h2 _=>by rw[vi h2,gk2 j h1]⟩⟩
    rw[n1]
    clear rd a1 a2 a3 hx rA rB gk1 gk2 et
    generalize A.getD S 0=z at *
    generalize ints (wV A S)=A2 at *
    generalize ints A=A0 at *
    generalize ints B=B0 at *
    simp (disch:=omega)only[go_sem,vD,AP.f340L0,ci,b1,b2,←eg1,gt1,ks,hA2,hB2,←eg2,gS,iS,ga2,la,gx,es,fa2,Lr,uT,SZ,Sy]
  | true =>
    refine⟨(g2.set ia (ints (wV A S))).set ib (ints (wV B S')), ?_,by rw[vi hab,vA rfl,ga2];rfl,by rw[vA rfl,g3b];rfl,⟨by simp [f2'],by simp [n2'],fun j h1 h2 h3=>by rw[vi h3,vi h2,gk2 j h1]⟩⟩
    rw[n1]
    clear rd a1 a2 a3 hx rA rB gk1 gk2
    generalize A.getD S 0=z at *
    generalize B.getD S' 0=z' at *
    generalize ints (wV A S)=A2 at *
    generalize ints (wV B S')=B2 at *
    generalize ints A=A0 at *
    generalize ints B=B0 at *
    simp (disch:=omega)only[go_sem,vD,AP.f340L0,ci,b1,b2,←eg1,gt1,ks,hA2,hB2,←eg2,gS,iS,ga2,la,gx,es,fa2,fb2,g3b,g3T,iT,lb,gy,et,Lr,uT,SZ,Sy]
 rcases o with ⟨c0,h2,h3⟩|⟨h1,h2,h3,h4⟩
 · obtain⟨y,hy⟩:∃y:Nat,t.lit=y:=Sk h2
   have yt:t.lit.toNat=y:=by omega
   obtain⟨h',k,q1,q2,q3⟩:=step y 0 0 0 0 0 false (fun g=>by rw[hy,c0];exact G7 g y t.vU) (by omega) (by omega)
   refine⟨h',k, ?_, ?_,q3⟩
   · rw[q1,zu,if_pos c0,yt];rfl
   · rw[q2,z4,if_pos c0];rfl
 · obtain⟨L,hL⟩:∃y:Nat,t.len=y:=Sk (by omega)
   obtain⟨K,hK⟩:∃y:Nat,t.vU=y:=Sk (by omega)
   have Lt:t.len.toNat=L:=by omega
   have Kt:t.vU.toNat=K:=by omega
   have sl:=yk (k:=L) (by omega) (by omega)
   have sd:=yh (k:=K) (by omega) (by omega)
   obtain⟨h',k,q1,q2,q3⟩:=step (xn L) (zm L) (z5 L) (xN K) (zk K) (Aj K) true (fun g=>by rw[tl (by omega),hL,hK];exact EE g L K (by omega) (by omega) (by omega) (by omega)) (by omega) (by omega)
   refine⟨h',k, ?_, ?_,q3⟩
   · have z:¬t.len=0:=by omega
     rw[q1,zu,if_neg z,Lt];rfl
   · have z:¬t.len=0:=by omega
     rw[q2,z4,if_neg z,Kt];rfl
theorem Er {v:AV} {ts:List Tok} (hn:ts.length<1000000) (h0:H) (rd:yI 3 h0 v ts.length (wv ts)) (ia ib:Nat) (ok:∀t∈ts,yc t) (lit:∀t∈ts,t.len≠0→t.lit=0) (hab:ia≠ib) (hia:h0.next≤ia) (hib:h0.next≤ib):∀(q p:List Tok) (A B:List Int) (h:H),ts=p++q→Ext h0 h→h0.next≤h.next→h.get ia=some (ints A)→h.get ib=some (ints B)→A.length=286→B.length=30→(∀y∈A,0≤y∧y≤(p.length:Int)+1)→(∀y∈B,0≤y∧y≤(p.length:Int)+1)→h.floor≤ia→h.floor≤ib→h.floor≤h.next→
 ∃h',Lp AP.A [4,5,19,20,21] AP.f340L0 [(4,.aD ia 0 286 1),(5,.aD ib 0 30 1),(19,v),(20,.int .i64 ts.length),(21,.int .i64 p.length)] h=some (.exit 0,[(4,.aD ia 0 286 1),(5,.aD ib 0 30 1),(19,v),(20,.int .i64 ts.length),(21,.int .i64 ts.length),(22,.bool false)],h')∧h'.get ia=some (ints (zu q A))∧h'.get ib=some (ints (z4 q B))∧Lj h h' ia ib
 | [], p, A, B, h, hp, hx, hnx, ga, gb, hA, hB, rA, rB, fa, fb, hfl => by
   rw[Sw]at hp;subst hp
   refine⟨h,s6 ?_,ga,gb,Lj.refl h ia ib⟩
   simp (disch:=omega)only[go_sem,vD,AP.f340L0]
 | t :: q, p, A, B, h, hp, hx, hnx, ga, gb, hA, hB, rA, rB, fa, fb, hfl => by
   have ht:ts[p.length]?=some t:=by rw[hp];simp
   have hm:=uQ ht
   obtain⟨h1,s1,ga1,gb1,f1⟩:=Jp hn h0 rd ia ib p.length t ht (ok t hm) (lit t hm) hab hia hib hx ga gb hA hB rA rB fa fb hfl
   have n1:(((p++[t]).length:Nat):Int)=((p.length+1:Nat):Int):=by simp
   have hx1:Ext h0 h1:=fun j c hj=>by
    have:=h0.lt _ _ hj
    rw[f1.vY j (by omega) (by omega) (by omega),hx j c hj]
   obtain⟨h',k,g1,g2,f2⟩:=Er hn h0 rd ia ib ok lit hab hia hib q (p++[t]) (zu [t] A) (z4 [t] B) h1 (by rw[hp];simp) hx1 (u7 hnx f1.next) ga1 gb1 (by rw[CE,hA]) (by rw[CG,hB]) (fun y hy=>by have:=CF [t] A _ (by omega) rA y hy;simp at this ⊢;omega) (fun y hy=>by have:=CH [t] B _ (by omega) rB y hy;simp at this ⊢;omega) (by rw[f1.floor];exact fa) (by rw[f1.floor];exact fb) (by rw[f1.floor];exact u7 hfl f1.next)
   rw[n1]at k
   exact⟨h',s7 s1 k,g1,g2,f1.trans f2⟩
theorem DK (C:List Int):yz C≤C.length:=by
 unfold yz;rw[←vP 0 C];exact wI 0 C
theorem Fm {h:H} {id n:Nat} {l:List Int} (g:h.get id=some (ints l)) (hl:l.length=n):Rd h (.aD id 0 n 1) (ints l):=by
 refine⟨?_,by intro s e;cases e⟩
 have:(ints l).length=n:=by rw[pF];exact hl
 simp [aR,g,this,u4]
theorem HJ (h:H) (v:AV) (ts:List Tok) (KA KB:Nat) (hn:ts.length≤300) (ok:∀t∈ts,yc t) (lit:∀t∈ts,t.len≠0→t.lit=0) (ra:wU 15 KA (wN (dA ts))) (rb:wU 15 KB (wN (dB ts))) (rd:yI 3 h v ts.length (wv ts)):
 aQ AP.A 340 [v] h=some (.bL [zr 1 286 (ints (we (dA ts) KA)),zr 1 30 (ints (we (dB ts) KB))],h):=by
 have rd0:yI 3 h.dI v ts.length (wv ts):=rd.mono fun i c q=>q
 have ln:=rd.len
 have hN:h.dI.next=h.next:=rfl
 obtain⟨g,eg⟩:∃g,g=(h.dI.alloc (xW 286 [.int .i64 0])).alloc (xW 30 [.int .i64 0]):=⟨_,rfl⟩
 have gA:g.get h.next=some (ints (List.replicate 286 0)):=by rw[eg,vu (by simp),vx (by simp),zh]
 have gB:g.get (h.next+1)=some (ints (List.replicate 30 0)):=by rw[eg,vx (by simp),zh]
 have gf:g.floor=h.next:=by rw[eg];simp
 have gn:g.next=h.next+2:=by rw[eg];simp
 obtain⟨g1,eg1⟩:∃g1,g1=g.set h.next (ints ((List.replicate 286 0).set 256 1)):=⟨_,rfl⟩
 have gA1:g1.get h.next=some (ints ((List.replicate 286 0).set 256 1)):=by rw[eg1,vA rfl,gA];rfl
 have gB1:g1.get (h.next+1)=some (ints (List.replicate 30 0)):=by rw[eg1,vi (by omega),gB]
 have x1:Ext h.dI g1:=by rw[eg1,eg];exact(((Ext.refl _).alloc _).alloc _).set (by simp) _
 obtain⟨h',L,q1,q2,f2⟩:=Er (by omega) h.dI rd0 h.next (h.next+1) ok lit (by omega) (by simp) (by simp) ts [] ((List.replicate 286 0).set 256 1) (List.replicate 30 0) g1 rfl x1 (by rw[eg1];simp;omega) gA1 gB1 (by simp) (by simp) (fun y hy=>by
  rcases SK hy with q|q
  · have:=SJ q;omega
  · simp;omega) (fun y hy=>by have:=SJ hy;simp;omega) (by rw[eg1];simp;omega) (by rw[eg1];simp;omega) (by rw[eg1];simp;omega)
 have L':Lp AP.A [4,5,19,20,21] AP.f340L0 [(4,.aD h.next 0 286 1),(5,.aD (h.next+1) 0 30 1),(19,v),(20,.int .i64 ts.length),(21,.int .i64 0)] g1=_:=L
 obtain⟨a1,a2,a3⟩:=H6 ts hn
 obtain⟨b1,b2⟩:=H7 ts hn
 change h'.get h.next=some (ints (dA ts))at q1
 change h'.get (h.next+1)=some (ints (dB ts))at q2
 have k1:=Ff h' (.aD h.next 0 286 1) (dA ts) 15 KA (by omega) (by omega) (Fm q1 a1) (by omega) a2 (by have:=DK (dA ts);omega) ra
 have k2:=Ff h' (.aD (h.next+1) 0 30 1) (dB ts) 15 KB (by omega) (by omega) (Fm q2 b1) (by omega) b2 (by have:=DK (dB ts);omega) rb
 rw[a1]at k1
 rw[b1]at k2
 obtain⟨V1,e1⟩:∃V,V=zr 1 286 (ints (we (dA ts) KA)):=⟨_,rfl⟩
 obtain⟨V2,e2⟩:∃V,V=zr 1 30 (ints (we (dB ts) KB)):=⟨_,rfl⟩
 rw[←e1]at k1 ⊢
 rw[←e2]at k2 ⊢
 refine tQ (fn:=AP.f340) (h2:=h') (e:=[(2,V1),(3,V2)]) (vs:=[V1,V2]) rfl rfl rfl ?_ rfl ?_
 · have st:(ints (List.replicate 286 0)).set 256 (.int .i64 1)=ints ((List.replicate 286 0).set 256 1):=yo _ _ _
   have lA:(ints (List.replicate 286 0)).length=286:=by simp
   have ga':g.get h.next=some (ints (List.replicate 286 0)):=gA
   have k1':aQ AP.A 351 [.aD h.next 0 286 1,.int .i64 15] h'=some (.bL [V1,.int .i64 0],h'):=k1
   have k2':aQ AP.A 351 [.aD (h.next+1) 0 30 1,.int .i64 15] h'=some (.bL [V2,.int .i64 0],h'):=k2
   rw[←st]at eg1
   clear L q1 q2 f2 x1 rd rd0 ra rb a2 b2 k1 k2 gB gA1 gB1 st ok lit
   generalize ints (List.replicate 286 0)=A0 at *
   have hN2:(h.dI.alloc (xW 286 [.int .i64 0])).next=h.next+1:=by simp
   simp (disch:=omega)only[go_sem,vD,AP.f340,hN,hN2,←eg,ga',lA,gf,←eg1,ln,rU,L',k1',k2']
 · have s1:snap h'.get h.next 15 true V1=some V1:=by rw[e1];unfold zr;rfl
   have s2:snap h'.get h.next 15 true V2=some V2:=by rw[e2];unfold zr;rfl
   show(fw (snap h'.get h.next 15 true) [V1,V2]).bind _=_
   simp only[fw,s1,s2,uJ]
theorem Ax {x : AV} {l : List Int} (hl : l.length < 1000) (pos : ∀ y ∈ l, 0 ≤ y) (h : H) (rd : Rd h x (ints l)) (k : Nat) : ∀ i : Nat, k ≤ i → i ≤ l.length →
 ∃e',Lp AP.A [0,1,5] AP.f342L0 [(0,x),(1,.int .i64 k),(5,.int .i64 i)] h=some (.exit 0,e',h)∧look e' 0=x∧look e' 5=.int .i64 (vO l k i:Nat)
 | 0, hk, hi => by
   obtain rfl:k=0:=by omega
   refine⟨[(0,x),(1,.int .i64 (0:Nat)),(5,.int .i64 (0:Nat)),(18,.bool false)],s6 ?_,rfl,rfl⟩
   have c:¬((0:Nat):Int)<((0:Nat):Int):=by omega
   generalize ((0:Nat):Int)=z at *
   simp (disch:=omega)only[go_sem,vD,AP.f342L0,c]
 | i + 1, hk, hi => by
   by_cases c:i+1≤k
   · obtain rfl:k=i+1:=by omega
     refine⟨[(0,x),(1,.int .i64 (i+1:Nat)),(5,.int .i64 (i+1:Nat)),(18,.bool false)],s6 ?_,rfl,by rw[vO,if_pos c];rfl⟩
     have c:¬((i+1:Nat):Int)<((i+1:Nat):Int):=by omega
     generalize ((i+1:Nat):Int)=z at *
     simp (disch:=omega)only[go_sem,vD,AP.f342L0,c]
   · obtain⟨ad,a1,a2⟩:=rd.xu
     have b1:=a1 i ⟨by omega,by omega⟩
     have lg:l[i]?=some (l.getD i 0):=by rw[Sb,Sd (by omega)];rfl
     have b2:=a2 h (Ext.refl h) i _ lg
     have yp:=pos _ (uQ lg)
     have n1:((i+1:Nat):Int)-1=(i:Int):=by omega
     have c1:(k:Int)<((i+1:Nat):Int):=by omega
     rw[vO,if_neg c]
     generalize l.getD i 0=y at *
     have sb:((i+1:Nat):Int)<100000:=by omega
     have sb0:0≤((i+1:Nat):Int):=by omega
     by_cases c2:0<y
     · rw[if_pos c2]
       refine⟨[(0,x),(1,.int .i64 k),(5,.int .i64 (i+1:Nat)),(18,.bool false)],s6 ?_,rfl,rfl⟩
       have cb:(y==0)=false:=by simp;omega
       generalize ((i+1:Nat):Int)=z at *
       clear rd a1 a2 pos
       simp (disch:=omega)only[go_sem,vD,AP.f342L0,c1,n1,b1,b2,cb]
     · rw[if_neg c2]
       have cb:(y==0)=true:=by simp;omega
       obtain⟨e',L,r1,r2⟩:=Ax hl pos h rd k i (by omega) (by omega)
       refine⟨e',s7 ?_ L,r1,r2⟩
       clear L
       generalize ((i+1:Nat):Int)=z at *
       clear rd a1 a2 pos
       simp (disch:=omega)only[go_sem,vD,AP.f342L0,c1,n1,b1,b2,cb]
theorem Ey (h:H) (l:List Int) (h1:1≤l.length) (hl:l.length<1000) (pos:∀y∈l,0≤y) (k:Nat) (hk:k≤l.length):aQ AP.A 342 [zr 1 l.length (ints l),.int .i64 k] h=some (.aU false (ints l) 0 (vO l k l.length) 1,h):=by
 have ex:zr 1 l.length (ints l)=.aU false (ints l) 0 l.length 1:=by unfold zr;rw[if_neg (by omega)]
 rw[ex]
 have yZ:Rd h.dI (.aU false (ints l) 0 l.length 1) (ints l):=by rw[←ex];exact Ay h.dI l
 obtain⟨e',L,r1,r2⟩:=Ax hl pos h.dI yZ k l.length hk (uM _)
 have ur:=wL l k l.length
 have s1:rP h.dI 1 (.aU false (ints l) 0 l.length 1) none (some (.int .i64 (vO l k l.length:Nat))) none=some (.aU false (ints l) 0 (vO l k l.length) 1):=by
  have:vO l k l.length≤l.length:=by omega
  have q:(ints l).length=l.length:=pF l
  simp [rP,aA,j2,nB,q,this]
 refine tQ (fn:=AP.f342) (h2:=h.dI) (e:=[(4,.aU false (ints l) 0 (vO l k l.length) 1)]) (vs:=[.aU false (ints l) 0 (vO l k l.length) 1]) rfl rfl rfl ?_ rfl rfl
 clear yZ pos ex ur
 generalize vO l k l.length=U at *
 generalize ints l=P at *
 simp (disch:=omega)only[go_sem,vD,AP.f342,Hi,rU,L,r1,r2,s1]
theorem Jx (h:H) (id:Nat) (l:List Int) (g:h.get id=some (ints l)) (hl:l.length<1000) (pos:∀y∈l,0≤y) (k:Nat) (hk:k≤l.length):aQ AP.A 342 [.aD id 0 l.length 1,.int .i64 k] h=some (.aD id 0 (vO l k l.length) 1,h):=by
 have yZ:Rd h.dI (.aD id 0 l.length 1) (ints l):=(Fm g rfl).mono (vB h)
 obtain⟨e',L,r1,r2⟩:=Ax hl pos h.dI yZ k l.length hk (uM _)
 have ur:=wL l k l.length
 have gl:=h.lt _ _ g
 have s1:rP h.dI 1 (.aD id 0 l.length 1) none (some (.int .i64 (vO l k l.length:Nat))) none=some (.aD id 0 (vO l k l.length) 1):=by
  have q:(ints l).length=l.length:=pF l
  have:=Mt (h:=h.dI) (m:=(vO l k l.length:Nat)) (p:=id) (o:=0) (k:=l.length) (n:=1) g (by omega) (by omega) ⟨by omega,by simp;omega⟩
  rw[show(((vO l k l.length:Nat):Int)).toNat=vO l k l.length by omega]at this
  exact this
 refine tQ (fn:=AP.f342) (h2:=h.dI) (e:=[(4,.aD id 0 (vO l k l.length) 1)]) (vs:=[.aD id 0 (vO l k l.length) 1]) rfl rfl rfl ?_ rfl ?_
 · clear yZ pos ur
   generalize vO l k l.length=U at *
   simp (disch:=omega)only[go_sem,vD,AP.f342,zt,rU,L,r1,r2,s1]
 · show snap h.dI.get h.next 16 true (.aD id 0 _ 1)=_
   simp [snap,gl]
theorem D9 {w:AV} {v1 v2 av:AV} {D:List Int} (hD:D.length<1000) (hr:∀d∈D,0≤d∧d<19) (ic:Nat) (hb:H) (rd:Rd hb av (ints D)) (hno:hb.get ic=none):∀(q p C:List Int) (h:H),D=p++q→Ext hb h→h.get ic=some (ints C)→C.length=19→(∀y∈C,0≤y∧y≤(p.length:Int))→h.floor≤ic→
 ∃h',Lp AP.A [0,1,2,6,7,28,29,30] AP.f341L3 [(0,w),(1,v1),(2,v2),(6,av),(7,.aD ic 0 19 1),(28,av),(29,.int .i64 D.length),(30,.int .i64 p.length)] h=some (.exit 0,[(0,w),(1,v1),(2,v2),(6,av),(7,.aD ic 0 19 1),(28,av),(29,.int .i64 D.length),(30,.int .i64 D.length),(31,.bool false)],h')∧h'.get ic=some (ints (xj q C))∧h'.floor=h.floor∧h'.next=h.next∧(∀i,i≠ic→h'.get i=h.get i)
 | [], p, C, h, hp, hx, gc, hC, rC, fc => by
   rw[Sw]at hp;subst hp
   refine⟨h,s6 ?_,gc,rfl,rfl,fun _ _=>rfl⟩
   simp (disch:=omega)only[go_sem,vD,AP.f341L3]
 | d :: q, p, C, h, hp, hx, gc, hC, rC, fc => by
   have hl:D.length=p.length+(q.length+1):=by rw[hp];simp
   obtain⟨ad,a1,a2⟩:=rd.xu
   have b1:=a1 p.length ⟨by omega,by omega⟩
   have hd:D[p.length]?=some d:=by rw[hp];simp
   have b2:=a2 h hx p.length d hd
   have dr:=hr d (uQ hd)
   have c1:((p.length:Nat):Int)<D.length:=by omega
   obtain⟨k,rfl⟩:=Sk dr.1
   have gx:=AZ (l:=C) (i:=k) (by omega)
   have xr:0≤C.getD k 0∧C.getD k 0≤(p.length:Int):=by
    rw[Sb,Sd (by omega)]
    exact rC _ (Su _)
   have es:=yo C k (C.getD k 0+1)
   change _=ints (wV C k)at es
   have lC:(ints C).length=19:=by rw[pF,hC]
   have ib:cI (.int .i64 (k:Nat)) 19=some k:=by simp [cI,nB];omega
   obtain⟨h',L,g1,f1,n1,k1⟩:=D9 hD hr ic hb rd hno q (p++[(k:Int)]) (wV C k) (h.set ic (ints (wV C k))) (by rw[hp];simp) (hx.IC hno _) (by rw[vA rfl,gc];rfl) (by rw[xm,hC]) (fun y hy=>by
    have:=yQ rC (by omega) y hy
    simp;omega) (by simpa using fc)
   have e1:xj ((k:Int)::q) C=xj q (wV C k):=by rw[xj];rfl
   refine⟨h',s7 ?_ L,by rw[e1];exact g1,by rw[f1];simp,by rw[n1];simp,fun i hi=>by rw[k1 i hi,vi hi]⟩
   have n2:(((p++[(k:Int)]).length:Nat):Int)=(p.length:Int)+1:=by simp
   rw[n2]
   clear L rd a1 a2 g1 k1 rC hr hx
   generalize C.getD k 0=z at *
   generalize ints (wV C k)=C2 at *
   generalize ints C=C1 at *
   simp (disch:=omega)only[go_sem,vD,AP.f341L3,c1,b1,b2,ib,gc,lC,gx,es,fc]
theorem Eb {w v1 v2 av cv:AV} {Lc:List Int} (hL:Lc.length=19) (h0:H) (rd:Rd h0 cv (ints Lc)):∀(q p R:List Int) (h:H) (rv:AV),vC=p++q→Ext h0 h→h.floor≤h.next→wm 1 h rv R.length (ints R)→R.length=p.length→(∀j,rv.id?=some j→h0.next≤j)→h0.next≤h.next→
 ∃h' rv',Lp AP.A [0,1,2,6,10,12,46,47,48] AP.f341L2 [(0,w),(1,v1),(2,v2),(6,av),(10,cv),(12,rv),(46,v9 vC),(47,.int .i64 19),(48,.int .i64 p.length)] h=some (.exit 2,[(0,w),(1,v1),(2,v2),(6,av),(10,cv),(12,rv'),(46,v9 vC),(47,.int .i64 19),(48,.int .i64 19),(49,.bool false)],h')∧wm 1 h' rv' (R++q.map (fun o=>Lc.getD o.toNat 0)).length (ints (R++q.map (fun o=>Lc.getD o.toNat 0)))∧h'.floor=h.floor∧h.next≤h'.next∧(∀i,i<h0.next→h'.get i=h.get i)∧(∀j,rv'.id?=some j→h0.next≤j)
 | [], p, R, h, rv, hp, hx, hfl, o, hR, hid, hn => by
   have:p.length=19:=by
    have:=SI List.length hp
    rw[Sw]at this
    rw[←this];rfl
   rw[this]
   refine⟨h,rv,s6 ?_,by simpa using o,rfl,uM _,fun _ _=>rfl,hid⟩
   have c:¬((19:Nat):Int)<19:=by omega
   simp (disch:=omega)only[go_sem,vD,AP.f341L2,c]
 | d :: q, p, R, h, rv, hp, hx, hfl, o, hR, hid, hn => by
   have hl:19=p.length+(q.length+1):=by
    have:=SI List.length hp
    simpa [vC]using this
   obtain⟨ad,a1,a2⟩:=(xZ h vC).xu
   have ol:vC.length=19:=rfl
   have b1:=a1 p.length ⟨by omega,by omega⟩
   have hd:vC[p.length]?=some d:=by rw[hp];simp
   have b2:=a2 h (Ext.refl h) p.length d hd
   have dm:d∈vC:=uQ hd
   have dr:0≤d∧d<19:=by
    have:∀y∈vC,0≤y∧y<19:=by decide
    exact this d dm
   have c1:((p.length:Nat):Int)<19:=by omega
   obtain⟨k,rfl⟩:=Sk dr.1
   obtain⟨cd,d1,d2⟩:=rd.xu
   have e1:=d1 k ⟨by omega,by omega⟩
   have lg:Lc[k]?=some (Lc.getD k 0):=by rw[Sb,Sd (by omega)];rfl
   have e2:=d2 h hx k _ lg
   obtain⟨v',h1,p1,p2,p3,p4,p5,p6⟩:=o.push hfl (z:=8) (m:=1) (by omega) (by omega) [.int .i64 (Lc.getD k 0)] rfl rfl (zW (by omega))
   have hx1:Ext h0 h1:=fun i c hi=>by
    have:=h0.lt _ _ hi
    rw[p5 i (fun e=>by have:=hid i e;omega) (by omega),hx i c hi]
   have o2:wm 1 h1 v' (R++[Lc.getD k 0]).length (ints (R++[Lc.getD k 0])):=by rw[pE,vb];exact p2
   obtain⟨h',rv',L,q1,q2,q3,q4,q5⟩:=Eb hL h0 rd q (p++[(k:Int)]) (R++[Lc.getD k 0]) h1 v' (by rw[hp];simp) hx1 (by omega) o2 (by simp [hR]) (fun j hj=>by rw[p6]at hj;have:=uC hj;omega) (by omega)
   have n2:(((p++[(k:Int)]).length:Nat):Int)=(p.length:Int)+1:=by simp
   rw[n2]at L
   refine⟨h',rv',s7 ?_ L, ?_,by omega,by omega,fun i hi=>by rw[q4 i hi,p5 i (fun e=>by have:=hid i e;omega) (by omega)],q5⟩
   · clear L q1 rd a1 a2 d1 d2 o2 hx hx1 q4 p2 o
     generalize Lc.getD k 0=z at *
     simp (disch:=omega)only[go_sem,vD,AP.f341L2,c1,b1,b2,e1,e2,p1]
   · rw[Sp]at q1
     exact q1
theorem Ea {h0:H} {w:Nat} {av cv:AV} {rid:Nat} {R:List Int} (hR:R.length<1000) (hr:∀y∈R,0≤y∧y<8) (rid0:rid≠w):∀(q p:List Int) (bs:List Nat) (h:H) (ov:AV) (J:List AV),R=p++q→WX h0 h w bs ov→h.get rid=some (ints R++J)→ov.id?≠some rid→bs.length+3* q.length≤60000→
 ∃h' ov',Lp AP.A [0,6,10,77,78,79] AP.f341L1 [(0,.aC w 0),(6,av),(10,cv),(77,.aD rid 0 R.length 1),(78,.int .i64 R.length),(79,.int .i64 p.length)] h=some (.exit 4,[(0,.aC w 0),(6,av),(10,cv),(77,.aD rid 0 R.length 1),(78,.int .i64 R.length),(79,.int .i64 R.length),(80,.bool false)],h')∧WX h0 h' w (bs++zo q) ov'
 | [], p, bs, h, ov, J, hp, x, gr, hor, hb => by
   rw[Sw]at hp;subst hp
   refine⟨h,ov,s6 ?_,by simpa [zo]using x⟩
   simp (disch:=omega)only[go_sem,vD,AP.f341L1]
 | y :: q, p, bs, h, ov, J, hp, x, gr, hor, hb => by
   have hl:R.length=p.length+(q.length+1):=by rw[hp];simp
   have hy:R[p.length]?=some y:=by rw[hp];simp
   have yr:=hr y (uQ hy)
   obtain⟨k,rfl⟩:=Sk yr.1
   have c1:((p.length:Nat):Int)<R.length:=by omega
   have gy:(ints R++J)[p.length]?=some (.int .i64 k):=by
    rw[Sn (by rw[pF];omega)]
    exact sG hy
   have ib:cI (.int .i64 (p.length:Nat)) R.length=some p.length:=by simp [cI,nB];omega
   simp only[Sc]at hb
   obtain⟨h1,o1,k1,w1,f1⟩:=xY x.wr k 3 (by omega) (by omega) (by omega)
   have lr:=h.lt _ _ gr
   obtain⟨h',ov',L,x2⟩:=Ea hR hr rid0 q (p++[(k:Int)]) (bs++vz k 3) h1 o1 J (by rw[hp];simp) (x.step w1 f1) (by rw[f1.vY rid lr rid0 hor,gr]) (fun e=>by
    rcases f1.ids rid e with z|z
    · exact hor z
    · omega) (by simp [vz,vH];omega)
   have n2:(((p++[(k:Int)]).length:Nat):Int)=(p.length:Int)+1:=by simp
   rw[n2]at L
   have k1':aQ AP.A 335 [.aC w 0,.int .i64 k,.int .i64 3] h=some (.int .i64 0,h1):=k1
   refine⟨h',ov',s7 ?_ L, ?_⟩
   · clear L x x2 w1 f1 k1 hr
     generalize ints R++J=P at *
     simp (disch:=omega)only[go_sem,vD,AP.f341L1,c1,ib,gr,gy,k1']
   · have:zo ((k:Int)::q)=vz k 3++zo q:=by simp [zo]
     rw[this,←Sp];exact x2
theorem CT {h0 : H} {w : Nat} {cv : AV} {D : List Int} {E : List (Int × Int)} (hD : D.length < 1000) (ok : ∀ y ∈ D, 0 ≤ y ∧ AH E y.toNat) (av : AV) (rd : Rd h0 av (ints D)) (rl : yI 2 h0 cv E.length (E.flatMap wO)) : ∀ (q p : List Int) (bs : List Nat) (h : H) (ov : AV), D = p ++ q → WX h0 h w bs ov → bs.length + 15 * q.length ≤ 60000 →
 ∃h' ov',Lp AP.A [0,17,92,93,94] AP.f341L0 [(0,.aC w 0),(17,cv),(92,av),(93,.int .i64 D.length),(94,.int .i64 p.length)] h=some (.exit 6,[(0,.aC w 0),(17,cv),(92,av),(93,.int .i64 D.length),(94,.int .i64 D.length),(95,.bool false)],h')∧WX h0 h' w (bs++yH E q) ov'∧(h.next≤h'.next)
 | [], p, bs, h, ov, hp, x, hb => by
   rw[Sw]at hp;subst hp
   refine⟨h,ov,s6 ?_,by simpa [yH]using x,uM _⟩
   simp (disch:=omega)only[go_sem,vD,AP.f341L0]
 | y :: q, p, bs, h, ov, hp, x, hb => by
   have hl:D.length=p.length+(q.length+1):=by rw[hp];simp
   have hy:D[p.length]?=some y:=by rw[hp];simp
   obtain⟨y0,oy⟩:=ok y (uQ hy)
   obtain⟨k,rfl⟩:=Sk y0
   have tk:((k:Nat):Int).toNat=k:=by omega
   rw[tk]at oy
   have c1:((p.length:Nat):Int)<D.length:=by omega
   obtain⟨ad,a1,a2⟩:=rd.xu
   have b1:=a1 p.length ⟨by omega,by omega⟩
   have b2:=a2 h x.ext p.length _ hy
   obtain⟨le,l1,l2⟩:=rl.Mr
   obtain⟨n,c,q0,q1,q2,q3,q4⟩:=oy.bits
   have e1:=l1 k ⟨by omega,by have:=oy.lt;omega⟩
   have e2:=l2 h x.ext _ _ q0
   simp only[Sc]at hb
   obtain⟨h1,o1,k1,w1,f1⟩:=Iu x.wr c n q1 q2 q3 (by omega)
   obtain⟨h',ov',L,x2,nn⟩:=CT hD ok av rd rl q (p++[(k:Int)]) (bs++yn c n) h1 o1 (by rw[hp];simp) (x.step w1 f1) (by simp [wg];omega)
   have n2:(((p++[(k:Int)]).length:Nat):Int)=(p.length:Int)+1:=by simp
   rw[n2]at L
   have fn:=f1.next
   refine⟨h',ov',s7 ?_ L, ?_,by omega⟩
   · clear L x x2 w1 f1 ok rd rl a1 a2 l1 l2
     simp (disch:=omega)only[go_sem,vD,AP.f341L0,c1,b1,b2,e1,e2,k1]
   · have:yH E ((k:Int)::q)=yn c n++yH E q:=by
      rw[←q4];simp [yH]
     rw[this,←Sp];exact x2
theorem KH {h0 h:H} {w:Nat} {bs:List Nat} {ov:AV} (x:WX h0 h w bs ov) {v1 v2:AV} {la lb Lc:List Int} {KC:Nat} (r1:Rd h0 v1 (ints la)) (r2:Rd h0 v2 (ints lb)) (sc1:v1.sc=true) (sc2:v2.sc=true) (ce1:v1.cells=[v1]) (ce2:v2.cells=[v2]) (hbs:bs.length≤100) (hla:257≤la.length∧la.length≤286) (hlb:1≤lb.length∧lb.length≤30) (hall:∀y∈la++lb,0≤y∧y<19) (rc:wU 7 KC (wN (xj (la++lb) (List.replicate 19 0)))) (ec:Lc=we (xj (la++lb) (List.replicate 19 0)) KC) (row:∀y∈Lc,0≤y∧y<8) (cc:vF Lc=0∨vF Lc=302) (zI:∀y∈la++lb,AH (vh Lc) y.toNat):
 ∃h' ov',aQ AP.A 341 [.aC w 0,v1,v2] h=some (.bL [],h')∧WX h0 h' w (bs++(vz (la.length-257) 5++(vz (lb.length-1) 5++(vz (vO (vC.map (fun o=>Lc.getD o.toNat 0)) 4 19-4) 4++(zo ((vC.map (fun o=>Lc.getD o.toNat 0)).take (vO (vC.map (fun o=>Lc.getD o.toNat 0)) 4 19))++yH (vh Lc) (la++lb)))))) ov':=by
 obtain⟨D,eD⟩:∃D,D=la++lb:=⟨_,rfl⟩
 have lD:D.length=la.length+lb.length:=by rw[eD];simp
 have l1:iV false v1=some (.int .i64 la.length):=by
  have:=r1.len;rw[pF]at this;exact this
 have l2:iV false v2=some (.int .i64 lb.length):=by
  have:=r2.len;rw[pF]at this;exact this
 have lw:=h.lt _ _ x.wr.get
 have wfl:=x.wr.fl
 have wflx:=x.wr.JI
 obtain⟨h1,eh1⟩:∃g,g=h.alloc [v1,v2]:=⟨_,rfl⟩
 have n1:h1.next=h.next+1:=by rw[eh1];simp
 have f1:h1.floor=h.floor:=by rw[eh1];simp
 have k1e:∀i,i<h.next→h1.get i=h.get i:=fun i hi=>by rw[eh1,vu (by omega)]
 have k62:aQ AP.A 62 [.aD h.next 0 2 1] h1=some (v9 D,h1):=by
  have e1:h1.get h.next=some [v1,v2]:=by rw[eh1,vx rfl]
  have rr:Rd h1 (.aD h.next 0 2 1) ([(v1,la),(v2,lb)].map (·.1)):=⟨by simp [aR,e1],by intro s e;cases e⟩
  have e:cat [(v1,la),(v2,lb)]=D:=by rw[eD];simp [cat]
  have up:∀i c,h0.get i=some c→h1.get i=some c:=fun i c hi=>by
   have e:=x.ext i c hi
   rw[k1e i (h.lt _ _ e),e]
  have:=CK h1 (.aD h.next 0 2 1) [(v1,la),(v2,lb)] rr (fun p hp=>by
   simp at hp
   rcases hp with rfl|rfl
   · exact r1.mono up
   · exact r2.mono up) (by rw[e];omega) (by simp) (by rw[e];omega)
  rw[e]at this;exact this
 have lnD:iV false (v9 D)=some (.int .i64 D.length):=rfl
 have ko:=fun g=>Ir g
 have lnO:iV false (v9 vC)=some (.int .i64 19):=rfl
 obtain⟨h2,eh2⟩:∃g,g=h1.alloc (xW 19 [.int .i64 0]):=⟨_,rfl⟩
 have n2:h2.next=h.next+2:=by rw[eh2];simp;omega
 have g2:h2.get h1.next=some (ints (List.replicate 19 0)):=by rw[eh2,vx rfl,zh]
 rw[←eD]at hall rc ec zI ⊢
 obtain⟨h3,L3,g3,f3,n3,k3⟩:=D9 (w:=.aC w 0) (v1:=v1) (v2:=v2) (av:=v9 D) (by omega) hall h1.next H.empty (xZ _ _) (by simp [H.empty,H.get]) D [] (List.replicate 19 0) h2 rfl (fun i c q=>by simp [H.empty,H.get]at q) g2 (by simp) (fun y hy=>by have:=SJ hy;simp;omega) (by rw[eh2];simp;omega)
 have L3':Lp AP.A [0,1,2,6,7,28,29,30] AP.f341L3 [(0,.aC w 0),(1,v1),(2,v2),(6,v9 D),(7,.aD h1.next 0 19 1),(28,v9 D),(29,.int .i64 D.length),(30,.int .i64 0)] h2=_:=L3
 have c1:(xj D (List.replicate 19 0)).length=19:=by rw[AQ,Ss]
 have c2:∀y∈xj D (List.replicate 19 0),0≤y∧y≤2147483647:=fun y hy=>by
  have:=AR D _ 0 (by omega) (zg 19) y hy
  omega
 have k7:=Ff h3 (.aD h1.next 0 19 1) (xj D (List.replicate 19 0)) 7 KC (by omega) (by omega) (Fm g3 c1) (by omega) c2 (by have:=DK (xj D (List.replicate 19 0));omega) rc
 rw[←ec,c1]at k7
 have lLc:Lc.length=19:=by rw[ec,yR,c1]
 have f3':h3.floor=h.floor:=by rw[f3,eh2];simp;exact f1
 obtain⟨h4,rv,L2,o4,f4,n4,k4,id4⟩:=Eb (w:=.aC w 0) (v1:=v1) (v2:=v2) (av:=v9 D) lLc h3 (cv:=zr 1 19 (ints Lc)) (by have:=Ay h3 Lc;rwa [lLc]at this) vC [] [] h3 .aO rfl (Ext.refl _) (by omega) wm.nil rfl (fun j hj=>by cases hj) (uM _)
 have L2':Lp AP.A [0,1,2,6,10,12,46,47,48] AP.f341L2 [(0,.aC w 0),(1,v1),(2,v2),(6,v9 D),(10,zr 1 19 (ints Lc)),(12,.aO),(46,v9 vC),(47,.int .i64 19),(48,.int .i64 0)] h3=_:=L2
 obtain⟨R,eR⟩:∃R,R=vC.map (fun o=>Lc.getD o.toNat 0):=⟨_,rfl⟩
 rw[List.nil_append,←eR]at o4
 rw[←eR]
 have lR:R.length=19:=by rw[eR];rfl
 obtain⟨rid,erv,gr,_⟩:=JM o4 (by omega)
 have rid3:h3.next≤rid:=id4 rid (by rw[erv];rfl)
 have pR:∀y∈R,0≤y∧y<8:=fun y hy=>by
  rw[eR]at hy
  obtain⟨o,ho,rfl⟩:=Sm.1 hy
  rw[Sb]
  cases e:Lc[o.toNat]? with
  |none=>simp
  |some z=>exact row z (uQ e)
 have kt:=Jx h4 rid R gr (by omega) (fun y hy=>(pR y hy).1) 4 (by omega)
 rw[lR]at kt
 have ur:=wL R 4 19
 obtain⟨U,eU⟩:∃U,U=vO R 4 19:=⟨_,rfl⟩
 rw[←eU]at kt ur ⊢
 have k4e:∀i,i<h.next→h4.get i=h.get i:=fun i hi=>by rw[k4 i (by omega),k3 i (by omega),eh2,vu (by omega),k1e i hi]
 have x4:WX h0 h4 w bs ov:=x.turn (by omega) (by omega) k4e
 have hon:ov.id?≠some rid:=fun q=>by have:=(x.wr.own.lt q).2;omega
 obtain⟨h5,o5,k5,w5,r5⟩:=xY x4.wr (la.length-257) 5 (by omega) (by omega) (by omega)
 have x5:=x4.step w5 r5
 have lr4:=h4.lt _ _ gr
 have g5:h5.get rid=some (ints R):=by rw[r5.vY rid lr4 (by omega) hon,gr]
 have hon5:o5.id?≠some rid:=fun e=>by
  rcases r5.ids rid e with z|z
  · exact hon z
  · omega
 obtain⟨h6,o6,k6,w6,r6⟩:=xY x5.wr (lb.length-1) 5 (by omega) (by omega) (by simp [vz,vH];omega)
 have x6:=x5.step w6 r6
 have lr5:=h5.lt _ _ g5
 have g6:h6.get rid=some (ints R):=by rw[r6.vY rid lr5 (by omega) hon5,g5]
 have hon6:o6.id?≠some rid:=fun e=>by
  rcases r6.ids rid e with z|z
  · exact hon5 z
  · omega
 obtain⟨h7,o7,k7p,w7,r7⟩:=xY x6.wr (U-4) 4 (by omega) (by omega) (by simp [vz,vH];omega)
 have x7:=x6.step w7 r7
 have lr6:=h6.lt _ _ g6
 have g7:h7.get rid=some (ints R):=by rw[r7.vY rid lr6 (by omega) hon6,g6]
 have hon7:o7.id?≠some rid:=fun e=>by
  rcases r7.ids rid e with z|z
  · exact hon6 z
  · omega
 have lT:(R.take U).length=U:=by rw[SM];omega
 have eT:ints R=ints (R.take U)++ints (R.drop U):=by rw[←pE,List.take_append_drop]
 rw[eT]at g7
 obtain⟨h8,o8,L1,x8⟩:=Ea (av:=v9 D) (cv:=zr 1 19 (ints Lc)) (R:=R.take U) (by omega) (fun y hy=>pR y (List.mem_of_mem_take hy)) (by omega) (R.take U) [] _ h7 o7 (ints (R.drop U)) rfl x7 g7 hon7 (by simp [vz,vH];omega)
 rw[lT]at L1
 have L1':Lp AP.A [0,6,10,77,78,79] AP.f341L1 [(0,.aC w 0),(6,v9 D),(10,zr 1 19 (ints Lc)),(77,.aD rid 0 U 1),(78,.int .i64 U),(79,.int .i64 0)] h7=_:=L1
 have kc:=zL h8 (zr 1 19 (ints Lc)) Lc (by omega) (by omega) (by have:=Ay h8 Lc;rwa [lLc]at this) cc
 obtain⟨h9,o9,L0,x9,_⟩:=CT (by omega) (fun y hy=>⟨(hall y hy).1,zI y hy⟩) (v9 D) (xZ h0 D) (zN h0 Lc) D [] _ h8 o8 rfl x8 (by simp [vz,vH,Bh];omega)
 have L0':Lp AP.A [0,17,92,93,94] AP.f341L0 [(0,.aC w 0),(17,zy Lc),(92,v9 D),(93,.int .i64 D.length),(94,.int .i64 0)] h8=_:=L0
 refine⟨h9,o9,v8 (fn:=AP.f341) (e:=[]) (vs:=[]) rfl rfl rfl ?_ rfl,by simpa only[Sp]using x9⟩
 have z1:((la.length-257:Nat):Int)=(la.length:Int)-257:=by omega
 have z2:((lb.length-1:Nat):Int)=(lb.length:Int)-1:=by omega
 have z3:((U-4:Nat):Int)=(U:Int)-4:=by omega
 rw[z1]at k5
 rw[z2]at k6
 rw[z3]at k7p
 have k5':aQ AP.A 335 [.aC w 0,.int .i64 ((la.length:Int)-257),.int .i64 5] h4=some (.int .i64 0,h5):=k5
 have k6':aQ AP.A 335 [.aC w 0,.int .i64 ((lb.length:Int)-1),.int .i64 5] h5=some (.int .i64 0,h6):=k6
 have k7':aQ AP.A 335 [.aC w 0,.int .i64 ((U:Int)-4),.int .i64 4] h6=some (.int .i64 0,h7):=k7p
 have k351:aQ AP.A 351 [.aD h1.next 0 19 1,.int .i64 7] h3=some (.bL [zr 1 19 (ints Lc),.int .i64 0],h3):=k7
 have kt':aQ AP.A 342 [.aD rid 0 19 1,.int .i64 4] h4=some (.aD rid 0 U 1,h4):=kt
 have ia:(la.length:Int)≤286:=by omega
 have ib:(lb.length:Int)≤30:=by omega
 have iU:(U:Int)≤19:=by omega
 have e19:∀V,iV false (AV.aD V 0 19 1)=some (.int .i64 19):=fun _=>rfl
 rw[erv]at L2'
 rw[lR]at L2'
 clear x x4 x5 x6 x7 x8 x9 w5 w6 w7 r5 r6 r7 r1 r2 hall rc row cc zI k5 k6 k7p k7 kt L0 L1 L2 L3 o4 pR k4 k3 k4e k1e g5 g6 g7 gr eT c2 ec
 generalize v9 D=ID at *
 generalize zr 1 19 (ints Lc)=CV at *
 generalize zy Lc=EV at *
 generalize v9 vC=IO at *
 generalize (la.length:Int)=LA at *
 generalize (lb.length:Int)=LB at *
 generalize (D.length:Int)=LD at *
 simp (disch:=omega)only[go_sem,vD,AP.f341,sc1,sc2,ce1,ce2,←eh1,k62,ko,lnO,←eh2,lnD,rU,L3',k351,L2',kt',l1,l2,k5',k6',k7',zt,L1',kc,L0']
theorem JY (p q:List Int) (n:Nat) (h:∀y∈q,y=0):wR (p++q) n=wR p n:=by
 unfold wR
 by_cases c:n=0
 · rw[if_pos c,if_pos c]
 · rw[if_neg c,if_neg c,List.countP_append]
   have:q.countP (fun x=>x==(n:Int))=0:=by
    rw[List.countP_eq_zero]
    intro y hy
    rw[h y hy]
    simp;omega
   omega
theorem B4 (p q:List Int) (h:∀y∈q,y=0):∀n,vt (p++q) n=vt p n
 |0=>rfl
 |n+1=>by rw[vt,vt,B4 p q h n,JY p q n h]
theorem J2 {l:List Int} (hr:∀y∈l,0≤y) (k:Nat) (hk:k≤l.length):∀y∈l.drop (vO l k l.length),y=0:=by
 intro y hy
 obtain⟨i,hi,e⟩:=SN.1 hy
 rw[List.getElem_drop]at e
 rw[List.length_drop]at hi
 have z:=yy l k l.length (vO l k l.length+i) (by omega) (by omega)
 have e2:l.getD (vO l k l.length+i) 0=y:=by
  rw[Sb,Sd (by omega),e];rfl
 rw[e2]at z
 have:=hr y (List.mem_of_mem_drop hy)
 omega
def Fw (E E':List (Int×Int)):Prop:=∀s,s<E.length→E'[s]?=E[s]?
theorem DY {l:List Int} (hr:∀y∈l,0≤y) (k:Nat) (hk:k≤l.length):Fw (vh (yA l k)) (vh l):=by
 intro s hs
 have hd:=J2 hr k hk
 have cl:=AW l hk
 have ur:=wL l k l.length
 rw[za]at hs
 have hs2:s<l.length:=by omega
 have el:l=yA l k++l.drop (vO l k l.length):=(List.take_append_drop _ _).symm
 unfold vh
 rw[uV,uV,SG hs,SG hs2]
 show some (yM l s)=some (yM (yA l k) s)
 have g:l.getD s 0=(yA l k).getD s 0:=by
  conv=>lhs;rw[el]
  rw[Sb,Sn hs,←Sb]
 have f:∀n,vt l n=vt (yA l k) n:=fun n=>by
  conv=>lhs;rw[el]
  exact B4 _ _ hd n
 have t:l.take s=(yA l k).take s:=by
  conv=>lhs;rw[el]
  rw[List.take_append_of_le_length (by omega)]
 unfold yM
 rw[g,f,t]
theorem AH.pre {E E':List (Int×Int)} (p:Fw E E') {s:Nat} (o:AH E s):AH E' s∧vn E' s=vn E s:=by
 have hl:=o.lt
 have e:=p s hl
 obtain⟨n,v,h,r⟩:=o
 refine⟨⟨n,v,e.trans h,r⟩, ?_⟩
 unfold vn
 rw[Sb,Sb,e]
theorem Hd.pre {E E' D D':List (Int×Int)} (p:Fw E E') (q:Fw D D') {t:Tok} (o:Hd E D t):Hd E' D' t∧vI E' D' t=vI E D t:=by
 rcases o with ⟨c0,h2,h3⟩|⟨h1,h2,h3,h4,h5,h6⟩
 · obtain⟨a,b⟩:=h3.pre p
   refine⟨.inl ⟨c0,h2,a⟩, ?_⟩
   rw[vI,vI,if_pos c0,if_pos c0,b]
 · obtain⟨a,b⟩:=h5.pre p
   obtain⟨c,d⟩:=h6.pre q
   have z:¬t.len=0:=by omega
   refine⟨.inr ⟨h1,h2,h3,h4,a,c⟩, ?_⟩
   rw[vI,vI,if_neg z,if_neg z,b,d]
theorem EG {E E' D D':List (Int×Int)} (p:Fw E E') (q:Fw D D'):∀ts:List Tok,(∀t∈ts,Hd E D t)→vV E' D' ts=vV E D ts
 |[],_=>rfl
 | t :: r, h => by
   have a:=((h t (by simp)).pre p q).2
   have b:=EG p q r fun x hx=>h x (by simp [hx])
   simp only[vV,Sj]at b ⊢
   rw[a,b]
theorem OU (h : H) (v : AV) (ts : List Tok) (KA KB KC : Nat) (la lb Lc : List Int) (ok : BV ts KA KB KC la lb Lc) (rd : yI 3 h v ts.length (wv ts)) :
 aQ AP.A 327 [v] h=some (.bL [.str (bytesOf (vN (vZ ts la lb Lc))),.int .i64 0],h):=by
 obtain⟨Ib,hn,tok,ra,rb,ea,eb,hall,rc,ec,hrow,ca,cb,cc,zI,Lq,En⟩:=ok
 obtain⟨_,_,_,lit,_⟩:=J7 Ib
 have rd0:yI 3 h.dI v ts.length (wv ts):=rd.mono fun i c q=>q
 have k1:=KI h.dI v ts (by omega) rd0
 rw[Ib]at k1
 have k2:=HJ h.dI v ts KA KB hn tok lit ra rb rd0
 obtain⟨a1,a2,a3⟩:=H6 ts hn
 obtain⟨b1,b2⟩:=H7 ts hn
 obtain⟨A,eA⟩:∃A,A=we (dA ts) KA:=⟨_,rfl⟩
 obtain⟨B,eB⟩:∃B,B=we (dB ts) KB:=⟨_,rfl⟩
 have lA:A.length=286:=by rw[eA,yR,a1]
 have lB:B.length=30:=by rw[eB,yR,b1]
 obtain⟨fA1,fA2,fA3,fA4,fA5⟩:=yi a2 (by omega) (by omega) (by omega) ra
 obtain⟨fB1,fB2,fB3,fB4,fB5⟩:=yi b2 (by omega) (by omega) (by omega) rb
 rw[←eA]at k2 ea fA2
 rw[←eB]at k2 eb fB2
 have rgA:∀y∈A,0≤y∧y<16:=fun y hy=>by have:=fA2 y hy;omega
 have rgB:∀y∈B,0≤y∧y<16:=fun y hy=>by have:=fB2 y hy;omega
 have pA:∀y∈A,0≤y:=fun y hy=>(rgA y hy).1
 have pB:∀y∈B,0≤y:=fun y hy=>(rgB y hy).1
 have uA:=wL A 257 A.length
 have uB:=wL B 1 B.length
 have lla:la.length=vO A 257 A.length:=by rw[ea];exact AW A (by omega)
 have llb:lb.length=vO B 1 B.length:=by rw[eb];exact AW B (by omega)
 have cfA:vF A=0∨vF A=302:=by
  have e:=Cp pA 257 15
  rw[←ea]at e
  have hl:0≤vE A 15:=by
   rw[←e]
   unfold vF at ca
   by_cases q:At la=false
   · rw[if_pos q]at ca;omega
   · rw[if_neg q]at ca
     by_cases z:vE la 15<0
     · rw[if_pos z]at ca;omega
     · omega
  rw[xS (by omega) (by omega) rgA hl]
  split
  · exact .inl rfl
  · exact .inr rfl
 have cfB:vF B=0∨vF B=302:=by
  have e:=Cp pB 1 15
  rw[←eb]at e
  have hl:0≤vE B 15:=by
   rw[←e]
   unfold vF at cb
   by_cases q:At lb=false
   · rw[if_pos q]at cb;omega
   · rw[if_neg q]at cb
     by_cases z:vE lb 15<0
     · rw[if_pos z]at cb;omega
     · omega
  rw[xS (by omega) (by omega) rgB hl]
  split
  · exact .inl rfl
  · exact .inr rfl
 have prA:Fw (vh la) (vh A):=by rw[ea];exact DY pA 257 (by omega)
 have prB:Fw (vh lb) (vh B):=by rw[eb];exact DY pB 1 (by omega)
 obtain⟨h1,o1,k3,x1,f1⟩:=HY (h:=h.dI) rfl 2 (by omega)
 have hN:h.dI.next=h.next:=rfl
 have kt1:=Ey h1 A (by omega) (by omega) pA 257 (by omega)
 have kt2:=Ey h1 B (by omega) (by omega) pB 1 (by omega)
 rw[←lla]at kt1
 rw[←llb]at kt2
 have r1:Rd h.dI (.aU false (ints A) 0 la.length 1) (ints la):=by
  have:=Iz h.dI A (k:=la.length) (by omega)
  rw[show A.take la.length=la by rw[ea];unfold yA;rw[SM];congr 1;omega]at this
  exact this
 have r2:Rd h.dI (.aU false (ints B) 0 lb.length 1) (ints lb):=by
  have:=Iz h.dI B (k:=lb.length) (by omega)
  rw[show B.take lb.length=lb by rw[eb];unfold yA;rw[SM];congr 1;omega]at this
  exact this
 obtain⟨h2,o2,k4,x2⟩:=KH x1 r1 r2 rfl rfl rfl rfl (by simp [vz,vH]) ⟨by omega,by omega⟩ ⟨by omega,by omega⟩ hall rc ec hrow cc zI
 have kcA:=zL h2 (zr 1 A.length (ints A)) A (by omega) (by omega) (Ay h2 A) cfA
 have kcB:=zL h2 (zr 1 B.length (ints B)) B (by omega) (by omega) (Ay h2 B) cfB
 obtain⟨R,eR⟩:∃R,R=vC.map (fun o=>Lc.getD o.toNat 0):=⟨_,rfl⟩
 have urR:=wL R 4 19
 have abl:=Fz zI
 rw[←eR]at x2
 obtain⟨h3,k5⟩:=Ix (v:=v) (by omega) h.dI rd0 (zN h.dI A) (zN h.dI B) (fun t ht=>⟨((Lq t ht).pre prA prB).1,tok t ht,lit t ht⟩) (En.pre prA).1 h.dI.next _ h2 o2 x2 (by
  have:=Bh (R.take (vO R 4 19))
  have:=List.length_take_le (vO R 4 19) R
  have lR:R.length=19:=by rw[eR];rfl
  rw[vb]at abl
  simp only[vb,vz,vH]
  omega)
 have e:vz 1 1++vz 2 2++(vz (la.length-257) 5++(vz (lb.length-1) 5++(vz (vO R 4 19-4) 4++(zo (R.take (vO R 4 19))++yH (vh Lc) (la++lb)))))++(vV (vh A) (vh B) ts++vn (vh A) 256)=vZ ts la lb Lc:=by
  rw[EG prA prB ts Lq,(En.pre prA).2]
  have:vz 1 1++vz 2 2=vz 5 3:=by decide
  rw[this]
  unfold vZ
  rw[←eR]
  simp only[Sp]
 rw[e]at k5
 rw[hN]at k3 k4 k5
 have k3':aQ AP.A 333 [.int .i64 2] h.dI=some (.aC h.next 0,h1):=k3
 rw[lA]at kt1 kcA
 rw[lB]at kt2 kcB
 have kt1':aQ AP.A 342 [zr 1 286 (ints A),.int .i64 257] h1=_:=kt1
 have kt2':aQ AP.A 342 [zr 1 30 (ints B),.int .i64 1] h1=_:=kt2
 refine tQ (fn:=AP.f327) (h2:=h3) (e:=[(2,.str (bytesOf (vN (vZ ts la lb Lc)))),(3,.int .i64 0)]) (vs:=[.str (bytesOf (vN (vZ ts la lb Lc))),.int .i64 0]) rfl rfl rfl ?_ rfl rfl
 clear x1 x2 r1 r2 rd rd0 e k3 kt1 kt2 zI hall rc hrow ra rb prA prB abl Lq tok lit ec ea eb
 generalize bytesOf (vN (vZ ts la lb Lc))=SB at *
 generalize AV.aU false (ints A) 0 la.length 1=TA at *
 generalize AV.aU false (ints B) 0 lb.length 1=TB at *
 generalize zr 1 286 (ints A)=VA at *
 generalize zr 1 30 (ints B)=VB at *
 generalize zy A=CA at *
 generalize zy B=CB at *
 simp (disch:=omega)only[go_sem,vD,AP.f327,k1,k2,k3',kt1',kt2',k4,kcA,kcB,k5]
theorem GN (h:H) (ts:List Tok):yI 3 h (Ci ts) ts.length (wv ts):=HM (by rw[JD])
theorem Dj (h:H) (s:ByteArray) (hs:s.size≤300) {KA KB KC:Nat} {la lb Lc:List Int} (ok:BV (tokens s) KA KB KC la lb Lc):aQ AP.A 330 [.str s] h=some (.bL [.str (vQ s la lb Lc),.int .i64 0],h):=by
 have k1:=Jt h.dI s
 rw[if_neg (by omega)]at k1
 have k2:=Jw h.dI s
 rw[if_neg (by omega)]at k2
 obtain⟨g,eg⟩:∃g,g=h.dI.alloc [.fn 326 [] [],.fn 327 [] []]:=⟨_,rfl⟩
 have Ib:=CP s hs
 have tl:=(DF s hs).1
 have k3:=KG g (Ci (tokens s)) (tokens s) (by omega) (GN g _)
 rw[if_pos Ib]at k3
 have k4:=OU g (Ci (tokens s)) (tokens s) KA KB KC la lb Lc ok (GN g _)
 have gg:g.get h.next=some [.fn 326 [] [],.fn 327 [] []]:=by rw[eg,vx (by simp)]
 have hN:h.dI.next=h.next:=rfl
 change aQ AP.A 326 [Ci (tokens s)] g=some (.bL [.str (zc s),.int .i64 0],g)at k3
 change aQ AP.A 327 [Ci (tokens s)] g=some (.bL [.str (DO s la lb Lc),.int .i64 0],g)at k4
 have b:aX [(4,.str (xf s)),(6,Ci (tokens s))] (.cy 1 2 [.eG] [(0,(.c (.fn 326 [] []))),(1,(.c (.fn 327 [] [])))])=some ([.fn 326 [] [],.fn 327 [] []],fun i=>.aD i 0 2 1):=rfl
 unfold vQ
 generalize zc s=F at *
 generalize xf s=S at *
 generalize DO s la lb Lc=D at *
 generalize Ci (tokens s)=TV at *
 have step:∀(FL:List AV) (B O:ByteArray) (i:Int) (f:Nat),g.get h.next=some FL→0≤i∧i<2→FL[i.toNat]?=some (.fn f [] [])→aQ AP.A f [TV] g=some (.bL [.str O,.int .i64 0],g)→aK (aQ AP.A) bq AP.f330L0 (ax [(4,.str B),(6,TV),(24,.aD h.next 0 2 1),(25,.int .i64 2),(26,.int .i64 i)] [4,6,24,25,26]) g=some (.normal,[(4,.str (shorter O B)),(6,TV),(24,.aD h.next 0 2 1),(25,.int .i64 2),(26,.int .i64 (i+1))],g):=by
  intro FL B O i f gF hi fe kf
  have c0:i<2:=hi.2
  unfold shorter
  have t0:cI (.int .i64 i) 2=some i.toNat:=by simp [cI,nB,hi]
  by_cases c1:O.size<B.size
  · have c1':(O.size:Int)<B.size:=by omega
    rw[if_pos c1]
    simp (disch:=omega)only[go_sem,vD,AP.f330L0,c0,t0,gF,fe,kf,wy,c1']
  · have c1':¬(O.size:Int)<B.size:=by omega
    rw[if_neg c1]
    simp (disch:=omega)only[go_sem,vD,AP.f330L0,c0,t0,gF,fe,kf,wy,c1']
 have s0:=step _ S F 0 326 gg (by omega) rfl k3
 have s1:=step _ (shorter F S) D 1 327 gg (by omega) rfl k4
 have s2:Lp AP.A [4,6,24,25,26] AP.f330L0 [(4,.str (shorter D (shorter F S))),(6,TV),(24,.aD h.next 0 2 1),(25,.int .i64 2),(26,.int .i64 2)] g=some (.exit 0,[(4,.str (shorter D (shorter F S))),(6,TV),(24,.aD h.next 0 2 1),(25,.int .i64 2),(26,.int .i64 2),(27,.bool false)],g):=by
  refine s6 ?_
  simp (disch:=omega)only[go_sem,vD,AP.f330L0]
 have L:=s7 s0 (s7 s1 s2)
 have bs:aX [(6,TV),(4,.str S)] (.cy 1 2 [.eG] [(0,(.c (.fn 326 [] []))),(1,(.c (.fn 327 [] [])))])=some ([.fn 326 [] [],.fn 327 [] []],fun i=>.aD i 0 2 1):=rfl
 generalize shorter D (shorter F S)=T at *
 have eb:∀e:Env,aX e (.cy 1 2 [.eG] [(0,(.c (.fn 326 [] []))),(1,(.c (.fn 327 [] [])))])=some ([.fn 326 [] [],.fn 327 [] []],fun i=>.aD i 0 2 1):=fun _=>rfl
 refine tQ (fn:=AP.f330) (h2:=g) (e:=[(2,.str T),(3,.int .i64 0)]) (vs:=[.str T,.int .i64 0]) rfl rfl rfl ?_ rfl rfl
 clear step s0 s1 s2 bs b gg k3 k4
 simp (disch:=omega)only[go_sem,vD,AP.f330,k1,k2,eb,hN,←eg,rU,L]
def Ac (T s:ByteArray):AV:=if T.size<s.size then .bL [.int .i64 8,.str T,.int .i64 0]else .bL [.int .i64 0,.str s,.int .i64 0]
theorem Cu (h:H) (s:ByteArray) (hs:s.size≤300) {KA KB KC:Nat} {la lb Lc:List Int} (ok:BV (tokens s) KA KB KC la lb Lc):aQ AP.A 331 [.str s] h=some (Ac (vQ s la lb Lc) s,h):=by
 have k:=Dj h.dI s hs ok
 unfold Ac
 generalize vQ s la lb Lc=T at *
 by_cases c:T.size<s.size
 · rw[if_pos c]
   have c':(T.size:Int)<s.size:=by omega
   refine tQ (fn:=AP.f331) (h2:=h.dI) (e:=[(2,.int .i64 8),(3,.str T),(4,.int .i64 0)]) (vs:=[.int .i64 8,.str T,.int .i64 0]) rfl rfl rfl ?_ rfl rfl
   clear ok
   simp (disch:=omega)only[go_sem,vD,AP.f331,k,wy,c']
 · rw[if_neg c]
   have c':¬(T.size:Int)<s.size:=by omega
   refine tQ (fn:=AP.f331) (h2:=h.dI) (e:=[(2,.int .i64 0),(3,.str s),(4,.int .i64 0)]) (vs:=[.int .i64 0,.str s,.int .i64 0]) rfl rfl rfl ?_ rfl rfl
   clear ok
   simp (disch:=omega)only[go_sem,vD,AP.f331,k,wy,c']
def EJ:ByteArray:=⟨#[97,97,97,97,97,97,97,97,97,97,97,97,97,97,97,97,97,97,97,97]⟩
theorem Lu:(wh (tokens EJ)).length≤100:=by decide+kernel
theorem OE (ts:List Tok):9≤(wh ts).length:=by
 unfold wh
 have:(vn (vh vG) 256).length=7:=by decide+kernel
 simp only[vb,vz,vH,this]
 omega
theorem NJ (ts:List Tok) (la lb Lc:List Int):9≤(vZ ts la lb Lc).length:=by
 unfold vZ
 simp only[vb,vz,vH]
 omega
theorem LM (s:ByteArray) (la lb Lc:List Int):2≤(vQ s la lb Lc).size:=by
 have h1:2≤(DO s la lb Lc).size:=by
  have:=NJ (tokens s) la lb Lc
  unfold DO;rw[xD];omega
 have h2:2≤(zc s).size:=by
  have:=OE (tokens s)
  unfold zc;rw[xD];omega
 have h3:=Bm s
 unfold vQ shorter;(repeat' split)<;>omega
theorem H8 (s:ByteArray) (la lb Lc:List Int):(vQ s la lb Lc).size≤(DO s la lb Lc).size∧(vQ s la lb Lc).size≤(zc s).size∧(vQ s la lb Lc).size≤(xf s).size:=by
 unfold vQ shorter
 refine⟨?_, ?_, ?_⟩<;>(repeat' split)<;>omega
theorem Hq {s:ByteArray} (hs:s.size≤300) {KA KB KC:Nat} {la lb Lc:List Int} (ok:BV (tokens s) KA KB KC la lb Lc) (hlt:(vQ s la lb Lc).size<s.size+5) {most:Int} (h1:(s.size:Int)≤most) (h2:most≤8192):vX (vQ s la lb Lc) most=.ok (preB s s.size,(vQ s la lb Lc).size):=by
 have idn:vX (DO s la lb Lc) most=.ok (preB s s.size,(DO s la lb Lc).size):=by
  unfold DO
  exact Gi (s:=s) hs ok h1 h2
 have ifx:vX (zc s) most=.ok (preB s s.size,(zc s).size):=Gj hs h1 h2
 have ss:=Bm s
 unfold vQ at hlt ⊢
 rcases Dv (DO s la lb Lc) (shorter (zc s) (xf s))with e|e
 · rw[e];exact idn
 · rw[e]at hlt ⊢
   rcases Dv (zc s) (xf s)with e2|e2
   · rw[e2];exact ifx
   · rw[e2]at hlt;omega
theorem JE {s p:ByteArray} (hs:s.size≤300) (hi:vX p s.size=.ok (preB s s.size,p.size)):yg 8 p s.size=some s:=by
 unfold yg
 rw[if_neg (by omega),if_neg (by omega),if_pos rfl,hi]
 have e:((preB s s.size).length:Int)=s.size:=by rw[xp]
 show(if((preB s s.size).length:Int)=s.size∧p.size=p.size then some (bytesOf (preB s s.size))else none)=some s
 rw[if_pos ⟨e,rfl⟩,HK]
theorem JS (h:H) (hf:h.floor≤h.next):aQ AP.A 329 [] h=some (.bool true,h):=by
 have s20:EJ.size=20:=rfl
 obtain⟨KA,KB,KC,la,lb,Lc,ok⟩:=EX EJ (by omega)
 have k1:=Dj h.dI EJ (by omega) ok
 have k2:=Cu h.dI EJ (by omega) ok
 have le:=(H8 EJ la lb Lc).2.1
 have fx:(zc EJ).size≤13:=by
  have:=Lu
  unfold zc;rw[xD];omega
 have i1:=Hq (by omega) ok (by omega) (most:=(EJ.size:Int)) (by omega) (by omega)
 have u1:=JE (by omega) i1
 have u2:yg 8 (vQ EJ la lb Lc) 19=none:=by
  unfold yg
  rw[if_neg (by omega),if_neg (by omega),if_pos rfl,DQ i1 (by omega) (by rw[xp];omega)]
 have pv:Ac (vQ EJ la lb Lc) EJ=.bL [.int .i64 8,.str (vQ EJ la lb Lc),.int .i64 0]:=by unfold Ac;rw[if_pos (by omega)]
 rw[pv]at k2
 generalize vQ EJ la lb Lc=T at *
 have bZ:T.size≤13:=by omega
 have k4:=DJ h.dI (by simp) 8 T 20 (by omega)
 have u1':yg 8 T 20=some EJ:=u1
 rw[u1']at k4
 have k5:=DJ h.dI (by simp) 8 T 19 (by omega)
 rw[u2]at k5
 have k6:=DJ h.dI (by simp) 1 ⟨#[]⟩ 0 (by decide)
 have u3:yg 1 ⟨#[]⟩ 0=none:=by unfold yg;rw[if_neg (by omega),if_neg (by omega),if_neg (by omega)]
 rw[u3]at k6
 obtain⟨KA',KB',KC',la',lb',Lc',ok'⟩:=EX ⟨#[120,121]⟩ (by decide)
 have k3:=Cu h.dI ⟨#[120,121]⟩ (by decide) ok'
 have pv':Ac (vQ ⟨#[120,121]⟩ la' lb' Lc') ⟨#[120,121]⟩=.bL [.int .i64 0,.str ⟨#[120,121]⟩,.int .i64 0]:=by
  have:=LM ⟨#[120,121]⟩ la' lb' Lc'
  unfold Ac
  rw[if_neg]
  have:(⟨#[120,121]⟩:ByteArray).size=2:=rfl
  omega
 rw[pv']at k3
 simp only[QK]at k4 k5 k6
 have n0:∀(k:Int) (g:H),aQ AP.A 9 [.int .i64 k] g=some (.int .i64 k,g):=fun k g=>Mq g k
 have ea:(⟨#[97,97,97,97,97,97,97,97,97,97,97,97,97,97,97,97,97,97,97,97]⟩:ByteArray)=EJ:=rfl
 have q1:(T.toList==T.toList)=true:=by simp
 have q2:(EJ.toList==EJ.toList)=true:=by simp
 have q3:((⟨#[120,121]⟩:ByteArray).toList==(⟨#[120,121]⟩:ByteArray).toList)=true:=by simp
 have b1:bm .eql (.str T) (.str T)=some (.bool true):=by simp [bm,jJ]
 have b2:bm .eql (.str EJ) (.str EJ)=some (.bool true):=by simp [bm,jJ]
 have b3:bm .eql (.str ⟨#[120,121]⟩) (.str ⟨#[120,121]⟩)=some (.bool true):=by simp [bm,jJ]
 have z0:((0:Int)==0)=true:=by decide
 have z8:((8:Int)==8)=true:=by decide
 have z9:((900:Int)==900)=true:=by decide
 refine tQ (fn:=AP.f329) (h2:=h.dI) (e:=[(0,.bool true)]) (vs:=[.bool true]) rfl rfl rfl ?_ rfl rfl
 clear ok ok' le fx i1 u1 u1' u2 pv pv' u3 q1 q2 q3
 simp (disch:=omega)only[go_sem,vD,AP.f329,ea,k1,k2,k3,k4,k5,k6,n0,b1,b2,b3,z0,z8,z9]
theorem Dr {s:ByteArray} {c:Nat} (hr:∀i,i<s.size→xi s i=c) {i j:Nat} (hj:j≤i):∀f k,k+f=258→i+k≤s.size→xL s i j f k=min 258 (s.size-i)
 |0,k,h,hk=>by unfold xL;omega
 | f + 1, k, h, hk => by
   unfold xL
   by_cases q:i+k<s.size
   · rw[if_pos ⟨by omega,q,by rw[hr _ q,hr _ (by omega)]⟩]
     exact Dr hr hj f (k+1) (by omega) (by omega)
   · rw[if_neg (by omega)];omega
theorem DV {s:ByteArray} {c:Nat} (hr:∀i,i<s.size→xi s i=c) {i:Nat} (hi:i≤s.size):∀j,j≤i→∀b:Nat×Nat,b.1=min 258 (s.size-i)→vR s i j b=b
 |0,_,b,_=>rfl
 | j + 1, hj, b, hb => by
   have e:same s i j=b.1:=by unfold same;rw[Dr hr (by omega) 258 0 rfl (by omega),hb]
   unfold vR
   rw[e,if_neg (by omega)]
   exact DV hr hi j (by omega) b hb
theorem FJ {s:ByteArray} {c:Nat} (hr:∀i,i<s.size→xi s i=c) {i:Nat} (hi:i<s.size) (h1:1≤i):vR s i i (0,0)=(min 258 (s.size-i),1):=by
 obtain⟨j,rfl⟩:∃j,i=j+1:=⟨i-1,by omega⟩
 have e:same s (j+1) j=min 258 (s.size-(j+1)):=by unfold same;rw[Dr hr (by omega) 258 0 rfl (by omega)]
 conv=>lhs;unfold vR
 rw[e,if_pos (by show 0<_;omega),show j+1-j=1 by omega]
 exact DV hr (by omega) j (by omega) _ rfl
theorem JC {s:ByteArray}:wo s 0=(⟨xi s 0,0,0⟩,1):=by unfold wo vR;rfl
theorem IK {s:ByteArray} {c:Nat} (hr:∀i,i<s.size→xi s i=c) {i:Nat} (hi:i<s.size) (h1:1≤i) (h3:s.size-i<3):wo s i=(⟨xi s i,0,0⟩,i+1):=by
 unfold wo;rw[FJ hr hi h1,if_pos (by show min 258 (s.size-i)<3;omega)]
theorem IJ {s:ByteArray} {c:Nat} (hr:∀i,i<s.size→xi s i=c) {i:Nat} (hi:i<s.size) (h1:1≤i) (h3:3≤s.size-i):wo s i=(⟨0,(min 258 (s.size-i):Nat),(1:Nat)⟩,i+min 258 (s.size-i)):=by
 unfold wo;rw[FJ hr hi h1,if_neg (by show¬min 258 (s.size-i)<3;omega)]
theorem DD {s:ByteArray} {i:Nat} (hi:s.size≤i):∀f,yf s f i=[]
 |0=>rfl
 |f+1=>by unfold yf;rw[if_neg (by omega)]
theorem Ie:∀e∈vh vG,e.1≤9:=by decide+kernel
theorem Kc:∀e∈vh wK,e.1≤5:=by decide+kernel
theorem ET {E:List (Int×Int)} {n:Nat} (h:∀e∈E,e.1≤(n:Int)) (s:Nat):(vn E s).length≤n:=by
 unfold vn
 rw[wg]
 rw[Sb]
 cases e:E[s]? with
 |none=>show(0:Int).toNat≤n;simp
 | some x =>
   have:=h x (uQ e)
   show x.1.toNat≤n;omega
theorem Dc (b:Int):(vI (vh vG) (vh wK) ⟨b,0,0⟩).length≤9:=by
 unfold vI;rw[if_pos rfl];exact ET Ie _
theorem FZ {k:Nat} (h1:3≤k) (h2:k≤258):(vI (vh vG) (vh wK) ⟨0,(k:Nat),(1:Nat)⟩).length≤19:=by
 unfold vI
 rw[if_neg (by show¬((k:Nat):Int)=0;omega)]
 have a:=ET (n:=9) Ie (xn k)
 have b:=(Cs h1 h2).1
 have c:=ET (n:=5) Kc (xN 1)
 have d:zk 1=0:=by decide+kernel
 show(vn (vh vG) (xn k)++(vz (z5 k) (zm k)++(vn (vh wK) (xN 1)++vz (Aj 1) (zk 1)))).length≤19
 simp only[vb,vz,vH,d]
 omega
theorem yK (E D:List (Int×Int)) (t:Tok) (r:List Tok):(vV E D (t::r)).length=(vI E D t).length+(vV E D r).length:=by simp [vV]
theorem AN (E D:List (Int×Int)):(vV E D []).length=0:=rfl
theorem KP {s : ByteArray} {c : Nat} (hr : ∀ i, i < s.size → xi s i = c) : ∀ (f i : Nat), 1 ≤ i → s.size ≤ i + 258 → (vV (vh vG) (vh wK) (yf s f i)).length ≤ 19 := by
 intro f i h1 h2
 match f with
 |0=>show 0≤19;omega
 | f + 1 =>
   by_cases hi:i<s.size
   · unfold yf
     rw[if_pos hi]
     by_cases h3:3≤s.size-i
     · rw[IJ hr hi h1 h3,yK,DD (by show s.size≤i+min 258 (s.size-i);omega),AN]
       have:=FZ (k:=min 258 (s.size-i)) (by omega) (by omega)
       omega
     · rw [IK hr hi h1 (by omega), yK]
       have l1:=Dc (xi s i)
       match f with
       |0=>show(vI (vh vG) (vh wK) ⟨(xi s i:Nat),0,0⟩).length+0≤19;omega
       | f + 1 =>
         unfold yf
         by_cases hj:i+1<s.size
         · rw[if_pos hj,IK hr hj (by omega) (by omega),yK,DD (by show s.size≤i+1+1;omega),AN]
           have l2:=Dc (xi s (i+1))
           dsimp only
           omega
         · rw[if_neg hj,AN];dsimp only;omega
   · rw[DD (by omega),AN];omega
theorem KO {s:ByteArray} {c:Nat} (hr:∀i,i<s.size→xi s i=c) (h1:20≤s.size) (h2:s.size≤300):(wh (tokens s)).length≤57:=by
 have e7:(vn (vh vG) 256).length=7:=by decide+kernel
 have tb:(vV (vh vG) (vh wK) (tokens s)).length≤47:=by
  unfold tokens
  obtain⟨f,hf⟩:∃f,s.size=f+2:=⟨s.size-2,by omega⟩
  rw[hf]
  unfold yf
  rw[if_pos (by omega),JC,yK]
  have l1:=Dc (xi s 0)
  unfold yf
  rw[if_pos (by show 1<s.size;omega),IJ hr (by omega) (uM 1) (by omega),yK]
  have l2:=FZ (k:=min 258 (s.size-1)) (by omega) (by omega)
  have l3:=KP hr f (1+min 258 (s.size-1)) (by omega) (by omega)
  dsimp only
  omega
 unfold wh
 simp only[vb,vz,vH,e7]
 omega
theorem JA {s:ByteArray} {c:Nat} (hr:∀i,i<s.size→xi s i=c) (h1:20≤s.size) (h2:s.size≤300) (la lb Lc:List Int):(vQ s la lb Lc).size≤9:=by
 have a:=(H8 s la lb Lc).2.1
 have b:=KO hr h1 h2
 have:(zc s).size≤9:=by unfold zc;rw[xD];omega
 omega
theorem Ry (a b:ByteArray):bm .eql (.str a) (.str b)=some (.bool (a.toList==b.toList)):=by simp [bm,jJ]
def wX (k i:Nat) (F:Nat→Int):List AV:=(List.range k).map fun j=>AV.int .u8 (if j<i then F j else 0)
theorem GR (k i:Nat) (F:Nat→Int):(wX k i F).length=k:=by simp [wX]
theorem GS {k i:Nat} (F:Nat→Int) (hi:i<k):(wX k i F).set i (.int .u8 (F i))=wX k (i+1) F:=by
 apply List.ext_getElem (by simp [wX])
 intro j h1 h2
 simp only[wX,List.getElem_set,List.getElem_map,List.getElem_range]
 by_cases e:i=j
 · subst e;rw[if_pos rfl,if_pos (by omega)]
 · rw[if_neg e]
   by_cases q:j<i
   · rw[if_pos q,if_pos (by omega)]
   · rw[if_neg q,if_neg (by omega)]
theorem Jz {k i:Nat} (F:Nat→Int) (hi:k≤i):wX k (i+1) F=wX k i F:=by
 unfold wX
 apply SD
 intro j hj
 have:=SU.1 hj
 rw[if_pos (by omega),if_pos (by omega)]
theorem Ez (k:Nat) (F:Nat→Int):wX k 0 F=xW k [.int .u8 0]:=by
 have:∀n,xW n [AV.int .u8 0]=List.replicate n (AV.int .u8 0):=by
  intro n
  induction n with
  |zero=>rfl
  |succ n ih=>rw[List.replicate_succ];show AV.int .u8 0::xW n [AV.int .u8 0]=_;rw[ih]
 rw[this]
 unfold wX
 apply List.ext_getElem (by simp)
 intro j h1 h2
 simp
theorem GQ {k i:Nat} (F:Nat→Int) (hi:k≤i) (h0:∀j,0≤F j):wX k i F=ya ((List.range k).map fun j=>(F j).toNat):=by
 unfold wX ya
 rw[SX]
 apply SD
 intro j hj
 have:=SU.1 hj
 have e:=h0 j
 rw[if_pos (by omega)]
 show AV.int .u8 (F j)=AV.int .u8 (((F j).toNat:Nat):Int)
 rw[Int.toNat_of_nonneg e]
theorem HT (x:Int):0≤IntKind.wrap .u8 x∧IntKind.wrap .u8 x<256:=by
 simp only[IntKind.wrap,IntKind.signed,IntKind.bits];simp;omega
theorem JT {h:H} {p k:Nat} {l:List Nat} (g:h.get p=some (ya l)) (hl:l.length=k) (hf:h.floor≤p) (hn:l≠[]):tI h (.aD p 0 k 1) (aR h 1 (.aD p 0 k 1))=some (.str (bytesOf l),h):=by
 subst hl
 have e:(ya l).length=l.length:=by simp [ya]
 have:=HX (h:=h) (v:=.aD p 0 (ya l).length 1) (l:=l) (.inr ⟨p,rfl,g,hf,fun q=>by rw[q]at e;exact hn (List.length_eq_zero_iff.1 e.symm)⟩)
 rw[e]at this
 exact this
def fA (b:Int):Nat→Int:=fun _=>IntKind.wrap .u8 b
def fB (b:Int):Nat→Int:=fun j=>IntKind.wrap .u8 (IntKind.wrap .i64 (b+77* (j:Int)))
theorem Fp (b:Int) (k m p q:Nat) (hk:k≤300) (hm:m≤k) (hpq:p≠q):∀(n i:Nat) (h:H),i+n=k→h.get p=some (wX k i (fA b))→h.get q=some (wX m i (fB b))→h.floor≤p→h.floor≤q→
 ∃ h', Lp AP.A [0, 5, 6, 7, 8] AP.f323L0 [(0, .int .i64 b), (5, .int .i64 k), (6, .aD p 0 k 1), (7, .aD q 0 m 1), (8, .int .i64 i)] h = some (.exit 0, [(0, .int .i64 b), (5, .int .i64 k), (6, .aD p 0 k 1), (7, .aD q 0 m 1), (8, .int .i64 k), (29, .bool false)], h') ∧
   h'.get p=some (wX k k (fA b))∧h'.get q=some (wX m k (fB b))∧h'.floor=h.floor∧h'.next=h.next
 | 0, i, h, hi, gp, gq, fp, fq => by
   obtain rfl:i=k:=by omega
   refine⟨h,s6 ?_,gp,gq,rfl,rfl⟩
   simp (disch:=omega)only[go_sem,vD,AP.f323L0]
 | n + 1, i, h, hi, gp, gq, fp, fq => by
   have ik:cI (.int .i64 (i:Nat)) k=some i:=by simp [cI,nB];omega
   have c1:(i:Int)<k:=by omega
   have n1:((i+1:Nat):Int)=(i:Int)+1:=by omega
   have l1:=GR k i (fA b)
   have l2:=GR m i (fB b)
   have s1:setFrom (wX k i (fA b)) i [.int .u8 (IntKind.wrap .u8 b)]=wX k (i+1) (fA b):=GS (fA b) (by omega)
   obtain⟨g1,e1⟩:∃g,g=h.set p (wX k (i+1) (fA b)):=⟨_,rfl⟩
   have gp1:g1.get p=some (wX k (i+1) (fA b)):=by rw[e1];rw[vA rfl,gp];rfl
   have gq1:g1.get q=some (wX m i (fB b)):=by rw[e1,vi (by omega)];exact gq
   have f1:g1.floor=h.floor:=by rw[e1];simp
   have x1:g1.next=h.next:=by rw[e1];simp
   by_cases c:i<m
   · have c2:(i:Int)<m:=by omega
     have im:cI (.int .i64 (i:Nat)) m=some i:=by simp [cI,nB];omega
     have s2:setFrom (wX m i (fB b)) i [.int .u8 (IntKind.wrap .u8 (IntKind.wrap .i64 (b+77* (i:Int))))]=wX m (i+1) (fB b):=GS (fB b) c
     obtain⟨g2,e2⟩:∃g,g=g1.set q (wX m (i+1) (fB b)):=⟨_,rfl⟩
     have gp2:g2.get p=some (wX k (i+1) (fA b)):=by rw[e2,vi (by omega)];exact gp1
     have gq2:g2.get q=some (wX m (i+1) (fB b)):=by rw[e2];rw[vA rfl,gq1];rfl
     have f2:g2.floor=h.floor:=by rw[e2,←f1];simp
     have x2:g2.next=h.next:=by rw[e2,←x1];simp
     obtain⟨h',L,r1,r2,r3,r4⟩:=Fp b k m p q hk hm hpq n (i+1) g2 (by omega) gp2 gq2 (by omega) (by omega)
     refine⟨h',s7 ?_ L,r1,r2,r3.trans f2,r4.trans x2⟩
     rw[n1]
     clear L r1 r2 gp2 gq2 gp1
     generalize wX k i (fA b)=A0 at *
     generalize wX k (i+1) (fA b)=A1 at *
     generalize wX m i (fB b)=B0 at *
     generalize wX m (i+1) (fB b)=B1 at *
     simp (disch:=omega)only[go_sem,vD,AP.f323L0,c1,c2,ik,im,gp,s1,←e1,gq1,s2,←e2,l1,l2,f1]
   · have c2:¬(i:Int)<m:=by omega
     obtain⟨h',L,r1,r2,r3,r4⟩:=Fp b k m p q hk hm hpq n (i+1) g1 (by omega) gp1 (by rw[Jz _ (by omega)];exact gq1) (by omega) (by omega)
     refine⟨h',s7 ?_ L,r1,r2,r3.trans f1,r4.trans x1⟩
     rw[n1]
     clear L r1 r2 gp1
     generalize wX k i (fA b)=A0 at *
     generalize wX k (i+1) (fA b)=A1 at *
     simp (disch:=omega)only[go_sem,vD,AP.f323L0,c1,c2,ik,gp,s1,←e1,l1]
theorem QB (k:Nat):lY (.int .i64 (k:Nat)) (.int .i64 256)=some (.int .i64 (min k 256:Nat)):=by
 by_cases c:k≤256
 · have c':(k:Int)≤256:=by omega
   rw[Nat.min_eq_left c]
   simp [lY];omega
 · have c':¬(k:Int)≤256:=by omega
   rw[Nat.min_eq_right (by omega)]
   simp [lY];omega
theorem JB (h:H) (hf:h.floor≤h.next) (b x:Int):aQ AP.A 323 [.int .i64 b,.int .i64 x] h=some (.bool true,h):=by
 have ka:=JS h.dI (by simp)
 have n0:∀(k:Int) (g:H),aQ AP.A 9 [.int .i64 k] g=some (.int .i64 k,g):=fun k g=>Mq g k
 obtain⟨k',hk',hu⟩:=Q4 x 280 (by omega)
 have rm:bm .rem (.int .u64 (IntKind.wrap .u64 x)) (.int .u64 280)=some (.int .u64 k'):=by
  show(if(280:Int)=0 then none else some (AV.int .u64 ((IntKind.wrap .u64 x).tmod 280)))=_
  rw[if_neg (by decide),show(IntKind.wrap .u64 x).tmod 280=(k':Int)from hu]
 have wk:IntKind.wrap .i64 (k':Int)=k':=wi (by omega)
 obtain⟨k,ek⟩:∃k:Nat,k=20+k':=⟨_,rfl⟩
 have ek':(20:Int)+(k':Int)=(k:Int):=by omega
 obtain⟨m,em⟩:∃m:Nat,m=min k 256:=⟨_,rfl⟩
 have mn:=QB k
 rw[←em]at mn
 have m1:m≤k:=by omega
 have m2:20≤m:=by omega
 obtain⟨h1,eh1⟩:∃g,g=h.dI.alloc (xW k [.int .u8 0]):=⟨_,rfl⟩
 obtain⟨h2,eh2⟩:∃g,g=h1.alloc (xW m [.int .u8 0]):=⟨_,rfl⟩
 have hN:h.dI.next=h.next:=rfl
 have x1:h1.next=h.next+1:=by rw[eh1];simp
 have G1:h2.get h.next=some (wX k 0 (fA b)):=by rw[eh2,vu (by omega),eh1,vx (by simp),Ez]
 have G2:h2.get h1.next=some (wX m 0 (fB b)):=by rw[eh2,vx rfl,Ez]
 have fl:h2.floor=h.next:=by rw[eh2,eh1];simp
 obtain⟨h3,L,r1,r2,r3,r4⟩:=Fp b k m h.next h1.next (by omega) m1 (by omega) k 0 h2 (by omega) G1 G2 (by omega) (by omega)
 have a0':∀j,0≤fA b j:=fun j=>(HT _).1
 have b0':∀j,0≤fB b j:=fun j=>(HT _).1
 rw[GQ _ (uM k) a0']at r1
 rw[GQ _ m1 b0']at r2
 have s1:=JT (k:=k) r1 (by simp) (by omega) (by intro q;have:=SI List.length q;simp at this;omega)
 have s2:=JT (k:=m) r2 (by simp) (by omega) (by intro q;have:=SI List.length q;simp at this;omega)
 have bt:JK ((List.range k).map fun j=>(fA b j).toNat):=by
  intro y hy
  obtain⟨j,_,rfl⟩:=Sm.1 hy
  have:=HT b
  show(IntKind.wrap .u8 b).toNat<256
  omega
 obtain⟨S,eS⟩:∃S,S=bytesOf ((List.range k).map fun j=>(fA b j).toNat):=⟨_,rfl⟩
 obtain⟨R,eR⟩:∃R,R=bytesOf ((List.range m).map fun j=>(fB b j).toNat):=⟨_,rfl⟩
 have sS:S.size=k:=by rw[eS,vW];simp
 have sR:R.size=m:=by rw[eR,vW];simp
 have run:∀i,i<S.size→xi S i=(IntKind.wrap .u8 b).toNat:=by
  intro i hi
  rw[eS]
  unfold xi
  rw[Bq _ bt,Sb,uV,SG (by omega)]
  rfl
 rw[←eS]at s1
 rw[←eR]at s2
 clear eS eR bt
 obtain⟨KA,KB,KC,la,lb,Lc,ok⟩:=EX S (by omega)
 have k1:=Cu h3 S (by omega) ok
 have sh:=JA run (by omega) (by omega) la lb Lc
 have pv:Ac (vQ S la lb Lc) S=.bL [.int .i64 8,.str (vQ S la lb Lc),.int .i64 0]:=by unfold Ac;rw[if_pos (by omega)]
 rw[pv]at k1
 clear pv ok
 generalize vQ S la lb Lc=T at *
 obtain⟨KA',KB',KC',la',lb',Lc',ok'⟩:=EX R (by omega)
 have k2:=Cu h3 R (by omega) ok'
 obtain⟨o,Q,e,qs,qq⟩:∃(o:Int) (Q:ByteArray),Ac (vQ R la' lb' Lc') R=.bL [.int .i64 o,.str Q,.int .i64 0]∧Q.size≤R.size∧(o=8∨(o=0∧Q=R)):=by
  unfold Ac
  split
  · exact⟨_,_,rfl,by omega,.inl rfl⟩
  · exact⟨_,_,rfl,by omega,.inr ⟨rfl,rfl⟩⟩
 rw[e]at k2
 clear e ok'
 have z0:((0:Int)==0)=true:=by decide
 have z8:((8:Int)==8)=true:=by decide
 have z08:((0:Int)==8)=false:=by decide
 have t9:(T.size:Int)≤9:=by omega
 have qm:(Q.size:Int)≤m:=by omega
 have hb:AP.f323.body=.seq (at_ 0 AP.f323.body) (.seq (at_ 1 AP.f323.body) (.seq (at_ 2 AP.f323.body) (.seq (at_ 3 AP.f323.body) (.seq (at_ 4 AP.f323.body) (.seq (at_ 5 AP.f323.body) (.seq (at_ 6 AP.f323.body) (.seq (at_ 7 AP.f323.body) (Ls 8 AP.f323.body)))))))):=rfl
 have L':Lp AP.A [0,5,6,7,8] AP.f323L0 [(0,.int .i64 b),(5,.int .i64 k),(6,.aD h.next 0 k 1),(7,.aD h1.next 0 m 1),(8,.int .i64 0)] h2=some (.exit 0,[(0,.int .i64 b),(5,.int .i64 k),(6,.aD h.next 0 k 1),(7,.aD h1.next 0 m 1),(8,.int .i64 k),(29,.bool false)],h3):=L
 clear L r1 r2 run sh G1 G2 a0' b0'
 have ktn:((k:Nat):Int).toNat=k:=by omega
 have mtn:((m:Nat):Int).toNat=m:=by omega
 have a0:aK (aQ AP.A) bq (at_ 0 AP.f323.body) (params 0 [.int .i64 b,.int .i64 x]) h.dI=some (.normal,[(0,.int .i64 b),(1,.int .i64 x)],h.dI):=by
  simp (disch:=omega)only[go_sem,vD,AP.f323,Ad,AL]
 have a1:aK (aQ AP.A) bq (at_ 1 AP.f323.body) [(0,.int .i64 b),(1,.int .i64 x)] h.dI=some (.normal,[(0,.int .i64 b),(1,.int .i64 x)],h.dI):=by
  simp (disch:=omega)only[go_sem,vD,AP.f323,Ad,AL,ka]
 have a2:aK (aQ AP.A) bq (at_ 2 AP.f323.body) [(0,.int .i64 b),(1,.int .i64 x)] h.dI=some (.normal,[(0,.int .i64 b),(5,.int .i64 k)],h.dI):=by
  simp (disch:=omega)only[go_sem,vD,AP.f323,Ad,AL,rm,wk,ek']
 have a3:aK (aQ AP.A) bq (at_ 3 AP.f323.body) [(0,.int .i64 b),(5,.int .i64 k)] h.dI=some (.normal,[(0,.int .i64 b),(5,.int .i64 k),(6,.aD h.next 0 k 1)],h1):=by
  clear a0 a1 a2 hb
  simp (disch:=omega)only[go_sem,vD,AP.f323,Ad,AL,hN,ktn,←eh1]
 have a4:aK (aQ AP.A) bq (at_ 4 AP.f323.body) [(0,.int .i64 b),(5,.int .i64 k),(6,.aD h.next 0 k 1)] h1=some (.normal,[(0,.int .i64 b),(5,.int .i64 k),(6,.aD h.next 0 k 1),(7,.aD h1.next 0 m 1)],h2):=by
  clear a0 a1 a2 a3 hb
  simp (disch:=omega)only[go_sem,vD,AP.f323,Ad,AL,zJ,mn,mtn,←eh2]
 have a5:aK (aQ AP.A) bq (at_ 5 AP.f323.body) [(0,.int .i64 b),(5,.int .i64 k),(6,.aD h.next 0 k 1),(7,.aD h1.next 0 m 1)] h2=some (.normal,[(6,.aD h.next 0 k 1),(7,.aD h1.next 0 m 1)],h3):=by
  clear a0 a1 a2 a3 a4 hb
  simp (disch:=omega)only[go_sem,vD,AP.f323,Ad,AL,rU,L']
 have a6:aK (aQ AP.A) bq (at_ 6 AP.f323.body) [(6,.aD h.next 0 k 1),(7,.aD h1.next 0 m 1)] h3=some (.normal,[(7,.aD h1.next 0 m 1),(9,.int .i64 8),(10,.str T),(11,.int .i64 0)],h3):=by
  clear a0 a1 a2 a3 a4 a5 hb
  simp (disch:=omega)only[go_sem,vD,AP.f323,Ad,AL,s1,k1]
 have a7:aK (aQ AP.A) bq (at_ 7 AP.f323.body) [(7,.aD h1.next 0 m 1),(9,.int .i64 8),(10,.str T),(11,.int .i64 0)] h3=some (.normal,[(7,.aD h1.next 0 m 1),(9,.int .i64 8),(10,.str T),(11,.int .i64 0),(12,.int .i64 o),(13,.str Q),(14,.int .i64 0)],h3):=by
  clear a0 a1 a2 a3 a4 a5 a6 hb
  simp (disch:=omega)only[go_sem,vD,AP.f323,Ad,AL,s2,k2]
 have a8:aK (aQ AP.A) bq (Ls 8 AP.f323.body) [(7,.aD h1.next 0 m 1),(9,.int .i64 8),(10,.str T),(11,.int .i64 0),(12,.int .i64 o),(13,.str Q),(14,.int .i64 0)] h3=some (.ret,[(4,.bool true)],h3):=by
  clear a0 a1 a2 a3 a4 a5 a6 a7 hb
  rcases qq with rfl|⟨rfl,rfl⟩
  · simp (disch:=omega)only[go_sem,vD,AP.f323,Lb,La,n0,z0,z8,t9,qm,wy]
  · have q1:bm .eql (.str Q) (.str Q)=some (.bool true):=by rw[Ry];simp
    simp (disch:=omega)only[go_sem,vD,AP.f323,Lb,La,n0,z0,z8,z08,t9,qm,wy,s2,q1]
 refine tQ (fn:=AP.f323) (h2:=h3) (e:=[(4,.bool true)]) (vs:=[.bool true]) rfl rfl rfl ?_ rfl rfl
 rw[hb,rI,a0,sB,rI,a1,sB,rI,a2,sB,rI,a3,sB,rI,a4,sB,rI,a5,sB,rI,a6,sB,rI,a7,sB,a8]
theorem Ao (r:List (Ty×List AV)) (h:r.map (·.1)=[Hw,Hw]) (hp:∀x∈r,Sh reachBytes x.1 x.2):aQ AP.A 323 (r.map jI) H.empty=some (.bool true,H.empty):=by
 obtain⟨x,y,rfl,h1,h2⟩:=Q0 h hp
 obtain⟨a,rfl,ha⟩:=KT h1
 obtain⟨b,rfl,_⟩:=KT h2
 exact JB H.empty (uM _) a b
end Ab
