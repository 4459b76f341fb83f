/- Part C3. -/
import Derived.Test.YtmckmpeekikfdaaC2
set_option linter.unusedSimpArgs false
set_option linter.unusedVariables false
set_option maxRecDepth 100000
namespace Ab
open Go
theorem Ac {out:List Nat} {t:Tok} {s':Int} (h:wc out.length t=some s'):((vL out t).length:Int)=s':=by
 unfold wc at h
 unfold vL
 by_cases c:t.len=0
 · rw[if_pos c]at h ⊢
   split at h
   · cases h
   · have:=uv h;simp;omega
 · rw[if_neg c]at h ⊢
   split at h
   · cases h
   · have:=uv h;rw[Ch];omega
theorem HR : ∀ (ts : List Tok) (out : List Nat), vE out.length ts = true → out.length ≤ 8192 → (xq ts out).length ≤ 8192
 |[],_,_,h=>h
 | t :: r, out, hm, _ => by
   unfold vE at hm
   cases e:wc out.length t with
   |none=>rw[e]at hm;cases hm
   | some s' =>
     rw[e]at hm
     have l:=Ac e
     by_cases c:8192<s'
     · simp only[if_pos c]at hm;cases hm
     · simp only[if_neg c]at hm
       rw[←l]at hm
       exact HR r (vL out t) hm (by omega)
theorem Hd {ts:List Tok} {t:ByteArray} (h:yu ts=some t):t.size≤8192:=by
 unfold yu at h
 split at h
 · rename_i c
   rw[←uv h,vS]
   exact HR ts [] c (by simp)
 · cases h
theorem Fm {hb : H} {x : Nat} {v : AV} {ts : List Tok} (hn : ts.length < 1125899906842624) (rd : yB 3 hb v ts.length (wg ts)) : ∀ (q p : List Tok) (out : List Nat) (h : H) (ov : AV), ts = p ++ q → Tx hb h x ov out → out.length ≤ 8192 →
 (vE out.length q=true→∃h' ov' e',Lp AP.A [5,10,11,12] AP.f343L0 [(5,.fn 353 [.aC x 0] []),(10,v),(11,.int .i64 ts.length),(12,.int .i64 p.length)] h=some (.exit 0,e',h')∧Tx hb h' x ov' (xq q out)∧(xq q out).length≤8192)∧
 (vE out.length q=false→∃h',Lp AP.A [5,10,11,12] AP.f343L0 [(5,.fn 353 [.aC x 0] []),(10,v),(11,.int .i64 ts.length),(12,.int .i64 p.length)] h=some (.ret,[(4,.bool false)],h'))
 | [], p, out, h, ov, hp, t, hl => by
   rw[Sf]at hp;subst hp
   refine⟨fun _=>⟨h,ov,[(5,.fn 353 [.aC x 0] []),(10,v),(11,.int .i64 ts.length),(12,.int .i64 ts.length),(13,.bool false)],sV ?_,t,hl⟩,fun q=>by cases q⟩
   simp (disch:=omega)only[go_sem,vz,AP.f343L0]
 | k :: q, p, out, h, ov, hp, t, hl => by
   have hlen:ts.length=p.length+(q.length+1):=by rw[hp];simp
   have hk:ts[p.length]?=some k:=by rw[hp];simp
   obtain⟨ad,a1,a2,a3⟩:=rd.OG
   have b1:=a1 p.length ⟨by omega,by omega⟩
   obtain⟨_,_,_,b2⟩:=a3 h t.ext _ _ hk
   have c1:((p.length:Nat):Int)<ts.length:=by omega
   obtain⟨g,eg⟩:∃g,g=(h.alloc [.int .i64 0,.int .i64 0,.int .i64 0]).set h.next [.int .i64 k.lit,.int .i64 k.len,.int .i64 k.vP]:=⟨_,rfl⟩
   have gg:g.get h.next=some [.int .i64 k.lit,.int .i64 k.len,.int .i64 k.vP]:=by rw[eg,vA rfl,vp rfl];rfl
   have gn:g.next=h.next+1:=by rw[eg];simp
   have gk:∀i,i<h.next→g.get i=h.get i:=fun i hi=>by rw[eg,u9 (by omega),vn (by omega)]
   have fl1:h.floor≤h.next:=t.Ji
   have lx:=h.lt _ _ t.gx
   have tg:Tx hb g x ov out:=⟨fun i c hi=>by
    have e:=t.ext i c hi
    have:=h.lt _ _ e
    rw[gk i this,e],by rw[eg];simpa using t.fl,by rw[gn,eg];simp;omega,by rw[gk x lx,t.gx],t.lx,t.own.mono (by rw[eg];simp) fun i hi=>gk i (t.own.lt hi).2,t.nx,t.HJ⟩
   obtain⟨h1,ov1,k1,t1,_⟩:=Ow tg k hl
   have k1':j8 (aQ AP.A) [.agg [.int .i64 k.lit,.int .i64 k.len,.int .i64 k.vP]] g (.fn 353 [.aC x 0] [])=some (.bool (HB out k).isSome,h1):=k1
   cases hs:HB out k with
   | none =>
     have hm:vE out.length (k::q)=false:=by
      unfold HB at hs
      rw[vE]
      cases e:wc out.length k with
      |none=>rfl
      | some s' =>
        rw[e]at hs
        simp only at hs ⊢
        by_cases c:8192<s'
        · rw[if_pos c]
        · rw[if_neg c]at hs;cases hs
     refine⟨fun q=>(by rw[hm]at q;cases q),fun _=>⟨h1,tB ?_⟩⟩
     rw[hs]at k1'
     have k2:aQ AP.A 353 ([.aC x 0]++[.agg [.int .i64 k.lit,.int .i64 k.len,.int .i64 k.vP]]++[]) g=some (.bool false,h1):=k1'
     simp only[List.cons_append,List.nil_append,Sf]at k2
     clear t tg t1 a1 a2 a3 rd
     simp (disch:=omega)only[go_sem,vz,AP.f343L0,c1,b1,b2,←eg,gg,k2,KR,uO,SF,Si]
   | some o' =>
     rw[hs]at t1 k1'
     simp only[Option.getD_some]at t1
     have key:∃s',wc out.length k=some s'∧¬8192<s'∧o'=vL out k:=by
      unfold HB at hs
      cases e:wc out.length k with
      |none=>rw[e]at hs;cases hs
      | some s' =>
        rw[e]at hs
        simp only at hs
        by_cases c:8192<s'
        · rw[if_pos c]at hs;cases hs
        · rw[if_neg c]at hs
          exact⟨s',rfl,c,(uv hs).symm⟩
     obtain⟨s',e1,e2,e3⟩:=key
     have el:=Ac e1
     rw[←e3]at el
     have hm:vE out.length (k::q)=vE o'.length q:=by
      rw[vE,e1]
      simp only[if_neg e2,el]
     have ee:xq (k::q) out=xq q o':=by rw[xq,e3]
     rw[hm,ee]
     have k2:aQ AP.A 353 ([.aC x 0]++[.agg [.int .i64 k.lit,.int .i64 k.len,.int .i64 k.vP]]++[]) g=some (.bool true,h1):=k1'
     simp only[List.cons_append,List.nil_append,Sf]at k2
     obtain⟨r1,r2⟩:=Fm hn rd q (p++[k]) o' h1 ov1 (by rw[hp];simp) t1 (by omega)
     have w1:((p++[k]).length:Int)=(p.length:Int)+1:=by simp
     rw[w1]at r1 r2
     have st:aK (aQ AP.A) bu AP.f343L0 (ax [(5,.fn 353 [.aC x 0] []),(10,v),(11,.int .i64 ts.length),(12,.int .i64 p.length)] [5,10,11,12]) h=some (.normal,[(5,.fn 353 [.aC x 0] []),(10,v),(11,.int .i64 ts.length),(12,.int .i64 ((p.length:Int)+1))],h1):=by
      clear t tg t1 a1 a2 a3 rd r1 r2
      simp (disch:=omega)only[go_sem,vz,AP.f343L0,c1,b1,b2,←eg,gg,k2,KR,uO,SF,Si]
     refine⟨fun z=> ?_,fun z=> ?_⟩
     · obtain⟨h',ov',e',L,q1,q2⟩:=r1 z
       exact⟨h',ov',e',sW st L,q1,q2⟩
     · obtain⟨h',L⟩:=r2 z
       exact⟨h',sW st L⟩
theorem I7 (h:H) (v:AV) (ts:List Tok) (hn:ts.length<1125899906842624) (rd:yB 3 h v ts.length (wg ts)):aQ AP.A 328 [v] h=some (Nk (yu ts),h):=by
 have yR:yB 3 h.dL v ts.length (wg ts):=rd.mono fun i c q=>q
 have ln:=rd.len
 obtain⟨g,eg⟩:∃g,g=h.dL.alloc [.aO]:=⟨_,rfl⟩
 have gx:g.get h.next=some [.aO]:=by rw[eg,vp (by simp)]
 have t0:Tx h.dL g h.next .aO []:=⟨by rw[eg];exact(Ext.refl _).alloc _,by rw[eg];simp,by rw[eg];simp,gx,by simp,v8.nil,by simp [AV.id?],fun y hy=>by simp at hy⟩
 obtain⟨r1,r2⟩:=Fm hn yR ts [] [] g .aO rfl t0 (by simp)
 have hN:h.dL.next=h.next:=rfl
 unfold yu
 by_cases hm:vE 0 ts=true
 · rw[if_pos hm]
   obtain⟨h',ov',e',L,t1,_⟩:=r1 hm
   have L':Lp AP.A [5,10,11,12] AP.f343L0 [(5,.fn 353 [.aC h.next 0] []),(10,v),(11,.int .i64 ts.length),(12,.int .i64 0)] g=some (.exit 0,e',h'):=L
   have k:aQ AP.A 343 [.aC h.next 0,v] g=some (.bool true,h'):=by
    refine tq (fn:=AP.f343) (e:=[(4,.bool true)]) (vs:=[.bool true]) rfl rfl rfl ?_ rfl
    clear t1 t0 rd yR r1 r2
    simp (disch:=omega)only[go_sem,vz,AP.f343,ln,rR,L']
   have b:=Fp t1.own
   have g1:=t1.gx
   refine tL (fn:=AP.f328) (h2:=h') (e:=[(2,.str (bytesOf (xq ts []))),(3,.int .i64 0)]) (vs:=[.str (bytesOf (xq ts [])),.int .i64 0]) rfl rfl rfl ?_ rfl rfl
   clear t1 t0 rd yR r1 r2 L L'
   generalize bytesOf (xq ts [])=B at *
   simp (disch:=omega)only[go_sem,vz,AP.f328,←eg,hN,k,g1,b]
 · rw[if_neg hm]
   obtain⟨h',L⟩:=r2 (Bool.eq_false_iff.2 hm)
   have L':Lp AP.A [5,10,11,12] AP.f343L0 [(5,.fn 353 [.aC h.next 0] []),(10,v),(11,.int .i64 ts.length),(12,.int .i64 0)] g=some (.ret,[(4,.bool false)],h'):=L
   have k:aQ AP.A 343 [.aC h.next 0,v] g=some (.bool false,h'):=by
    refine tq (fn:=AP.f343) (e:=[(4,.bool false)]) (vs:=[.bool false]) rfl rfl rfl ?_ rfl
    clear t0 rd yR r1 r2
    simp (disch:=omega)only[go_sem,vz,AP.f343,ln,rR,L']
   refine tL (fn:=AP.f328) (h2:=h') (e:=[(2,.str ⟨#[]⟩),(3,.int .i64 500)]) (vs:=[.str ⟨#[]⟩,.int .i64 500]) rfl rfl rfl ?_ rfl rfl
   clear t0 rd yR r1 r2 L L'
   simp (disch:=omega)only[go_sem,vz,AP.f328,←eg,hN,k]
theorem Kd (h:H) (v:AV) (ts:List Tok) (hn:ts.length<1125899906842624) (rd:yB 3 h v ts.length (wg ts)):aQ AP.A 337 [v] h=some (.bool (DC ts),h):=by
 have k:=I7 h.dL v ts hn (rd.mono fun i c q=>q)
 unfold DC
 cases he:yu ts with
 | none =>
   rw[he]at k
   simp only[Nk]at k
   refine tL (fn:=AP.f337) (h2:=h.dL) (e:=[(2,.bool false)]) (vs:=[.bool false]) rfl rfl rfl ?_ rfl rfl
   have cb:((500:Int)==0)=false:=by decide
   clear rd
   simp (disch:=omega)only[go_sem,vz,AP.f337,k,cb]
 | some t =>
   rw[he]at k
   have:=Hd he
   simp only[Nk]at k
   refine tL (fn:=AP.f337) (h2:=h.dL) (e:=[(2,.bool (decide (t.size≤300)))]) (vs:=[.bool (decide (t.size≤300))]) rfl rfl rfl ?_ rfl rfl
   have cb:((0:Int)==0)=true:=by decide
   clear rd
   by_cases c:t.size≤300
   · have c':(t.size:Int)≤300:=by omega
     simp (disch:=omega)only[go_sem,vz,AP.f337,k,R2 c,c',cb]
   · have c':¬(t.size:Int)≤300:=by omega
     simp (disch:=omega)only[go_sem,vz,AP.f337,k,R0 c,c',cb]
theorem D9 (s : ByteArray) (i d : Nat) (hs : s.size < 100000) (hd : d ≤ i) (hi : i ≤ s.size) (h : H) : ∀ (f k : Nat), k + f = 258 →
 ∃e',Lp AP.A [0,1,2,7] AP.f354L0 [(0,.str s),(1,.int .i64 i),(2,.int .i64 d),(7,.int .i64 k)] h=some (.exit 0,e',h)∧look e' 7=.int .i64 (yk s i (i-d) f k:Nat)
 | 0, k, hk => by
   obtain rfl:k=258:=by omega
   refine⟨[(0,.str s),(1,.int .i64 i),(2,.int .i64 d),(7,.int .i64 258),(32,.bool false)],sV ?_,rfl⟩
   have c:¬((258:Nat):Int)<258:=by omega
   simp (disch:=omega)only[go_sem,vz,AP.f354L0,c]
 | f + 1, k, hk => by
   have n1:((k:Int)+1)=((k+1:Nat):Int):=by omega
   have c0:(k:Int)<258:=by omega
   by_cases c1:i+k<s.size
   · have c1':(i:Int)+(k:Int)<s.size:=by omega
     have x1:lS (.str s) (.int .i64 ((i:Int)+(k:Int)))=some (.int .u8 (xP s (i+k):Nat)):=by
      have:=zK (s:=s) (i:=(i:Int)+(k:Int)) ⟨by omega,by omega⟩
      rw[show((i:Int)+(k:Int)).toNat=i+k by omega]at this;exact this
     have x2:lS (.str s) (.int .i64 ((i:Int)+(k:Int)-(d:Int)))=some (.int .u8 (xP s (i-d+k):Nat)):=by
      have:=zK (s:=s) (i:=(i:Int)+(k:Int)-(d:Int)) ⟨by omega,by omega⟩
      rw[show((i:Int)+(k:Int)-(d:Int)).toNat=i-d+k by omega]at this;exact this
     by_cases c2:xP s (i+k)=xP s (i-d+k)
     · obtain⟨e',r1,r2⟩:=D9 s i d hs hd hi h f (k+1) (by omega)
       refine⟨e',sW ?_ r1, ?_⟩
       · rw[←n1]
         have cb:((xP s (i+k):Int)==(xP s (i-d+k):Int))=true:=by simp [c2]
         simp (disch:=omega)only[go_sem,vz,AP.f354L0,c0,c1',x1,x2,cb]
       · rw[r2,yk,if_pos ⟨by omega,c1,c2⟩]
     · refine⟨[(0,.str s),(1,.int .i64 i),(2,.int .i64 d),(7,.int .i64 k),(32,.bool false)],sV ?_, ?_⟩
       · have cb:((xP s (i+k):Int)==(xP s (i-d+k):Int))=false:=by simp;omega
         simp (disch:=omega)only[go_sem,vz,AP.f354L0,c0,c1',x1,x2,cb]
       · rw[yk,if_neg (fun q=>c2 q.2.2)];rfl
   · refine⟨[(0,.str s),(1,.int .i64 i),(2,.int .i64 d),(7,.int .i64 k),(32,.bool false)],sV ?_, ?_⟩
     · have c1':¬(i:Int)+(k:Int)<s.size:=by omega
       simp (disch:=omega)only[go_sem,vz,AP.f354L0,c0,c1']
     · rw[yk,if_neg (fun q=>c1 q.2.1)];rfl
theorem Om (h:H) (s:ByteArray) (i d:Nat) (hs:s.size<100000) (hd:d≤i) (hi:i≤s.size):aQ AP.A 354 [.str s,.int .i64 i,.int .i64 d] h=some (.int .i64 (same s i (i-d):Nat),h):=by
 obtain⟨e',r1,r2⟩:=D9 s i d hs hd hi h.dL 258 0 rfl
 have r1':Lp AP.A [0,1,2,7] AP.f354L0 [(0,.str s),(1,.int .i64 i),(2,.int .i64 d),(7,.int .i64 0)] h.dL=some (.exit 0,e',h.dL):=r1
 clear r1
 refine tL (fn:=AP.f354) (h2:=h.dL) (e:=[(6,.int .i64 (same s i (i-d):Nat))]) (vs:=[.int .i64 (same s i (i-d):Nat)]) rfl rfl rfl ?_ rfl rfl
 simp (disch:=omega)only[go_sem,vz,AP.f354,rR,r1',r2,same]
def Eb (b:Nat×Nat):Nat×Nat:=if b.1<3 then(0,0)else b
theorem J0 (b:Nat×Nat) (m d:Nat):Eb (if b.1<m then(m,d)else b)=if 3≤m∧(Eb b).1<m then(m,d)else Eb b:=by
 unfold Eb
 by_cases c:b.1<3
 · rw[if_pos c]
   by_cases q:b.1<m
   · rw[if_pos q]
     by_cases z:m<3
     · rw[if_pos z,if_neg (by omega)]
     · rw[if_neg z,if_pos ⟨by omega,by show 0<m;omega⟩]
   · rw[if_neg q,if_pos c,if_neg (by omega)]
 · rw[if_neg c]
   by_cases q:b.1<m
   · rw[if_pos q,if_neg (by show¬m<3;omega),if_pos ⟨by omega,q⟩]
   · rw[if_neg q,if_neg c,if_neg (fun z=>q z.2)]
theorem Am (s : ByteArray) (i : Nat) (hs : s.size < 32000) (hi : i < s.size) (v4 : AV) (c5 : Nat) : ∀ (n : Nat) (b : Nat × Nat) (d : Int) (h : H), n ≤ i → d = (i : Int) - n + 1 → h.get c5 = some [.int .i64 0, .int .i64 (Eb b).1, .int .i64 (Eb b).2] → h.floor ≤ c5 →
 ∃e' h',Lp AP.A [0,1,4,5,6] AP.f344L0 [(0,.str s),(1,.int .i64 i),(4,v4),(5,.aC c5 0),(6,.int .i64 d)] h=some (.exit 0,e',h')∧look e' 4=v4∧look e' 5=.aC c5 0∧h'.get c5=some [.int .i64 0,.int .i64 (Eb (vO s i n b)).1,.int .i64 (Eb (vO s i n b)).2]∧(∀j,j≠c5→h'.get j=h.get j)∧h'.next=h.next∧h'.floor=h.floor
 | 0, b, d, h, hn, hd, hg, hf => by
   refine⟨[(0,.str s),(1,.int .i64 i),(4,v4),(5,.aC c5 0),(6,.int .i64 d),(11,.bool false)],h,sV ?_,rfl,rfl,hg,fun _ _=>rfl,rfl,rfl⟩
   have m:ES (i:Int) 32768=i:=by unfold ES;rw[if_neg (by omega)]
   have c:¬d≤(i:Int):=by omega
   simp (disch:=omega)only[go_sem,vz,AP.f344L0,Aj,yS,m,c]
 | n + 1, b, d, h, hn, hd, hg, hf => by
   have m:ES (i:Int) 32768=i:=by unfold ES;rw[if_neg (by omega)]
   have c:d≤(i:Int):=by omega
   obtain⟨D,rfl⟩:∃D:Nat,d=D:=R4 (by omega)
   have k1:=fun g=>Om g s i D (by omega) (by omega) (by omega)
   have eD:i-D=n:=by omega
   rw[eD]at k1
   have k2:=Ih s i n
   have st:=J0 b (same s i n) (i-n)
   have iD:i-n=D:=by omega
   rw[vO]
   by_cases q:3≤same s i n∧(Eb b).1<same s i n
   · rw[if_pos q,iD]at st
     rw[iD]
     obtain⟨e',h',L,r1,r2,r3,r4,r5,r6⟩:=Am s i hs hi v4 c5 n (if b.1<same s i n then(same s i n,D)else b) ((D:Int)+1) (h.set c5 [.int .i64 0,.int .i64 (same s i n:Nat),.int .i64 D]) (by omega) (by omega) (by rw[vA rfl,hg,st];rfl) (by simpa using hf)
     refine⟨e',h',sW ?_ L,r1,r2,r3,fun j hj=>by rw[r4 j hj,u9 hj],by rw[r5];simp,by rw[r6];simp⟩
     have q1:(3:Int)≤(same s i n:Nat):=by omega
     have q2:((Eb b).1:Int)<(same s i n:Nat):=by omega
     clear L r3 r4 st
     generalize same s i n=M at *
     generalize (Eb b).1=B1 at *
     generalize (Eb b).2=B2 at *
     simp (disch:=omega)only[go_sem,vz,AP.f344L0,Aj,yS,m,c,k1,q1,q2,hg]
   · rw[if_neg q]at st
     obtain⟨e',h',L,r1,r2,r3,r4,r5,r6⟩:=Am s i hs hi v4 c5 n (if b.1<same s i n then(same s i n,i-n)else b) ((D:Int)+1) h (by omega) (by omega) (by rw[st];exact hg) hf
     refine⟨e',h',sW ?_ L,r1,r2,r3,r4,r5,r6⟩
     clear L r3 r4 st
     generalize same s i n=M at *
     generalize (Eb b).1=B1 at *
     generalize (Eb b).2=B2 at *
     by_cases q1:(3:Int)≤(M:Nat)
     · have q2:¬(B1:Int)<(M:Nat):=by omega
       simp (disch:=omega)only[go_sem,vz,AP.f344L0,Aj,yS,m,c,k1,q1,q2,hg]
     · simp (disch:=omega)only[go_sem,vz,AP.f344L0,Aj,yS,m,c,k1,q1]
theorem Lv (h:H) (s:ByteArray) (i:Nat) (hs:s.size<32000) (hi:i<s.size):aQ AP.A 344 [.str s,.int .i64 i] h=some (.agg [.int .i64 0,.int .i64 (Eb (vO s i i (0,0))).1,.int .i64 (Eb (vO s i i (0,0))).2],h):=by
 obtain⟨g,eg⟩:∃g,g=(h.dL.alloc [.int .i64 0,.int .i64 0,.int .i64 0]).alloc [.int .i64 0,.int .i64 0,.int .i64 0]:=⟨_,rfl⟩
 obtain⟨e',h',L,r1,r2,r3,r4,r5,r6⟩:=Am s i hs hi (.aC h.next 0) (h.next+1) i (0,0) 1 g (uH _) (by omega) (by rw[eg,vp (by simp)];try rfl) (by rw[eg];simp;try omega)
 have g4:h'.get h.next=some [.int .i64 0,.int .i64 0,.int .i64 0]:=by rw[r4 _ (by omega),eg,vn (by simp),vp (by simp)]
 have f1:h'.floor=h.next:=by rw[r6,eg];simp
 generalize (Eb (vO s i i (0,0))).1=B1 at *
 generalize (Eb (vO s i i (0,0))).2=B2 at *
 have g5:(h'.set h.next [.int .i64 0,.int .i64 B1,.int .i64 B2]).get h.next=some [.int .i64 0,.int .i64 B1,.int .i64 B2]:=by rw[vA rfl,g4];rfl
 refine tL (fn:=AP.f344) (h2:=h'.set h.next [.int .i64 0,.int .i64 B1,.int .i64 B2]) (e:=[(4,.aC h.next 0)]) (vs:=[.agg [.int .i64 0,.int .i64 B1,.int .i64 B2]]) rfl rfl rfl ?_ ?_ rfl
 · have hN:h.dL.next=h.next:=rfl
   have hN2:(h.dL.alloc [.int .i64 0,.int .i64 0,.int .i64 0]).next=h.next+1:=by simp
   clear r4
   simp (disch:=omega)only[go_sem,vz,AP.f344,hN,hN2,←eg,rR,L,r1,r2,r3,g4,f1,KR,uO,SF,Si]
 · simp (disch:=omega)only[go_sem,vz,AP.f344,cu,mY,g5,KR,uO,SF,Si]
   rfl
theorem Ic (h:H) (l:List Int):Rd h (zc (ints l)) (ints l):=by
 unfold zc
 by_cases c:ints l=[]
 · rw[if_pos c,c];exact⟨rfl,by intro s e;cases e⟩
 · rw[if_neg c]
   refine⟨by simp [aR,uW],by intro s e;cases e⟩
theorem IB (p:List Int) (x:Int) {n:Nat} (hn:1≤n):wM (p++[x]) n=wM p n+if x=(n:Int)then 1 else 0:=by
 rw[zg]
 congr 1
 by_cases c:x=(n:Int)
 · rw[if_pos ⟨by omega,c⟩,if_pos c]
 · rw[if_neg (fun q=>c q.2),if_neg c]
theorem CK {l : List Int} (hl : l.length < 1000) (T : List AV) (v25 : AV) (id n : Nat) (hn1 : 1 ≤ n) (hn : n ≤ 15) (hT : T[n]? = some (.int .i64 (vo l n))) : ∀ (q p : List Int) (h : H), l = p ++ q → h.floor ≤ id → h.get id = some ((wE l n p.length).flatMap wJ) →
 ∃h',Lp AP.A [4,6,7,25,26,30,31,32] AP.f338L0 [(4,.aJ T 0),(6,.aD id 0 l.length 2),(7,.int .i64 n),(25,v25),(26,.int .i64 n),(30,zc (ints (syms l n))),(31,.int .i64 (wM l n)),(32,.int .i64 (wM p n))] h=some (.exit 2,[(4,.aJ T 0),(6,.aD id 0 l.length 2),(7,.int .i64 n),(25,v25),(26,.int .i64 n),(30,zc (ints (syms l n))),(31,.int .i64 (wM l n)),(32,.int .i64 (wM l n)),(33,.bool false)],h')∧h'.floor=h.floor∧h'.get id=some ((wE l n l.length).flatMap wJ)
 | [], p, h, hp, hf, hg => by
   rw[Sf]at hp;subst hp
   refine⟨h,sV ?_,rfl,hg⟩
   simp (disch:=omega)only[go_sem,vz,AP.f338L0]
 | y :: q, p, h, hp, hf, hg => by
   have hlen:l.length=p.length+(q.length+1):=by rw[hp];simp
   have hy:l.getD p.length 0=y:=by rw[RW,hp];simp
   have tk:l.take p.length=p:=by rw[hp];simp
   have ls:=IB p y hn1
   have sl:(p++[y]).length=p.length+1:=by simp
   by_cases c:y=(n:Int)
   · rw[if_pos c]at ls
     have sa:=Im (l:=l) (s:=p.length) (by omega) hn1 (hy.trans c)
     rw[tk]at sa
     have hit:=IE (l:=l) (i:=p.length) (by omega) hn1 (hy.trans c)
     rw[tk]at hit
     obtain⟨ad,a1,a2⟩:=(Ic h (syms l n)).xh
     have sc:=zE l n
     have il:wM p n<wM l n:=by have:=(uD.1 sa).1;omega
     have b1:=a1 (wM p n) ⟨by omega,by omega⟩
     have b2:=a2 h (Ext.refl h) (wM p n) _ sa
     have fb:=Bj (l:=l) (by omega) n
     have pw:=Bz hn
     have cl:=z4 l n
     obtain⟨h',L,f1,g1⟩:=CK hl T v25 id n hn1 hn hT q (p++[y]) (h.set id ((wE l n (p.length+1)).flatMap wJ)) (by rw[hp];simp) (by simpa using hf) (by rw[vA rfl,hg,sl];rfl)
     have st:tN h id (p.length* 2) 2 [.int .i64 (n:Int),.int .i64 (vo l n+(wM p n:Int))] (some ((wE l n p.length).flatMap wJ))=some (h.set id ((wE l n (p.length+1)).flatMap wJ)):=by
      rw[Kw,←hit,←JN yL _ _ _ (by rw[Bg];omega)]
      have:=Bl yL (wE l n p.length)
      rw[Bg]at this
      simp only[this,hf,RX,RZ,decide_true,AV.aB,AV.sc,Bool.and_true,Bool.true_and,show p.length* 2+2≤l.length* 2 by omega]
      rfl
     refine⟨h',sW ?_ L,by rw[f1];simp,g1⟩
     rw[ls]
     have n1:((wM p n+1:Nat):Int)=(wM p n:Int)+1:=by omega
     rw[n1]
     have ib:cM (.int .i64 (p.length:Nat)) l.length=some p.length:=by
      have:(p.length:Int)<l.length:=by omega
      simp [cM,ny,this]
     have il':((wM p n:Nat):Int)<(wM l n:Nat):=by omega
     clear L g1 a1 a2 hit sa ls
     generalize (wE l n (p.length+1)).flatMap wJ=E2 at *
     generalize (wE l n p.length).flatMap wJ=E at *
     generalize zc (ints (syms l n))=SV at *
     generalize vo l n=F at *
     generalize wM p n=k at *
     generalize wM l n=K at *
     simp (disch:=omega)only[go_sem,vz,AP.f338L0,il',b1,b2,hT,ib,hg,st]
   · rw[if_neg c,Nat.add_zero]at ls
     have miss:=G6 (l:=l) (b:=n) (i:=p.length) (by rw[hy];exact c)
     obtain⟨h',L,f1,g1⟩:=CK hl T v25 id n hn1 hn hT q (p++[y]) h (by rw[hp];simp) hf (by rw[sl,miss];exact hg)
     rw[ls]at L
     exact⟨h',L,f1,g1⟩
theorem JZ (l:List Int):iP false (zc (ints l))=some (.int .i64 l.length):=by
 have:=(Ic (H.empty) l).len
 rw[pD]at this;exact this
theorem FV {l:List Int} (hl:l.length<1000) (T SS:List AV) (id:Nat) (hT:∀n,1≤n→n≤15→T[n]?=some (.int .i64 (vo l n))) (hS:∀n,n≤15→SS[n]?=some (zc (ints (syms l n)))):∀(m n:Nat) (h:H),n+m=16→1≤n→h.floor≤id→h.get id=some ((wE l n 0).flatMap wJ)→
 ∃e' h',Lp AP.A [4,6,25,26] AP.f338L1 [(4,.aJ T 0),(6,.aD id 0 l.length 2),(25,.agg SS),(26,.int .i64 n)] h=some (.exit 0,e',h')∧look e' 6=.aD id 0 l.length 2∧h'.floor=h.floor∧h'.get id=some ((wE l 16 0).flatMap wJ)
 | 0, n, h, hm, hn, hf, hg => by
   obtain rfl:n=16:=by omega
   refine⟨[(4,.aJ T 0),(6,.aD id 0 l.length 2),(25,.agg SS),(26,.int .i64 16),(27,.bool false)],h,sV ?_,rfl,rfl,hg⟩
   simp (disch:=omega)only[go_sem,vz,AP.f338L1]
 | m + 1, n, h, hm, hn, hf, hg => by
   obtain⟨h1,L1,f1,g1⟩:=CK hl T (.agg SS) id n hn (by omega) (hT n hn (by omega)) l [] h rfl hf hg
   have c0:wM [] n=0:=by simp [wM]
   rw[c0]at L1
   obtain⟨e',h',L,q1,q2,q3⟩:=FV hl T SS id hT hS m (n+1) h1 (by omega) (by omega) (by omega) (by rw[G7];exact g1)
   refine⟨e',h',sW ?_ L,q1,by rw[q2,f1],q3⟩
   have hs:=hS n (by omega)
   have ln:=JZ (syms l n)
   rw[zE]at ln
   have n1:((n+1:Nat):Int)=(n:Int)+1:=by omega
   have Jh:(n:Int)<16:=by omega
   have ia:lQ false 16 1 (.agg SS) (.int .i64 n)=some (zc (ints (syms l n))):=by
    simp [lQ,cM,ny,Jh,gN,hs]
   have L1':Lp AP.A [4,6,7,25,26,30,31,32] AP.f338L0 [(4,.aJ T 0),(6,.aD id 0 l.length 2),(7,.int .i64 n),(25,.agg SS),(26,.int .i64 n),(30,zc (ints (syms l n))),(31,.int .i64 (wM l n)),(32,.int .i64 0)] h=_:=L1
   rw[n1]
   clear L L1 q3 g1 hs
   generalize zc (ints (syms l n))=SV at *
   simp (disch:=omega)only[go_sem,vz,AP.f338L1,Jh,ia,ln,rR,L1']
theorem Mj (h:H) (x:AV) (l:List Int) (hl:l.length<1000) (rd:Rd h x (ints l)) (hm:Ai l=true) (h0:0≤vx l 15):aQ AP.A 348 [x] h=some (.bO [vB l,.int .i64 0],h):=by
 have rd':=rd.mono (vu h)
 have k1:=LU h.dL x l (by omega) rd'
 rw[hm]at k1
 have k2:=zr h.dL x l (by omega) (Bw hm) rd'
 have hb:vB l=.aJ (nj 49 (wH l)) 0:=rfl
 have g:(nj 49 (wH l))[48]?=some (.int .i64 (vx l 15)):=by rw[fG (by omega)];rfl
 have c:¬vx l 15<0:=by omega
 rw[hb]at k2 ⊢
 generalize nj 49 (wH l)=T at *
 refine tL (fn:=AP.f348) (h2:=h.dL) (e:=[(2,.aJ T 0),(3,.int .i64 0)]) (vs:=[.aJ T 0,.int .i64 0]) rfl rfl rfl ?_ rfl rfl
 simp (disch:=omega)only[go_sem,vz,AP.f348,k1,k2,g,c]
theorem zy (h:H) (x:AV) (l:List Int) (h1:1≤l.length) (hl:l.length<1000) (rd:Rd h x (ints l)) (hc:vy l=0∨vy l=302):aQ AP.A 338 [x] h=some (.bO [zh l,.int .i64 0],h):=by
 have yR:Rd h.dL x (ints l):=rd.mono (vu h)
 have hm:Ai l=true:=by
  unfold vy at hc
  by_cases q:Ai l=false
  · rw[if_pos q]at hc;omega
  · simpa using q
 have h0:0≤vx l 15:=by
  unfold vy at hc
  rw[if_neg (by rw[hm];decide)]at hc
  by_cases q:vx l 15<0
  · rw[if_pos q]at hc;omega
  · omega
 have hr:=Bw hm
 have k:=Mj h.dL x l hl yR hm h0
 obtain⟨g,eg⟩:∃g,g=h.dL.alloc (xE l.length [.int .i64 0,.int .i64 0]):=⟨_,rfl⟩
 have hn:h.dL.next=h.next:=rfl
 have gg:g.get h.next=some ((wE l 1 0).flatMap wJ):=by rw[eg,vp (by simp),B5,G8]
 have gf:g.floor=h.next:=by rw[eg];simp
 have ln:=rd.len
 rw[pD]at ln
 simp only[I]at ln
 obtain⟨T,eT⟩:∃T,T=nj 49 (wH l):=⟨_,rfl⟩
 have hT:∀n,1≤n→n≤15→T[n]?=some (.int .i64 (vo l n)):=fun n _ hn=>by
  rw[eT,fG (by omega),wH,if_pos (by omega)];rfl
 have hS:∀n,n≤15→((T.drop 32).take 16)[n]?=some (zc (ints (syms l n))):=fun n hn=>by
  rw[List.getElem?_take_of_lt (by omega),uS,eT,fG (by omega),wH,if_neg (by omega),if_neg (by omega),if_pos (by omega),show 32+n-32=n by omega]
 have hb:vB l=.aJ T 0:=by rw[eT];rfl
 have lT:T.length=49:=by rw[eT];simp [nj]
 rw[hb]at k
 obtain⟨e',h',L,q1,q2,q3⟩:=FV hl T ((T.drop 32).take 16) h.next hT hS 15 1 g (by omega) (by omega) (by omega) gg
 have L0:∃e',Lp AP.A [4,6,25,26] AP.f338L1 [(4,.aJ T 0),(6,.aD h.next 0 l.length 2),(25,.agg ((T.drop 32).take 16)),(26,.int .i64 0)] g=some (.exit 0,e',h')∧look e' 6=.aD h.next 0 l.length 2:=by
  refine⟨e',sW ?_ L,q1⟩
  have hs:=hS 0 (by omega)
  have ia:lQ false 16 1 (.agg ((T.drop 32).take 16)) (.int .i64 0)=some .aO:=by
   have hs':((T.drop 32).take 16)[0]?=some .aO:=by rw[hs];rfl
   show gN false 1 ((T.drop 32).take 16) 0=_
   unfold gN
   rw[if_neg (by decide)]
   exact hs'
  have Li:Lp AP.A [4,6,7,25,26,30,31,32] AP.f338L0 [(4,.aJ T 0),(6,.aD h.next 0 l.length 2),(7,.int .i64 0),(25,.agg ((T.drop 32).take 16)),(26,.int .i64 0),(30,.aO),(31,.int .i64 0),(32,.int .i64 0)] g=some (.exit 2,[(4,.aJ T 0),(6,.aD h.next 0 l.length 2),(7,.int .i64 0),(25,.agg ((T.drop 32).take 16)),(26,.int .i64 0),(30,.aO),(31,.int .i64 0),(32,.int .i64 0),(33,.bool false)],g):=by
   refine sV ?_
   simp (disch:=omega)only[go_sem,vz,AP.f338L0]
  clear L q3 hs hT hS
  generalize (T.drop 32).take 16=SS at *
  have Jh:(0:Int)<16:=by omega
  simp (disch:=omega)only[go_sem,vz,AP.f338L1,Jh,ia,EB,rR,Li]
 obtain⟨e0,L0,q0⟩:=L0
 rw[IC hr]at q3
 have ce:(u7 l).length=l.length:=by simp [u7]
 have ow:v8 2 h' (.aD h.next 0 l.length 2) l.length ((u7 l).flatMap wJ):=⟨by rw[Bl yL,ce],.inr ⟨h.next,rfl,q3,by omega,by omega⟩⟩
 refine tL (fn:=AP.f338) (h2:=h') (e:=[(2,.aD h.next 0 l.length 2),(3,.int .i64 0)]) (vs:=[.aD h.next 0 l.length 2,.int .i64 0]) rfl rfl rfl ?_ rfl ?_
 · have ld:bS true 16 (.aJ T 32) g=some (.agg ((T.drop 32).take 16)):=by
    show gN true 16 T 32=_
    simp [gN,lT]
   clear ow q3 rd yR hr L hT hS gg
   generalize (T.drop 32).take 16=SS at *
   have ld':gN true 16 T 32=some (.agg SS):=ld
   simp (disch:=omega)only[go_sem,vz,AP.f338,k,ln,←eg,hn,ld',rR,L0,q0]
 · have o':=ow
   rw[Al]at o'
   have s1:=o'.zP (fl:=h.next) (m:=13) (t:=true) (by omega)
   show(fy (snap h'.get h.next 15 true) [.aD h.next 0 l.length 2,.int .i64 0]).bind _=_
   simp only[fy,s1,uE]
   rw[←Al];rfl
theorem I9 (s : ByteArray) (hs : s.size < 32000) : ∀ (f i : Nat) (h : H) (ov : AV) (ts : List Tok), s.size - i ≤ f → i ≤ s.size → ts.length ≤ i → v8 3 h ov ts.length (wg ts) → h.floor ≤ h.next →
 ∃e' h' ov',Lp AP.A [0,4,5] AP.f332L0 [(0,.str s),(4,ov),(5,.int .i64 i)] h=some (.exit 0,e',h')∧look e' 4=ov'∧v8 3 h' ov' (ts++zF s f i).length (wg (ts++zF s f i))∧h'.floor=h.floor∧h.next≤h'.next:=by
 have stop:∀(i:Nat) (h:H) (ov:AV),s.size≤i→∃e',Lp AP.A [0,4,5] AP.f332L0 [(0,.str s),(4,ov),(5,.int .i64 i)] h=some (.exit 0,e',h)∧look e' 4=ov:=by
  intro i h ov hi
  refine⟨[(0,.str s),(4,ov),(5,.int .i64 i),(13,.bool false)],sV ?_,rfl⟩
  have c:¬(i:Int)<s.size:=by omega
  simp (disch:=omega)only[go_sem,vz,AP.f332L0,wD,c]
 intro f
 induction f with
 | zero =>
   intro i h ov ts hf hi hts o hfn
   obtain⟨e',r1,r2⟩:=stop i h ov (by omega)
   exact⟨e',h,ov,r1,r2,by simpa [zF]using o,rfl,uH _⟩
 | succ f ih =>
   intro i h ov ts hf hi hts o hfn
   by_cases c0:i<s.size
   · have kb:=fun g=>Lv g s i hs c0
     have hb:=Cs s i
     have lt:=GQ s i
     have le:=GP s i c0
     have bsp:=zY s i (by omega) i (0,0) (uH _) (.inl rfl)
     have hx:=zK (s:=s) (i:=(i:Int)) ⟨by omega,by omega⟩
     rw[show((i:Int)).toNat=i by omega]at hx
     have c0':(i:Int)<s.size:=by omega
     have fin:∀(g:H) (t:Tok) (i':Nat),wF s i=(t,i')→g.floor=h.floor→g.next=h.next+1→(∀j,j<h.next→g.get j=h.get j)→(∀(v':AV) (h':H),kq (g.alloc (GR t)) 3 24 ov (.aD g.next 0 1 3)=some (v',h')→h'.get h.next=g.get h.next→aK (aQ AP.A) bu AP.f332L0 (ax [(0,.str s),(4,ov),(5,.int .i64 i)] [0,4,5]) h=some (.normal,[(0,.str s),(4,v'),(5,.int .i64 i')],h'))→
      ∃e' h' ov',Lp AP.A [0,4,5] AP.f332L0 [(0,.str s),(4,ov),(5,.int .i64 i)] h=some (.exit 0,e',h')∧look e' 4=ov'∧v8 3 h' ov' (ts++zF s (f+1) i).length (wg (ts++zF s (f+1) i))∧h'.floor=h.floor∧h.next≤h'.next:=by
      intro g t i' et gf gn gk hstep
      have og:v8 3 g ov ts.length (wg ts):=o.mono gf fun j hj=>gk j (o.lt hj).2
      obtain⟨v',h',p1,p2,p3,p4,p5,p6⟩:=og.push (by omega) (z:=24) (m:=1) (by omega) (by omega) (GR t) rfl rfl (by simp [roomy];omega)
      have hon:ov.id?≠some h.next:=fun q=>by have:=(o.lt q).2;omega
      have step:=hstep v' h' p1 (p5 h.next hon (by omega))
      rw[et]at lt le
      simp only at lt le
      have o2:v8 3 h' v' (ts++[t]).length (wg (ts++[t])):=by rw[HC,u4];exact p2
      obtain⟨e',h2,ov',r1,r2,r3,r4,r5⟩:=ih i' h' v' (ts++[t]) (by omega) le (by simp;omega) o2 (by omega)
      refine⟨e',h2,ov',sW step r1,r2, ?_,by omega,by omega⟩
      rw[zF,if_pos c0,et]
      simpa using r3
     by_cases c1:(vO s i i (0,0)).1<3
     · have et:wF s i=(⟨xP s i,0,0⟩,i+1):=if_pos c1
       have e1:Eb (vO s i i (0,0))=(0,0):=if_pos c1
       rw[e1]at kb
       obtain⟨g,eg⟩:∃g,g=((h.alloc [.int .i64 0,.int .i64 0,.int .i64 0]).set h.next [.int .i64 0,.int .i64 0,.int .i64 0]).set h.next [.int .i64 (xP s i:Nat),.int .i64 0,.int .i64 0]:=⟨_,rfl⟩
       have gg0:g.get h.next=some [.int .i64 (xP s i:Nat),.int .i64 0,.int .i64 0]:=by rw[eg,vA rfl,vA rfl,vp rfl];rfl
       refine fin g _ _ et (by rw[eg];simp) (by rw[eg];simp) (fun j hj=>by rw[eg,u9 (by omega),u9 (by omega),vn (by omega)]) fun v' h' ap gh=> ?_
       rw[gg0]at gh
       simp only[GR,LF,ints,R5,SD,I]at ap
       have n1:((i+1:Nat):Int)=(i:Int)+1:=by omega
       have m1:C5 1 0=1:=rfl
       have kb':∀g:H,aQ AP.A 344 [.str s,.int .i64 i] g=some (.agg [.int .i64 0,.int .i64 0,.int .i64 0],g):=kb
       have w8:IntKind.wrap .i64 ((xP s i:Nat):Int)=((xP s i:Nat):Int):=wi (by omega)
       have cz:((0:Int)==0)=true:=by decide
       rw[n1]
       clear kb ih o bsp fin lt le
       generalize ((xP s i:Nat):Int)=Y at *
       simp (disch:=first|omega|(simp only[wO,RX,RZ,uM,Nat.reduceAdd];first|done|omega|fail)|(simp (disch:=first|omega|(simp only[wO,RX,RZ,uM,Nat.reduceAdd];first|done|omega|fail)|fail)only[wO,Cf,R1,RX,RZ,uM,Nat.reduceAdd];done)|fail)only[go_sem,vz,Ce,]at ap
       simp (disch:=first|omega|(simp only[wO,RX,RZ,uM,Nat.reduceAdd,gg0];first|done|omega|fail)|(simp (disch:=first|omega|(simp only[wO,RX,RZ,uM,Nat.reduceAdd,gg0];first|done|omega|fail)|fail)only[wO,Cf,R1,RX,RZ,uM,Nat.reduceAdd,gg0];done)|fail)only[go_sem,vz,Ce,AP.f332L0,wD,c0',kb',hx,Ho,EC,m1,cz,w8,←eg,gg0,ap,gh]
     · have et:wF s i=(⟨0,(vO s i i (0,0)).1,(vO s i i (0,0)).2⟩,i+(vO s i i (0,0)).1):=if_neg c1
       have e1:Eb (vO s i i (0,0))=vO s i i (0,0):=if_neg c1
       rw[e1]at kb
       have b258:(vO s i i (0,0)).1≤258:=by
        rcases bsp with q|q
        · omega
        · exact q.1
       obtain⟨g,eg⟩:∃g,g=(h.alloc [.int .i64 0,.int .i64 0,.int .i64 0]).set h.next [.int .i64 0,.int .i64 (vO s i i (0,0)).1,.int .i64 (vO s i i (0,0)).2]:=⟨_,rfl⟩
       have gg0:g.get h.next=some [.int .i64 0,.int .i64 (vO s i i (0,0)).1,.int .i64 (vO s i i (0,0)).2]:=by rw[eg,vA rfl,vp rfl];rfl
       refine fin g _ _ et (by rw[eg];simp) (by rw[eg];simp) (fun j hj=>by rw[eg,u9 (by omega),vn (by omega)]) fun v' h' ap gh=> ?_
       rw[gg0]at gh
       simp only[GR,LF,ints,R5,SD,I]at ap
       have n1:((i+(vO s i i (0,0)).1:Nat):Int)=(i:Int)+((vO s i i (0,0)).1:Nat):=by omega
       have m1:C5 1 ((vO s i i (0,0)).1:Int)=((vO s i i (0,0)).1:Int):=by unfold C5;split<;>omega
       have cb:(((vO s i i (0,0)).1:Int)==0)=false:=by simp;omega
       rw[n1]
       clear ih o bsp et e1 hx fin lt le
       generalize (vO s i i (0,0)).1=B1 at *
       generalize (vO s i i (0,0)).2=B2 at *
       simp (disch:=first|omega|(simp only[wO,RX,RZ,uM,Nat.reduceAdd];first|done|omega|fail)|(simp (disch:=first|omega|(simp only[wO,RX,RZ,uM,Nat.reduceAdd];first|done|omega|fail)|fail)only[wO,Cf,R1,RX,RZ,uM,Nat.reduceAdd];done)|fail)only[go_sem,vz,Ce,]at ap
       simp (disch:=first|omega|(simp only[wO,RX,RZ,uM,Nat.reduceAdd,gg0];first|done|omega|fail)|(simp (disch:=first|omega|(simp only[wO,RX,RZ,uM,Nat.reduceAdd,gg0];first|done|omega|fail)|fail)only[wO,Cf,R1,RX,RZ,uM,Nat.reduceAdd,gg0];done)|fail)only[go_sem,vz,Ce,AP.f332L0,wD,c0',kb,cb,Ho,EC,m1,←eg,gg0,ap,gh]
   · obtain⟨e',r1,r2⟩:=stop i h ov (by omega)
     exact⟨e',h,ov,r1,r2,by simpa [zF,c0]using o,rfl,uH _⟩
theorem Jb (h:H) (s:ByteArray):aQ AP.A 332 [.str s] h=some (if 300<s.size then .bO [.aO,.int .i64 500]else .bO [Cc (tokens s),.int .i64 0],h):=by
 by_cases c:300<s.size
 · rw[if_pos c]
   refine tL (fn:=AP.f332) (h2:=h.dL) (e:=[(2,.aO),(3,.int .i64 500)]) (vs:=[.aO,.int .i64 500]) rfl rfl rfl ?_ rfl rfl
   have c':(300:Int)<s.size:=by omega
   simp (disch:=omega)only[go_sem,vz,AP.f332,wD,c']
 · rw[if_neg c]
   obtain⟨e',h',ov',r1,r2,r3,r4,r5⟩:=I9 s (by omega) s.size 0 h.dL .aO [] (by omega) (by omega) (by simp) v8.nil (by simp)
   have r1':Lp AP.A [0,4,5] AP.f332L0 [(0,.str s),(4,.aO),(5,.int .i64 0)] h.dL=some (.exit 0,e',h'):=r1
   clear r1
   rw[List.nil_append]at r3
   refine tL (fn:=AP.f332) (h2:=h') (e:=[(2,ov'),(3,.int .i64 0)]) (vs:=[ov',.int .i64 0]) rfl rfl rfl ?_ rfl ?_
   · have c':¬(300:Int)<s.size:=by omega
     simp (disch:=omega)only[go_sem,vz,AP.f332,wD,c',rR,r1',r2]
   · have o':=r3
     rw[Ax]at o'
     have s1:=o'.zP (fl:=h.next) (m:=13) (t:=true) (by rw[r4];simp)
     show(fy (snap h'.get h.next 15 true) [ov',.int .i64 0]).bind _=_
     simp only[fy,s1,uE]
     rw[←Ax];rfl
theorem Gg {P:List Nat} {i b:Nat} (h:i%8=0) (hl:P.length=i/8):vV P i b=P++[b]:=by
 unfold vV
 rw[if_pos h]
 dsimp only
 rw[←hl,h]
 rw[RW,R8 (uH _),Nat.sub_self]
 rw[List.set_append_right _ _ (uH _),Nat.sub_self]
 simp
theorem EZ {P:List Nat} {a i b:Nat} (h:¬i%8=0) (hl:P.length=i/8):vV (P++[a]) i b=P++[a|||b* 2^(i%8)]:=by
 unfold vV
 rw[if_neg h]
 dsimp only
 rw[←hl]
 rw[RW,R8 (uH _),Nat.sub_self]
 rw[List.set_append_right _ _ (uH _),Nat.sub_self]
 simp
theorem Rh:∀b,b<256→b/2^0%2|||b/2^1%2* 2^1|||b/2^2%2* 2^2|||b/2^3%2* 2^3|||b/2^4%2* 2^4|||b/2^5%2* 2^5|||b/2^6%2* 2^6|||b/2^7%2* 2^7=b:=by decide+kernel
theorem Hq {bs:List Nat} (h:bs.length%8=0) {b:Nat} (hb:b<256):vH (bs++vt b 8)=vH bs++[b]:=by
 have pl:=xH bs
 have e:vH (bs++vt b 8)=wR (vt b 8) bs.length (vH bs):=by
  unfold vH;rw[Ak,uM]
 rw[e]
 obtain⟨n,hn⟩:∃n,n=bs.length:=⟨_,rfl⟩
 rw[←hn]at h pl ⊢
 generalize vH bs=P at *
 have lP:P.length=n/8:=by omega
 show wR [b/2^0%2,b/2^1%2,b/2^2%2,b/2^3%2,b/2^4%2,b/2^5%2,b/2^6%2,b/2^7%2] n P=_
 have m:∀k,1≤k→k<8→(n+k)%8=k∧P.length=(n+k)/8:=fun k h1 h2=>by omega
 simp only[wR]
 rw[Gg h lP]
 have st:∀k a c,1≤k→k<8→vV (P++[a]) (n+k) c=P++[a|||c* 2^k]:=fun k a c h1 h2=>by
  obtain⟨m1,m2⟩:=m k h1 h2
  rw[EZ (by omega) m2,m1]
 rw[st 1 _ _ (by omega) (by omega)]
 rw[show n+1+1=n+2 by omega,st 2 _ _ (by omega) (by omega)]
 rw[show n+2+1=n+3 by omega,st 3 _ _ (by omega) (by omega)]
 rw[show n+3+1=n+4 by omega,st 4 _ _ (by omega) (by omega)]
 rw[show n+4+1=n+5 by omega,st 5 _ _ (by omega) (by omega)]
 rw[show n+5+1=n+6 by omega,st 6 _ _ (by omega) (by omega)]
 rw[show n+6+1=n+7 by omega,st 7 _ _ (by omega) (by omega)]
 rw[Rh b hb]
def xV (s:ByteArray) (i:Nat):List Nat:=(List.range i).flatMap fun k=>vt (xP s k) 8
theorem AD (s:ByteArray) (i:Nat):xV s (i+1)=xV s i++vt (xP s i) 8:=by simp [xV,List.range_succ]
theorem BN (s:ByteArray):∀i,(xV s i).length=8* i
 |0=>rfl
 |i+1=>by rw[AD,u4,BN s i];simp [vt,vC];omega
theorem B3 (bs:List Nat) (h:bs.length%8=0) (s:ByteArray):∀i,vH (bs++xV s i)=vH bs++preB s i
 |0=>by simp [xV,preB]
 | i + 1 => by
   rw[AD,←R9,Hq (by rw[u4,BN];omega) (Cs s i),B3 bs h s i,BA,R9]
theorem FB (s:ByteArray):bytesOf (preB s s.size)=s:=by
 apply ByteArray.ext
 apply Array.ext
 · have:=vS (preB s s.size)
   rw[xf]at this
   exact this
 · intro i h1 h2
   simp only[bytesOf,preB,List.map_map,List.getElem_toArray,List.getElem_map,List.getElem_range,Function.comp_apply]
   have hi:i<s.size:=h2
   unfold xP
   rw[show s[i]?=some s[i]by simp [hi]]
   simp
   rfl
theorem Ct (a b:List Nat):bytesOf (a++b)=bytesOf a++bytesOf b:=by
 apply ByteArray.ext
 simp [bytesOf,ByteArray.data_append]
theorem GH (s:ByteArray):bytesOf (vH (wB s.size++xV s s.size))=wY s:=by
 have l:(wB s.size).length=40:=by simp [wB,vt,vC]
 rw[B3 _ (by omega),Ct,FB];rfl
theorem Ik (s:ByteArray) (hs:s.size≤300) (h0:H) (w:Nat):∀(m i:Nat) (bs:List Nat) (h:H) (ov:AV),i+m=s.size→WX h0 h w bs ov→bs.length+8* m≤60000→
 ∃h' ov',Lp AP.A [0,4,5,25,26] AP.f325L0 [(0,.str s),(4,.aC w 0),(5,.fn 335 [.aC w 0] []),(25,.int .i64 s.size),(26,.int .i64 i)] h=some (.exit 0,[(0,.str s),(4,.aC w 0),(5,.fn 335 [.aC w 0] []),(25,.int .i64 s.size),(26,.int .i64 s.size),(27,.bool false)],h')∧WX h0 h' w (bs++((List.range' i m).flatMap fun k=>vt (xP s k) 8)) ov'
 | 0, i, bs, h, ov, hi, x, hb => by
   obtain rfl:i=s.size:=by omega
   refine⟨h,ov,sV ?_,by simpa using x⟩
   simp (disch:=omega)only[go_sem,vz,AP.f325L0]
 | m + 1, i, bs, h, ov, hi, x, hb => by
   have bl:=Cs s i
   obtain⟨h1,o1,k1,w1,f1⟩:=xR x.wr (xP s i) 8 (by omega) (by omega) (by omega)
   obtain⟨h',ov',L,x2⟩:=Ik s hs h0 w m (i+1) (bs++vt (xP s i) 8) h1 o1 (by omega) (x.step w1 f1) (by simp [vt,vC];omega)
   refine⟨h',ov',sW ?_ L,by rw[List.range'_succ,R3,←R9];exact x2⟩
   have hx:=zK (s:=s) (i:=(i:Int)) ⟨by omega,by omega⟩
   rw[show((i:Int)).toNat=i by omega]at hx
   have c0:(i:Int)<s.size:=by omega
   have w8:IntKind.wrap .i64 ((xP s i:Nat):Int)=((xP s i:Nat):Int):=wi (by omega)
   have k1':aQ AP.A 335 [.aC w 0,.int .i64 (xP s i:Nat),.int .i64 8] h=some (.int .i64 0,h1):=k1
   have n1:((i+1:Nat):Int)=(i:Int)+1:=by omega
   rw[n1]
   clear x x2 L w1 f1 k1
   generalize ((xP s i:Nat):Int)=Y at *
   simp (disch:=omega)only[go_sem,vz,AP.f325L0,c0,hx,w8,k1']
theorem LH:∀n:Nat,n≤300→bits .xor .i64 (n:Int) 65535=65535-(n:Int):=by
 intro n hn
 have:∀n:Nat,n<301→decide (bits .xor .i64 ((n:Nat):Int) 65535=65535-((n:Nat):Int))=true:=by decide+kernel
 exact of_decide_eq_true (this n (by omega))
theorem El (h:H) (s:ByteArray):aQ AP.A 325 [.str s] h=some (if 300<s.size then .bO [.str ⟨#[]⟩,.int .i64 800]else .bO [.str (wY s),.int .i64 0],h):=by
 by_cases c:300<s.size
 · rw[if_pos c]
   have c':(300:Int)<s.size:=by omega
   refine tL (fn:=AP.f325) (h2:=h.dL) (e:=[(2,.str ⟨#[]⟩),(3,.int .i64 800)]) (vs:=[.str ⟨#[]⟩,.int .i64 800]) rfl rfl rfl ?_ rfl rfl
   simp (disch:=omega)only[go_sem,vz,AP.f325,wD,c']
 · rw[if_neg c]
   obtain⟨h1,o1,k1,x1,f1⟩:=HH (h:=h.dL) rfl 0 (by omega)
   have e0:vt 1 1++vt 0 2=vt 1 3:=by decide
   rw[e0]at x1
   obtain⟨h2,k2,w2,r2⟩:=Ka x1.wr 5 (by simp [vt,vC]) (by omega) (by simp [vt,vC])
   have x2:=x1.step w2 r2
   obtain⟨h3,o3,k3,w3,r3⟩:=xR x2.wr s.size 16 (by omega) (by omega) (by simp [vt,vC])
   have x3:=x2.step w3 r3
   obtain⟨h4,o4,k4,w4,r4⟩:=xR x3.wr (65535-s.size) 16 (by omega) (by omega) (by simp [vt,vC])
   have x4:=x3.step w4 r4
   have ee:vt 1 3++List.replicate 5 0++vt s.size 16++vt (65535-s.size) 16=wB s.size:=by unfold wB;simp only[R9]
   rw[ee]at x4
   obtain⟨h5,o5,L,x5⟩:=Ik s (by omega) h.dL h.dL.next s.size 0 _ h4 o4 (by omega) x4 (by simp [wB,vt,vC];omega)
   have eb:wB s.size++((List.range' 0 s.size).flatMap fun k=>vt (xP s k) 8)=wB s.size++xV s s.size:=by unfold xV;rw[List.range_eq_range']
   rw[eb]at x5
   have k6:=Ia x5.wr
   rw[GH s]at k6
   have hN:h.dL.next=h.next:=rfl
   rw[hN]at k1 k2 k3 k4 L k6
   have c':¬(300:Int)<s.size:=by omega
   have k1':aQ AP.A 333 [.int .i64 0] h.dL=some (.aC h.next 0,h1):=k1
   have k3':aQ AP.A 335 [.aC h.next 0,.int .i64 s.size,.int .i64 16] h2=some (.int .i64 0,h3):=k3
   have xo:=LH s.size (by omega)
   have e4:((65535-s.size:Nat):Int)=65535-(s.size:Int):=by omega
   rw[e4]at k4
   have k4':aQ AP.A 335 [.aC h.next 0,.int .i64 (65535-(s.size:Int)),.int .i64 16] h3=some (.int .i64 0,h4):=k4
   have L':Lp AP.A [0,4,5,25,26] AP.f325L0 [(0,.str s),(4,.aC h.next 0),(5,.fn 335 [.aC h.next 0] []),(25,.int .i64 s.size),(26,.int .i64 0)] h4=_:=L
   refine tL (fn:=AP.f325) (h2:=h5) (e:=[(2,.str (wY s)),(3,.int .i64 0)]) (vs:=[.str (wY s),.int .i64 0]) rfl rfl rfl ?_ rfl rfl
   clear x1 x2 x3 x4 x5 w2 w3 w4 r2 r3 r4 L k1 k3 k4 ee eb e0
   generalize wY s=TT at *
   generalize 65535-(s.size:Int)=Z at *
   simp (disch:=omega)only[go_sem,vz,AP.f325,wD,c',k1',k2,k3',xo,k4',rR,L',k6]
theorem AU (W : List Int) (F : List Bool) : ∀ (m i : Nat) (a : Int), (a = -1 ∧ (∀ j, j < i → F.getD j false = false)) ∨ (∃ k : Nat, a = k ∧ k < i ∧ F.getD k false = true ∧ (∀ j, j < i → F.getD j false = true → W.getD k 0 ≤ W.getD j 0) ∧ ∀ j, j < k → F.getD j false = true → W.getD k 0 < W.getD j 0) →
 (wN W F m i a= -1)∨(∃k:Nat,wN W F m i a=k∧∀j,j<k→F.getD j false=true→W.getD k 0<W.getD j 0)
 | 0, i, a, h => by
   rcases h with ⟨h,_⟩|⟨k,h,_,_,_,h2⟩
   · exact .inl h
   · exact .inr ⟨k,h,h2⟩
 | m + 1, i, a, h => by
   rw[wN]
   refine AU W F m (i+1) _ ?_
   by_cases c:F.getD i false=true∧(a<0∨W.getD i 0<W.getD a.toNat 0)
   · rw [if_pos c]
     refine .inr ⟨i,rfl,by omega,c.1,fun j hj hf=> ?_,fun j hj hf=> ?_⟩
     · by_cases q:j=i
       · subst q;exact Sx _
       · rcases h with ⟨_,h2⟩|⟨k,rfl,h1,h2,h3,h4⟩
         · rw[h2 j (by omega)]at hf;cases hf
         · have:=h3 j (by omega) hf
           have tk:((k:Nat):Int).toNat=k:=by omega
           rw[tk]at c
           have:=c.2
           omega
     · rcases h with ⟨_,h2⟩|⟨k,rfl,h1,h2,h3,h4⟩
       · rw[h2 j (by omega)]at hf;cases hf
       · have:=h3 j (by omega) hf
         have tk:((k:Nat):Int).toNat=k:=by omega
         rw[tk]at c
         have:=c.2
         omega
   · rw [if_neg c]
     rcases h with ⟨rfl,h2⟩|⟨k,rfl,h1,h2,h3,h4⟩
     · refine .inl ⟨rfl,fun j hj=> ?_⟩
       by_cases q:j=i
       · subst q
         cases e:F.getD j false with
         |false=>rfl
         |true=>exact absurd ⟨e,.inl (by omega)⟩ c
       · exact h2 j (by omega)
     · refine .inr ⟨k,rfl,by omega,h2,fun j hj hf=> ?_,h4⟩
       by_cases q:j=i
       · subst q
         have tk:((k:Nat):Int).toNat=k:=by omega
         rw[tk]at c
         have:¬(W.getD j 0<W.getD k 0):=fun x=>c ⟨hf,.inr x⟩
         omega
       · exact h3 j (by omega) hf
theorem F8 {W:List Int} {F:List Bool} (h:0≤wN W F W.length 0 (-1)):∀j,j<xm W F→F.getD j false=true→W.getD (xm W F) 0<W.getD j 0:=by
 rcases AU W F W.length 0 (-1) (.inl ⟨rfl,fun j hj=>by omega⟩)with q|⟨k,q,r⟩
 · omega
 · have ek:xm W F=k:=by unfold xm;rw[q];omega
   rw[ek];exact r
structure Tz where
 w:Int
 m:Int
 L:List Int
def KP (n N:Nat) (S:List Int) (r:Nat):Int:=if r<n then S.getD r 0 else(N:Int)+(r-n:Nat)
def wW (rc:Nat→Tz) (t:Nat):Int:=(rc t).w* 1000000+(rc t).m
def Br:List Int→List Int→List Int
 |O,[]=>O
 |O,s::r=>Br (wQ O s.toNat) r
theorem CP:∀(L O:List Int),(Br O L).length=O.length
 |[],O=>rfl
 |s::r,O=>by rw[Br,CP r,xe]
theorem Oi (O:List Int) (i q:Nat) (hi:i<O.length):(wQ O i).getD q 0=O.getD q 0+if i=q then 1 else 0:=by
 unfold wQ
 rw[RW,Sb]
 by_cases c:i=q
 · subst c;rw[if_pos rfl,if_pos hi,if_pos rfl];rfl
 · rw[if_neg c,if_neg c,RW];omega
theorem EN:∀(L O:List Int) (q:Nat),(∀s∈L,s.toNat<O.length)→(Br O L).getD q 0=O.getD q 0+(L.map Int.toNat).count q
 |[],O,q,h=>by simp [Br]
 | s :: r, O, q, h => by
   rw[Br,EN r _ q (fun t ht=>by rw[xe];exact h t (by simp [ht])),Oi _ _ _ (h s (by simp)),R5,List.count_cons]
   by_cases c:s.toNat=q
   · subst c;simp;omega
   · simp [c]
structure Az (n N:Nat) (S:List Int):Prop where
 len:S.length=n
 Ox:∀s∈S,0≤s∧s<N
 inc:∀i j,i<j→j<n→S.getD i 0<S.getD j 0
 nd:(S.map Int.toNat).Nodup
theorem Az.at {n N:Nat} {S:List Int} (o:Az n N S) {i:Nat} (h:i<n):0≤S.getD i 0∧S.getD i 0<N:=by
 refine o.Ox _ ?_
 rw[RW,RY (by rw[o.len];exact h)]
 exact Sd _
theorem Az.inj {n N:Nat} {S:List Int} (o:Az n N S) {i j:Nat} (hi:i<n) (hj:j<n) (h:S.getD i 0=S.getD j 0):i=j:=by
 rcases Nat.lt_trichotomy i j with q|q|q
 · have:=o.inc i j q hj;omega
 · exact q
 · have:=o.inc j i q hi;omega
theorem Oo {n N:Nat} {S:List Int} (o:Az n N S) {r q:Nat} (h:r<q):KP n N S r<KP n N S q:=by
 unfold KP
 by_cases c:q<n
 · rw[if_pos (by omega),if_pos c];exact o.inc r q h c
 · rw[if_neg c]
   split
   · rename_i a;have:=o.at a;omega
   · omega
structure Fj (n N:Nat) (tot:Int) (S:List Int) (G s:FS) (rc:Nat→Tz) (tr:Nat→Tr) (l:List Nat) (O:List Int):Prop where
 hv:yz false n tot s (l.map tr)
 lw:s.W.length+l.length=2* n
 ll:l.length≤n
 fin:FS.yi (l.length-1) s=G
 so:Az n N S
 rel:∀t∈l,(rc t).w=s.W.getD (tr t).1 0∧(rc t).m=KP n N S (tr t).1∧(rc t).L=(tr t).2.map fun p=>S.getD p.1 0
 out:∀t∈l,∀p∈(tr t).2,O.getD (S.getD p.1 0).toNat 0=((p.2:Nat):Int)
 zero:∀q,(∀s∈S,s.toNat≠q)→O.getD q 0=0
 len:O.length=N
theorem Fj.perm {n N:Nat} {tot:Int} {S:List Int} {G s:FS} {rc:Nat→Tz} {tr:Nat→Tr} {l l':List Nat} {O:List Int} (v:Fj n N tot S G s rc tr l O) (p:l.Perm l'):Fj n N tot S G s rc tr l' O where
 hv:=v.hv.perm (p.map tr)
 lw:=by rw[←p.length_eq];exact v.lw
 ll:=by rw[←p.length_eq];exact v.ll
 fin:=by rw[←p.length_eq];exact v.fin
 so:=v.so
 rel t h:=v.rel t (p.mem_iff.2 h)
 out t h:=v.out t (p.mem_iff.2 h)
 zero:=v.zero
 len:=v.len
theorem F9 {n N:Nat} {S W:List Int} {F:List Bool} (so:Az n N S) (hl:F.length=W.length) (hW:W.length<2* n) (hn:n≤1000) (hN:N≤1000) {rc:Nat→Tz} {tr:Nat→Tr} {l:List Nat} (hf:∀i,F.getD i false=true→∃t∈l,(tr t).1=i) (ht:∀t∈l,F.getD (tr t).1 false=true) (rel:∀t∈l,(rc t).w=W.getD (tr t).1 0∧(rc t).m=KP n N S (tr t).1) {t0:Nat} (h0:t0∈l) (hm:∀t∈l,wW rc t0≤wW rc t):
 (tr t0).1=xm W F∧0≤wN W F W.length 0 (-1)∧∀t∈l,W.getD (tr t0).1 0≤W.getD (tr t).1 0:=by
 obtain⟨l1,la,fa,ma⟩:=Ae hl (ht t0 h0)
 obtain⟨ta,hta,ea⟩:=hf _ fa
 have fi:=F8 l1
 have mr:∀t∈l,0≤(rc t).m∧(rc t).m<1000000:=fun t h=>by
  rw[(rel t h).2]
  have lt:(tr t).1<W.length:=by
   have:=ht t h
   rw[RW]at this
   cases e:F[(tr t).1]? with
   |none=>rw[e]at this;cases this
   |some b=>have:=(uD.1 e).1;omega
  unfold KP
  split
  · rename_i a;have:=so.at a;omega
  · omega
 have m1:=hm ta hta
 have w0:=ma (tr t0).1 (ht t0 h0)
 have r0:=rel t0 h0
 have ra:=rel ta hta
 have q0:=mr t0 h0
 have qa:=mr ta hta
 unfold wW at m1
 have ew:W.getD (tr t0).1 0=W.getD (xm W F) 0:=by rw[←ea]at w0 ⊢;rw[r0.1,ra.1]at m1;omega
 have em:(rc t0).m≤(rc ta).m:=by rw[r0.1,ra.1,ea,ew]at m1;omega
 have e1:(tr t0).1=xm W F:=by
  rcases Nat.lt_trichotomy (tr t0).1 (xm W F)with q|q|q
  · have:=fi _ q (ht t0 h0);omega
  · exact q
  · rw[←ea]at q
    have:=Oo so q
    rw[r0.2,ra.2]at em;omega
 refine⟨e1,l1,fun t h=> ?_⟩
 rw[ew];exact ma _ (ht t h)
theorem Fj.step {n N : Nat} {tot : Int} {S : List Int} {G s : FS} {rc rc' : Nat → Tz} {tr : Nat → Tr} {l2 : List Nat} {O : List Int} {a b t : Nat} (v : Fj n N tot S G s rc tr (a :: b :: l2) O) (hn : n ≤ 1000) (hN : N ≤ 1000) (ht : tot < 1000000000000000)
 (ha:∀t∈b::l2,wW rc a≤wW rc t) (hb:∀t∈l2,wW rc b≤wW rc t) (fr:∀x∈l2,x≠t) (er:∀x∈l2,rc' x=rc x)
 (et:rc' t=⟨(rc a).w+(rc b).w,((N+(n-(l2.length+2)):Nat):Int),(rc a).L++(rc b).L⟩):
 Fj n N tot S G s.ER rc' (fun x=>if x=t then(s.U.length,xw ((tr a).2++(tr b).2))else tr x) (t::l2) (Br O ((rc a).L++(rc b).L))∧(∀q∈(rc a).L++(rc b).L,0≤q∧q<N)∧((rc a).L++(rc b).L).length≤n∧0<((rc a).L++(rc b).L).length:=by
 have lw:=v.lw
 have ll:=v.ll
 simp only[RX]at lw ll
 obtain⟨ea,l1,mA⟩:=F9 (F:=s.F) (W:=s.W) v.so v.hv.lf (by omega) hn hN (tr:=tr) (rc:=rc) (l:=a::b::l2) (fun i hi=>by
  obtain⟨x,hx,e⟩:=v.hv.free i hi
  obtain⟨y,hy,rfl⟩:=R6.1 hx
  exact⟨y,hy,e⟩) (fun x hx=>(v.hv.root _ (R6.2 ⟨x,hx,rfl⟩)).1) (fun x hx=>⟨(v.rel x hx).1,(v.rel x hx).2.1⟩) (t0:=a) (by simp) (fun x hx=>by
   rcases uY.1 hx with q|q
   · subst q;exact Sx _
   · exact ha x q)
 have nd:=v.hv.nd
 simp only[R5,SE,uY,not_or]at nd
 obtain⟨⟨nab,na⟩,nb,n2⟩:=nd
 have naL:∀x∈b::l2,(tr x).1≠s.a:=fun x hx e=>by
  have e':(tr x).1=(tr a).1:=by rw[e,ea];rfl
  rcases uY.1 hx with q|q
  · subst q;exact nab e'.symm
  · exact na (R6.2 ⟨tr x,R6.2 ⟨x,q,rfl⟩,e'⟩)
 obtain⟨eb,l2',mB⟩:=F9 (F:=s.F1) (W:=s.W) v.so (by show(s.F.set s.a false).length=_;rw[Sj];exact v.hv.lf) (by omega) hn hN (tr:=tr) (rc:=rc) (l:=b::l2) (fun i hi=>by
  have hne:s.a≠i:=fun e=>by
   subst e
   have:(s.F.set s.a false).getD s.a false=true:=hi
   rw[yX]at this;cases this
  have hi':s.F.getD i false=true:=by
   have:(s.F.set s.a false).getD i false=true:=hi
   rwa [getD_set_ne hne]at this
  obtain⟨x,hx,e⟩:=v.hv.free i hi'
  obtain⟨y,hy,rfl⟩:=R6.1 hx
  rcases uY.1 hy with q|q
  · subst q;exact absurd (ea.symm.trans e) hne
  · exact⟨y,q,e⟩) (fun x hx=>by
    show(s.F.set s.a false).getD (tr x).1 false=true
    rw[getD_set_ne (fun e=>naL x hx e.symm)]
    exact(v.hv.root _ (R6.2 ⟨x,by simp only[uY]at hx ⊢;exact .inr hx,rfl⟩)).1) (fun x hx=>by
     have hx':x∈a::b::l2:=Sy _ hx
     exact⟨(v.rel x hx').1,(v.rel x hx').2.1⟩) (t0:=b) (by simp) (fun x hx=>by
    rcases uY.1 hx with q|q
    · subst q;exact Sx _
    · exact hb x q)
 have ea':(tr a).1=s.a:=ea
 have eb':(tr b).1=s.b:=eb
 obtain⟨ok,hv⟩:=v.hv.Kz (T2:=l2.map tr) (ta:=tr a) (tb:=tr b) (SA _) ea' eb' l1 l2' (by have:=mA b (by simp);rw[ea',eb']at this;exact this) (fun x hx=>by
  obtain⟨y,hy,rfl⟩:=R6.1 hx
  have:=mB y (by simp [hy]);rw[eb']at this;exact this) ht
 have tm:∀x∈l2,(if x=t then((s.U.length,xw ((tr a).2++(tr b).2)):Tr)else tr x)=tr x:=fun x hx=>if_neg (fr x hx)
 have em:(t::l2).map (fun x=>if x=t then((s.U.length,xw ((tr a).2++(tr b).2)):Tr)else tr x)=(s.U.length,xw ((tr a).2++(tr b).2))::l2.map tr:=by
  rw[R5,if_pos rfl]
  congr 1
  exact Sr tm
 have lv:=v.hv.leaves
 have lnd:(((a::b::l2).map tr).flatMap fun t=>t.2.map (·.1)).Nodup:=lv.nodup_iff.2 List.nodup_range
 have llt:∀x∈a::b::l2,∀p∈(tr x).2,p.1<n:=fun x hx p hp=>List.mem_range.1 (lv.mem_iff.1 (List.mem_flatMap.2 ⟨tr x,R6.2 ⟨x,hx,rfl⟩,R6.2 ⟨p,hp,rfl⟩⟩))
 have eL:(rc a).L++(rc b).L=((tr a).2++(tr b).2).map fun p=>S.getD p.1 0:=by
  rw[(v.rel a (by simp)).2.2,(v.rel b (by simp)).2.2,List.map_append]
 have ltab:∀p∈(tr a).2++(tr b).2,p.1<n:=fun p hp=>by
  rcases Sn.1 hp with q|q
  · exact llt a (by simp) p q
  · exact llt b (by simp) p q
 have rL:∀q∈(rc a).L++(rc b).L,0≤q∧q<N:=fun q hq=>by
  rw[eL]at hq
  obtain⟨p,hp,rfl⟩:=R6.1 hq
  exact v.so.at (ltab p hp)
 have rL2:∀q∈(rc a).L++(rc b).L,q.toNat<O.length:=fun q hq=>by have:=rL q hq;rw[v.len];omega
 have cnt1:∀k:Nat,k<n→(((rc a).L++(rc b).L).map Int.toNat).count (S.getD k 0).toNat=(((tr a).2++(tr b).2).map (·.1)).count k:=fun k hk=>by
  rw[eL,List.map_map]
  have:∀q:List (Nat×Nat),(∀p∈q,p.1<n)→(q.map (Int.toNat∘fun p=>S.getD p.1 0)).count (S.getD k 0).toNat=(q.map (·.1)).count k:=by
   intro q
   induction q with
   |nil=>intro _;rfl
   | cons p q ih =>
     intro h
     rw[R5,R5,List.count_cons,List.count_cons,ih fun p hp=>h p (by simp [hp])]
     have hp:=h p (by simp)
     have a1:=v.so.at hp
     have a2:=v.so.at hk
     congr 1
     by_cases c:p.1=k
     · simp [c]
     · have:¬(S.getD p.1 0).toNat=(S.getD k 0).toNat:=fun e=>c (v.so.inj hp hk (by omega))
       simp only[Function.comp_apply,beq_iff_eq,this,c,u5]
  exact this _ ltab
 rw[R5,R5,R3,R3,←R9,←List.map_append]at lnd
 have lnd1:=(List.nodup_append.1 lnd)
 refine⟨⟨by rw[em];exact hv,by rw[FS.H2];simp only[RX];omega,by simp only[RX];omega, ?_,v.so, ?_, ?_, ?_,by rw[CP];exact v.len⟩,rL, ?_, ?_⟩
 · have:=v.fin
   simpa [FS.yi]using this
 · intro x hx
   rcases uY.1 hx with q|q
   · subst q
     rw[if_pos rfl,et]
     refine⟨?_, ?_, ?_⟩
     · show(rc a).w+(rc b).w=s.ER.W.getD s.U.length 0
       rw[(v.rel a (by simp)).1,(v.rel b (by simp)).1,ea',eb']
       show _=(s.W++[s.sum]).getD s.U.length 0
       have e:(s.W++[s.sum]).getD s.U.length 0=s.sum:=by rw[v.hv.lu,RW,R8 (uH _)];simp
       rw[e];rfl
     · show _=KP n N S s.U.length
       have lu:=v.hv.lu
       unfold KP
       rw[if_neg (by omega)]
       show((N+(n-(l2.length+2)):Nat):Int)=(N:Int)+((s.U.length-n:Nat):Int)
       have:s.U.length-n=n-(l2.length+2):=by omega
       rw[this];omega
     · show(rc a).L++(rc b).L=_
       rw[eL];unfold xw;rw[List.map_map];rfl
   · rw[tm x q,er x q]
     have:=v.rel x (by simp [q])
     refine⟨?_,this.2⟩
     have rr:=v.hv.root _ (R6.2 ⟨x,Sy _ (Sy _ q),rfl⟩)
     have lt:=(uD.1 rr.2).1
     rw[this.1]
     show _=(s.W++[s.sum]).getD (tr x).1 0
     rw[RW,RW,R7 (by rw[←v.hv.lu];exact lt)]
 · intro x hx p hp
   rcases uY.1 hx with q|q
   · subst q
     rw[if_pos rfl]at hp
     obtain⟨p0,hp0,rfl⟩:=R6.1 hp
     have hlt:=ltab p0 hp0
     show(Br O _).getD (S.getD p0.1 0).toNat 0=((p0.2+1:Nat):Int)
     rw[EN _ _ _ rL2,cnt1 _ hlt]
     have c1:(((tr a).2++(tr b).2).map (·.1)).count p0.1=1:=by rw[lnd1.1.count,if_pos (R6.2 ⟨p0,hp0,rfl⟩)]
     rw[c1]
     have o1:O.getD (S.getD p0.1 0).toNat 0=((p0.2:Nat):Int):=by
      rcases Sn.1 hp0 with z|z
      · exact v.out a (by simp) p0 z
      · exact v.out b (by simp) p0 z
     rw[o1];omega
   · rw[tm x q]at hp
     have hlt:=llt x (by simp [q]) p hp
     rw[EN _ _ _ rL2,cnt1 _ hlt]
     have c0:(((tr a).2++(tr b).2).map (·.1)).count p.1=0:=List.count_eq_zero.2 fun hm=>
      lnd1.2.2 _ hm p.1 (List.mem_flatMap.2 ⟨tr x,R6.2 ⟨x,q,rfl⟩,R6.2 ⟨p,hp,rfl⟩⟩) rfl
     rw[c0,v.out x (by simp [q]) p hp];omega
 · intro q hq
   rw[EN _ _ _ rL2,v.zero q hq]
   have:(((rc a).L++(rc b).L).map Int.toNat).count q=0:=List.count_eq_zero.2 fun hm=>by
    obtain⟨y,hy,rfl⟩:=R6.1 hm
    rw[eL]at hy
    obtain⟨p,hp,rfl⟩:=R6.1 hy
    have hp':=ltab p hp
    refine hq (S.getD p.1 0) ?_ rfl
    rw[RW,RY (by rw[v.so.len];exact hp')]
    exact Sd _
   rw[this];rfl
 · have ln:=lv.length_eq
   rw[R5,R5,R3,R3,u4,u4,List.length_map,List.length_map,List.length_range]at ln
   rw[eL,List.length_map,u4];omega
 · have:=v.hv.ne (tr a) (by simp)
   rw[eL,List.length_map,u4]
   have:=List.length_pos_iff.2 this
   omega
theorem Fj.init {N:Nat} {S ws:List Int} {rc:Nat→Tz} {l:List Nat} (so:Az ws.length N S) (pos:∀y∈ws,1≤y) (tr:Nat→Tr) (htr:l.map tr=T0 ws.length)
 (rel:∀t∈l,∃i,i<ws.length∧tr t=(i,[(i,0)])∧rc t=⟨ws.getD i 0,S.getD i 0,[S.getD i 0]⟩):
 Fj ws.length N ws.sum S (FS.yi (ws.length-1) (Cd ws)) (Cd ws) rc tr l (List.replicate N 0) where
 hv:=by rw[htr];exact yz.init ws false pos (fun h=>by cases h)
 lw:=by
  have:l.length=ws.length:=by have:=Sp List.length htr;simpa [T0]using this
  rw[this];show ws.length+ws.length=_;omega
 ll:=by
  have:l.length=ws.length:=by have:=Sp List.length htr;simpa [T0]using this
  omega
 fin:=by
  have:l.length=ws.length:=by have:=Sp List.length htr;simpa [T0]using this
  rw[this]
 so:=so
 rel t ht:=by
  obtain⟨i,hi,e1,e2⟩:=rel t ht
  rw[e1,e2]
  refine⟨rfl, ?_,rfl⟩
  show S.getD i 0=KP _ _ _ i
  unfold KP;rw[if_pos hi]
 out t ht p hp:=by
  obtain⟨i,hi,e1,e2⟩:=rel t ht
  rw[e1]at hp
  simp at hp
  subst hp
  have:=so.at hi
  show(List.replicate N (0:Int)).getD (S.getD i 0).toNat 0=_
  rw[RW,Sl,if_pos (by omega)];rfl
 zero q _:=by
  rw[RW,Sl];split<;>rfl
 len:=by simp
theorem Fj.QA {N : Nat} {S ws : List Int} {G : FS} {rc : Nat → Tz} {tr : Nat → Tr} {t : Nat} {O : List Int} {tot : Int} {s : FS} (hG : G = FS.yi (ws.length - 1) (Cd ws)) (v : Fj ws.length N tot S G s rc tr [t] O) : O = vN S (vq ws) (List.replicate N 0) := by
 have es:s=G:=v.fin
 have up:=v.hv.up
 have rt:=(v.hv.root (tr t) (by simp)).2
 have rtD:s.U.getD (tr t).1 (-1)= -1:=by rw[RW,rt];rfl
 have rl:=(uD.1 rt).1
 have lv:=v.hv.leaves
 simp only[R5,SD,R3,List.flatMap_nil,Sf]at lv
 have dep:∀q∈(tr t).2,BJ s.U s.U.length (s.U.getD q.1 (-1))=q.2:=fun q hq=>by
  have:=v.hv.pt (tr t) (by simp) q hq
  have l:=E6 up this
  exact E8 up this rtD _ (by omega)
 have eD:vq ws=EJ s.U ws.length:=by rw[es,hG];rfl
 have dl:(vq ws).length=ws.length:=wv ws
 have nd:=v.so.nd
 have ol:=v.len
 apply List.ext_getElem?
 intro q
 by_cases hq:q<N
 · have e0:O[q]?=some (O.getD q 0):=by rw[RW,RY (by omega)];rfl
   rw[e0]
   by_cases c:∃s∈S,s.toNat=q
   · obtain⟨y,hy,rfl⟩:=c
     obtain⟨j,hj,ej⟩:=Sw.1 hy
     have hj':j<ws.length:=by rw[v.so.len]at hj;exact hj
     have h1:S[j]?=some y:=by rw[RY hj,ej]
     have eyD:S.getD j 0=y:=by rw[RW,h1];rfl
     obtain⟨p,hp,ep⟩:=R6.1 (lv.mem_iff.2 (List.mem_range.2 hj'))
     have o1:=v.out t (by simp) p hp
     rw[ep,eyD]at o1
     have h2:(vq ws)[j]?=some ((p.2:Nat):Int):=by
      rw[eD];unfold EJ
      rw[uQ,Sq hj']
      rw[←ep]
      show some ((BJ s.U s.U.length (s.U.getD p.1 (-1)):Nat):Int)=_
      rw[dep p hp]
     rw[xI S _ _ j y _ nd h1 h2 (by simpa using hq),o1]
   · have c':∀s∈S,s.toNat≠q:=fun s hs e=>c ⟨s,hs,e⟩
     rw[wK _ _ _ _ c',v.zero q c',Sl,if_pos hq]
 · rw[Sa (by omega),Sa (by rw[wA];simp;omega)]
def yY:List Int→Nat
 |[]=>0
 |c::r=>if c=0 then 0 else yY r+1
def yn (C:List Int):Nat:=(vk C).length
def C8 (C:List Int):List Int:=if yn C=1 then C.set (yY C) 1 else C
theorem Gs (C:List Int):(C8 C).length=C.length:=by unfold C8;split<;>simp
theorem Ey:∀(C:List Int),(∀y∈C,0≤y)→vk C=[]→∀y∈C,y=0
 |[],_,_,y,hy=>by simp at hy
 | c :: r, hp, h, y, hy => by
   rw[vk]at h
   by_cases q:0<c
   · rw[if_pos q]at h;cases h
   · rw[if_neg q]at h
     rcases uY.1 hy with z|z
     · have:=hp c (by simp);omega
     · exact Ey r (fun y h=>hp y (by simp [h])) h y z
theorem Ot {C : List Int} (hC : ∀ y ∈ C, 0 ≤ y) (h2 : 2 ≤ C.length) : vi 0 (C8 C) = wx C ∧ vk (C8 C) = wI C := by
 unfold wx wI A7 Hr C8 yn
 rw[vJ]
 by_cases c:(vk C).length=1
 · rw [if_pos c, if_pos c, if_pos c]
   match C,h2 with
   | c0 :: c1 :: r, _ =>
     have p0:=hC c0 (by simp)
     have p1:=hC c1 (by simp)
     by_cases q:0<c0
     · have w1:(vk (c1::r)).length=0:=by rw[vk,if_pos q]at c;simpa using c
       have wn:=Sk w1
       have s1:vi 1 (c1::r)=[]:=Sk (by rw[vJ,w1])
       have z1:=Ey (c1::r) (fun y h=>hC y (by simp [h])) wn c1 (by simp)
       have i0:yY (c0::c1::r)=1:=by rw[yY,if_neg (by omega),yY,if_pos z1]
       have s2:vi 2 r=[]:=by rw[vi,if_neg (by omega)]at s1;exact s1
       have w2:vk r=[]:=by rw[vk,if_neg (by omega)]at wn;exact wn
       rw[i0]
       have eS:vi 0 (c0::c1::r)=[0]:=by rw[vi,if_pos q,s1];rfl
       have eW:vk (c0::c1::r)=[c0]:=by rw[vk,if_pos q,wn]
       rw[eS,eW]
       have e1:vi 0 (c0::1::r)=[0,1]:=by rw[vi,if_pos q,vi,if_pos (by omega),s2];rfl
       have e2:vk (c0::1::r)=[c0,1]:=by rw[vk,if_pos q,vk,if_pos (by omega),w2]
       exact⟨e1,e2⟩
     · have z0:c0=0:=by omega
       have i0:yY (c0::c1::r)=0:=by rw[yY,if_pos z0]
       rw[i0]
       have eS:vi 0 (c0::c1::r)=vi 1 (c1::r):=by rw[vi,if_neg q]
       have eW:vk (c0::c1::r)=vk (c1::r):=by rw[vk,if_neg q]
       rw[eS,eW]
       rw[eW]at c
       have cS:(vi 1 (c1::r)).length=1:=by rw[vJ];exact c
       obtain⟨s,es⟩:=List.length_eq_one_iff.1 cS
       obtain⟨w,ew⟩:=List.length_eq_one_iff.1 c
       have sr:=wS 1 (c1::r) s (by rw[es];simp)
       have e1:vi 0 (1::c1::r)=0::vi 1 (c1::r):=by rw[vi,if_pos (by omega)];rfl
       have e2:vk (1::c1::r)=1::vk (c1::r):=by rw[vk,if_pos (by omega)]
       have e3:(c0::c1::r).set 0 1=1::c1::r:=rfl
       rw[e3,e1,e2,es,ew]
       have g:[s].getD 0 0=s:=rfl
       rw[g,if_pos (by omega),if_pos (by omega)]
       exact⟨rfl,rfl⟩
 · rw[if_neg c,if_neg c,if_neg c];exact⟨rfl,rfl⟩
theorem B9:∀(i:Nat) (C:List Int),(∀y∈C,0≤y)→vi i (we C)=vi i C∧vk (we C)=we (vk C)
 |i,[],_=>⟨rfl,rfl⟩
 | i, c :: r, h => by
   have hc:=h c (by simp)
   obtain⟨a,b⟩:=B9 (i+1) r fun y hy=>h y (by simp [hy])
   show vi i (yw c::we r)=_∧vk (yw c::we r)=_
   rw[vi,vi,vk,vk,a,b]
   have e:0<yw c↔0<c:=by unfold yw;omega
   by_cases q:0<c
   · rw[if_pos (e.2 q),if_pos (e.2 q),if_pos q,if_pos q];exact⟨rfl,rfl⟩
   · rw[if_neg (fun z=>q (e.1 z)),if_neg (fun z=>q (e.1 z)),if_neg q,if_neg q];exact⟨rfl,rfl⟩
theorem Av : ∀ (i : Nat) (C : List Int) (j k : Nat), j < k → k < (vi i C).length → (vi i C).getD j 0 < (vi i C).getD k 0
 |i,[],j,k,h,hk=>by simp [vi]at hk
 | i, c :: r, j, k, h, hk => by
   rw[vi]at hk ⊢
   split
   · rename_i q
     rw[if_pos q]at hk
     obtain⟨k,rfl⟩:∃m,k=m+1:=⟨k-1,by omega⟩
     simp only[RX]at hk
     cases j with
     | zero =>
       have hm:(vi (i+1) r).getD k 0∈vi (i+1) r:=by rw[RW,RY (by omega)];exact Sd _
       have:=wS (i+1) r _ hm
       show(i:Int)<(vi (i+1) r).getD k 0
       omega
     |succ j=>exact Av (i+1) r j k (by omega) (by omega)
   · rename_i q
     rw[if_neg q]at hk
     exact Av (i+1) r j k h hk
theorem Es (C:List Int):Az (vk C).length C.length (vi 0 C):=
 ⟨vJ 0 C,fun s hs=>by have:=wS 0 C s hs;omega,fun i j h1 h2=>Av 0 C i j h1 (by rw[vJ];exact h2),BH C 0⟩
theorem Dh {S D:List Int} {n:Nat} (hl:D.length=S.length) (nd:(S.map Int.toNat).Nodup) (hr:∀s∈S,s.toNat<n) {m:Int} (hm:0≤m):(∀y∈vN S D (List.replicate n 0),y≤m)↔Ah D 0≤m:=by
 constructor
 · intro h
   refine AZ D 0 m (fun d hd=> ?_) hm
   obtain⟨j,hj,ej⟩:=Sw.1 hd
   have h1:S[j]?=some (S[j]'(by omega)):=RY (by omega)
   have h2:D[j]?=some d:=by rw[RY hj,ej]
   exact h d (uL (xI S D (List.replicate n 0) j _ d nd h1 h2 (by simpa using hr _ (Sd _))))
 · intro h y hy
   obtain⟨p,hp,ep⟩:=Sw.1 hy
   have e:(vN S D (List.replicate n 0))[p]?=some y:=by rw[RY hp,ep]
   by_cases c:∃s∈S,s.toNat=p
   · obtain⟨s,hs,rfl⟩:=c
     obtain⟨j,hj,ej⟩:=Sw.1 hs
     have h1:S[j]?=some s:=by rw[RY hj,ej]
     have h2:D[j]?=some (D[j]'(by omega)):=RY (by omega)
     rw[xI S D _ j s _ nd h1 h2 (by simpa using hr s hs)]at e
     have e:=uv e
     have:=(Cm D 0).2 _ (Sd (show j<D.length by omega))
     omega
   · have c':∀s∈S,s.toNat≠p:=fun s hs q=>c ⟨s,hs,q⟩
     rw[wK _ _ _ _ c',Sl]at e
     split at e
     · obtain rfl:=uv e;exact hm
     · cases e
def wy (l:List Nat):List AV:=l.map fun t=>AV.aC t 0
theorem xM (l:List Nat):(wy l).length=l.length:=by simp [wy]
theorem zC {l:List Nat} {J:List AV} {i:Nat} (h:i<l.length):(wy l++J)[i]?=some (.aC (l.getD i 0) 0):=by
 rw[R7 (by rw[xM];exact h),wy,uQ,RW,RY h];rfl
theorem zk {l:List Nat} {i:Nat} (h:i<l.length):l.getD i 0∈l:=by
 rw[RW,RY h];exact Sd h
structure Hz (h:H) (a id:Nat) (l:List Nat) (J:List AV) (rc:Nat→Tz):Prop where
 ga:h.get a=some [.aD id 0 l.length 1]
 gi:h.get id=some (wy l++J)
 fa:h.floor≤a
 fi:h.floor≤id
 ne:a≠id
 tr:∀t∈l,t≠a∧t≠id∧(0≤(rc t).m∧(rc t).m<1000000)∧∃sv,h.get t=some [.int .i64 (rc t).w,.int .i64 (rc t).m,sv]
 lb:l.length<100000
theorem Hz.set {h:H} {a id:Nat} {l l':List Nat} {J:List AV} {rc:Nat→Tz} (z:Hz h a id l J rc) (p:l'.Perm l):Hz (h.set id (wy l'++J)) a id l' J rc where
 ga:=by rw[u9 z.ne,z.ga,p.length_eq]
 gi:=by rw[vA rfl,z.gi];rfl
 fa:=by simpa using z.fa
 fi:=by simpa using z.fi
 ne:=z.ne
 tr t ht:=by
  obtain⟨a1,a2,a3,sv,a4⟩:=z.tr t (p.mem_iff.1 ht)
  exact⟨a1,a2,a3,sv,by rw[u9 a2];exact a4⟩
 lb:=by rw[p.length_eq];exact z.lb
theorem CM (h:H) (id n:Nat):aQ AP.A 363 [.aD id 0 n 1] h=some (.int .i64 n,h):=by
 refine tq (fn:=AP.f363) (e:=[(2,.int .i64 n)]) (vs:=[.int .i64 n]) rfl rfl rfl (by simp (disch:=omega)only[go_sem,vz,AP.f363,ze]) rfl
theorem Ol {h:H} {a id:Nat} {l:List Nat} {J:List AV} {rc:Nat→Tz} (z:Hz h a id l J rc) {i j:Nat} (hi:i<l.length) (hj:j<l.length):
 aQ AP.A 368 [.aD id 0 l.length 1,.int .i64 i,.int .i64 j] h=some (.bool (decide (wW rc (l.getD i 0)<wW rc (l.getD j 0))),h):=by
 obtain⟨_,_,mi,si,gi⟩:=z.tr _ (zk hi)
 obtain⟨_,_,mj,sj,gj⟩:=z.tr _ (zk hj)
 have pi:=zC (J:=J) hi
 have pj:=zC (J:=J) hj
 have gid:=z.gi
 unfold wW
 generalize wy l++J=P at *
 generalize l.getD i 0=ti at *
 generalize l.getD j 0=tj at *
 generalize (rc ti).w=wi at *
 generalize (rc ti).m=mmi at *
 generalize (rc tj).w=wj at *
 generalize (rc tj).m=mmj at *
 generalize l.length=n at *
 clear z
 have i1:fI 1 (.aD id 0 n 1) (.int .i64 i)=some (.aC id i):=by
  simp [fI,cM,ny,hi]
 have j1:fI 1 (.aD id 0 n 1) (.int .i64 j)=some (.aC id j):=by
  simp [fI,cM,ny,hj]
 by_cases c:wi=wj
 · have e:decide (wi* 1000000+mmi<wj* 1000000+mmj)=decide (mmi<mmj):=decide_eq_decide.2 (by omega)
   rw[e]
   have cb:(wi !=wj)=false:=by simp [c]
   refine tq (fn:=AP.f368) (e:=[(6,.bool (decide (mmi<mmj)))]) (vs:=[.bool (decide (mmi<mmj))]) rfl rfl rfl ?_ rfl
   simp (disch:=omega)only[go_sem,vz,AP.f368,i1,j1,gid,pi,pj,gi,gj,cb]
 · have e:decide (wi* 1000000+mmi<wj* 1000000+mmj)=decide (wi<wj):=decide_eq_decide.2 (by omega)
   rw[e]
   have cb:(wi !=wj)=true:=by simp [c]
   refine tq (fn:=AP.f368) (e:=[(6,.bool (decide (wi<wj)))]) (vs:=[.bool (decide (wi<wj))]) rfl rfl rfl ?_ rfl
   simp (disch:=omega)only[go_sem,vz,AP.f368,i1,j1,gid,pi,pj,gi,gj,cb]
theorem Ke {l:List Nat} {J:List AV} {i j:Nat} (hi:i<l.length) (hj:j<l.length):((wy l++J).set i (.aC (l.getD j 0) 0)).set j (.aC (l.getD i 0) 0)=wy (Be l i j)++J:=by
 rw[List.set_append_left _ _ (by rw[xM];exact hi),List.set_append_left _ _ (by rw[Sj,xM];exact hj)]
 unfold wy Be
 rw[List.map_set,List.map_set]
theorem OC {h:H} {a id:Nat} {l:List Nat} {J:List AV} {rc:Nat→Tz} (z:Hz h a id l J rc) {i j:Nat} (hi:i<l.length) (hj:j<l.length):
 aQ AP.A 369 [.aD id 0 l.length 1,.int .i64 i,.int .i64 j] h=some (.bO [],h.set id (wy (Be l i j)++J)):=by
 have pi:=zC (J:=J) hi
 have pj:=zC (J:=J) hj
 have gid:=z.gi
 have fi:=z.fi
 have e:=Ke (J:=J) hi hj
 have pl:l.length≤(wy l++J).length:=by rw[u4,xM];omega
 rw[←e]
 generalize wy l++J=P at *
 generalize l.getD i 0=ti at *
 generalize l.getD j 0=tj at *
 generalize l.length=n at *
 clear z e
 have i1:fI 1 (.aD id 0 n 1) (.int .i64 i)=some (.aC id i):=by
  simp [fI,cM,ny,hi]
 have j1:fI 1 (.aD id 0 n 1) (.int .i64 j)=some (.aC id j):=by
  simp [fI,cM,ny,hj]
 have e2:(h.set id (P.set i (.aC tj 0))).set id ((P.set i (.aC tj 0)).set j (.aC ti 0))=h.set id ((P.set i (.aC tj 0)).set j (.aC ti 0)):=H.set_set _ _ _ _
 rw[←e2]
 have g2:(h.set id (P.set i (.aC tj 0))).get id=some (P.set i (.aC tj 0)):=by rw[vA rfl,gid];rfl
 refine vW (fn:=AP.f369) (e:=[]) (vs:=[]) rfl rfl rfl ?_ rfl
 simp (disch:=omega)only[go_sem,vz,AP.f369,i1,j1,gid,pi,pj,g2]
theorem Hk {h:H} {a id:Nat} {l:List Nat} {J:List AV} {rc:Nat→Tz} (z:Hz h a id l J rc) {i j:Nat} {x y:Int} (hx:x=i) (hy:y=j) (hi:i<l.length) (hj:j<l.length):
 aQ AP.A 368 [.aD id 0 l.length 1,.int .i64 x,.int .i64 y] h=some (.bool (decide (wW rc (l.getD i 0)<wW rc (l.getD j 0))),h):=by subst hx;subst hy;exact Ol z hi hj
theorem Hx {h:H} {a id:Nat} {l:List Nat} {J:List AV} {rc:Nat→Tz} (z:Hz h a id l J rc) {i j:Nat} {x y:Int} (hx:x=i) (hy:y=j) (hi:i<l.length) (hj:j<l.length):
 aQ AP.A 369 [.aD id 0 l.length 1,.int .i64 x,.int .i64 y] h=some (.bO [],h.set id (wy (Be l i j)++J)):=by subst hx;subst hy;exact OC z hi hj
abbrev Bq (a:Nat):AV:=.iface 1 (.aC a 0)
theorem DR {h:H} {a n i:Nat} {i0:Int} (hn:n<100000) (hi:n≤2* i+1) (hi2:i<100000):
 aK (aQ AP.A) bu AP.f366L0 [(0,Bq a),(1,.int .i64 i0),(2,.int .i64 n),(7,.int .i64 i)] h=some (.exit 0,[(0,Bq a),(1,.int .i64 i0),(2,.int .i64 n),(7,.int .i64 i),(8,.int .i64 (2* (i:Int)+1)),(21,.bool true)],h):=by
 have c:(n:Int)≤2* (i:Int)+1:=by omega
 simp (disch:=omega)only[go_sem,vz,AP.f366L0,c]
theorem Hb {h : H} {a id : Nat} {l : List Nat} {J : List AV} {rc : Nat → Tz} (z : Hz h a id l J rc) {n i : Nat} {i0 : Int} (hn : n ≤ l.length) (hi : 2 * i + 1 < n) :
 (wW rc (l.getD (Dz (wW rc) n i l) 0)<wW rc (l.getD i 0)→aK (aQ AP.A) bu AP.f366L0 [(0,Bq a),(1,.int .i64 i0),(2,.int .i64 n),(7,.int .i64 i)] h=some (.normal,[(0,Bq a),(1,.int .i64 i0),(2,.int .i64 n),(7,.int .i64 (Dz (wW rc) n i l:Nat))],h.set id (wy (Be l i (Dz (wW rc) n i l))++J)))∧
 (¬wW rc (l.getD (Dz (wW rc) n i l) 0)<wW rc (l.getD i 0)→aK (aQ AP.A) bu AP.f366L0 [(0,Bq a),(1,.int .i64 i0),(2,.int .i64 n),(7,.int .i64 i)] h=some (.exit 0,[(0,Bq a),(1,.int .i64 i0),(2,.int .i64 n),(7,.int .i64 i),(9,.int .i64 (Dz (wW rc) n i l:Nat)),(39,.bool true)],h)):=by
 obtain⟨kr,kn⟩:=Ck (ky:=wW rc) (n:=n) (i:=i) (l:=l) hi
 have lb:=z.lb
 have c0:¬(n:Int)≤2* (i:Int)+1:=by omega
 have ga:=z.ga
 have key:∀x:Int,x=(Dz (wW rc) n i l:Nat)→x<1000000→(2* (i:Int)+1+1<n→aQ AP.A 368 [.aD id 0 l.length 1,.int .i64 (2* (i:Int)+1+1),.int .i64 (2* (i:Int)+1)] h=some (.bool (decide (x=2* (i:Int)+1+1)),h))∧(¬2* (i:Int)+1+1<n→x=2* (i:Int)+1)∧(x=2* (i:Int)+1∨x=2* (i:Int)+1+1):=by
  intro x hx hx2
  refine⟨fun c=> ?_,fun c=>by omega,by omega⟩
  rw[Hk z (i:=2* i+2) (j:=2* i+1) (by omega) (by omega) (by omega) (by omega)]
  congr 3
  have:Dz (wW rc) n i l=2* i+2↔wW rc (l.getD (2* i+2) 0)<wW rc (l.getD (2* i+1) 0):=by
   unfold Dz
   by_cases q:wW rc (l.getD (2* i+2) 0)<wW rc (l.getD (2* i+1) 0)
   · rw[if_pos ⟨by omega,q⟩];exact⟨fun _=>q,fun _=>rfl⟩
   · rw[if_neg (fun z=>q z.2)];exact⟨fun z=>by omega,fun z=>absurd z q⟩
  exact decide_eq_decide.2 (by rw[←this];omega)
 generalize hk:Dz (wW rc) n i l=k at *
 obtain⟨k1,k2,k3⟩:=key k rfl (by omega)
 have lk:=Hk z (x:=k) (y:=i) rfl rfl (by omega) (by omega)
 have sk:=Hx z (x:=i) (y:=k) rfl rfl (by omega) (by omega)
 constructor
 · intro c
   rw[R2 c]at lk
   by_cases c1:2* (i:Int)+1+1<n
   · have k1':=k1 c1
     rcases k3 with e|e
     · have e2:decide ((k:Int)=2* (i:Int)+1+1)=false:=R0 (by omega)
       rw[e2]at k1'
       rw[e]at lk sk ⊢
       clear z key k1 k2
       simp (disch:=omega)only[go_sem,vz,AP.f366L0,c0,c1,ga,k1',lk,sk]
     · have e2:decide ((k:Int)=2* (i:Int)+1+1)=true:=R2 (by omega)
       rw[e2]at k1'
       rw[e]at lk sk ⊢
       clear z key k1 k2
       simp (disch:=omega)only[go_sem,vz,AP.f366L0,c0,c1,ga,k1',lk,sk]
   · rw[k2 c1]at lk sk ⊢
     clear z key k1 k2
     simp (disch:=omega)only[go_sem,vz,AP.f366L0,c0,c1,ga,lk,sk]
 · intro c
   rw[R0 c]at lk
   by_cases c1:2* (i:Int)+1+1<n
   · have k1':=k1 c1
     rcases k3 with e|e
     · have e2:decide ((k:Int)=2* (i:Int)+1+1)=false:=R0 (by omega)
       rw[e2]at k1'
       rw[e]at lk ⊢
       clear z key k1 k2 sk
       simp (disch:=omega)only[go_sem,vz,AP.f366L0,c0,c1,ga,k1',lk]
     · have e2:decide ((k:Int)=2* (i:Int)+1+1)=true:=R2 (by omega)
       rw[e2]at k1'
       rw[e]at lk ⊢
       clear z key k1 k2 sk
       simp (disch:=omega)only[go_sem,vz,AP.f366L0,c0,c1,ga,k1',lk]
   · rw[k2 c1]at lk ⊢
     clear z key k1 k2 sk
     simp (disch:=omega)only[go_sem,vz,AP.f366L0,c0,c1,ga,lk]
theorem DS {a id : Nat} {J : List AV} {rc : Nat → Tz} {n : Nat} {i0 : Int} : ∀ (f i : Nat) (l : List Nat) (h : H), Hz h a id l J rc → n ≤ l.length → n ≤ i + f → i < 100000 →
 ∃e' k,Lp AP.A [0,1,2,7] AP.f366L0 [(0,Bq a),(1,.int .i64 i0),(2,.int .i64 n),(7,.int .i64 i)] h=some (.exit 0,e',h.set id (wy (sink (wW rc) n f i l)++J))∧look e' 1=.int .i64 i0∧look e' 7=.int .i64 k
 | 0, i, l, h, z, hn, hf, hi => by
   rw[sink,H.js z.gi]
   exact⟨_,i,sV (DR (by have:=z.lb;omega) (by omega) hi),rfl,rfl⟩
 | f + 1, i, l, h, z, hn, hf, hi => by
   have lb:=z.lb
   rw[sink]
   by_cases c0:n≤2* i+1
   · rw[if_pos c0,H.js z.gi]
     exact⟨_,i,sV (DR (by omega) c0 hi),rfl,rfl⟩
   · rw[if_neg c0]
     obtain⟨r1,r2⟩:=Hb z (i0:=i0) hn (show 2* i+1<n by omega)
     obtain⟨kr,kn⟩:=Ck (ky:=wW rc) (n:=n) (i:=i) (l:=l) (by omega)
     by_cases c1:wW rc (l.getD (Dz (wW rc) n i l) 0)<wW rc (l.getD i 0)
     · rw[if_pos c1]
       have r1:=r1 c1
       generalize Dz (wW rc) n i l=k at *
       have zs:=z.set (yN (l:=l) (i:=i) (j:=k) (by omega) (by omega))
       obtain⟨e',m,k1,k2,k3⟩:=DS f k _ _ zs (by rw[xX];exact hn) (by omega) (by omega)
       rw[H.set_set]at k1
       exact⟨e',m,sW r1 k1,k2,k3⟩
     · rw[if_neg c1,H.js z.gi]
       exact⟨_,i,sV (r2 c1),rfl,rfl⟩
theorem JE {h:H} {a id:Nat} {l:List Nat} {J:List AV} {rc:Nat→Tz} (z:Hz h a id l J rc) {n i:Nat} (hn:n≤l.length) (hi:i<100000):
 ∃b,aQ AP.A 366 [Bq a,.int .i64 i,.int .i64 n] h=some (.bool b,h.set id (wy (sink (wW rc) n n i l)++J)):=by
 obtain⟨e',k,L,e1,e7⟩:=DS (i0:=i) n i l h z hn (by omega) hi
 refine⟨decide ((i:Int)<k),tq (fn:=AP.f366) (e:=[(6,.bool (decide ((i:Int)<k)))]) (vs:=[.bool (decide ((i:Int)<k))]) rfl rfl rfl ?_ rfl⟩
 simp (disch:=omega)only[go_sem,vz,AP.f366,rR,L,qS,ry,e1,e7]
theorem DZ {a id:Nat} {J:List AV} {rc:Nat→Tz} {n:Nat}:∀(i:Nat) (l:List Nat) (h:H),Hz h a id l J rc→l.length=n→i<100000→
 ∃e',Lp AP.A [0,2,3] AP.f362L0 [(0,Bq a),(2,.int .i64 n),(3,.int .i64 ((i:Int)-1))] h=some (.exit 0,e',h.set id (wy (zm (ky:=wW rc) n i l)++J))
 | 0, l, h, z, hn, hi => by
   rw[zm,H.js z.gi]
   refine⟨[(0,Bq a),(2,.int .i64 n),(3,.int .i64 (-1)),(10,.bool false)],sV ?_⟩
   have c:¬(0:Int)≤-1:=by omega
   show aK (aQ AP.A) bu AP.f362L0 [(0,Bq a),(2,.int .i64 n),(3,.int .i64 (-1))] h=_
   simp (disch:=omega)only[go_sem,vz,AP.f362L0,c]
 | i + 1, l, h, z, hn, hi => by
   have lb:=z.lb
   obtain⟨b,k⟩:=JE z (n:=n) (i:=i) (by omega) (by omega)
   have e0:((i+1:Nat):Int)-1=(i:Int):=by omega
   have c:(0:Int)≤(i:Int):=by omega
   have zs:=z.set (l':=sink (wW rc) n n i l) (Ep (by omega))
   obtain⟨e',L⟩:=DZ (n:=n) i _ _ zs (by rw[Bb];exact hn) (by omega)
   rw[H.set_set]at L
   refine⟨e',sW (e':=[(0,Bq a),(2,.int .i64 n),(3,.int .i64 ((i:Int)-1))]) ?_ (by rw[zm];exact L)⟩
   rw[e0]
   simp (disch:=omega)only[go_sem,vz,AP.f362L0,c,k]
theorem Hf {n:Nat} (h:n<100000):bn .quo (.int .i64 (n:Int)) (.int .i64 2)=some (.int .i64 ((n/2:Nat):Int)):=by
 have e:=rH (k:=.i64) (a:=(n:Int)) (b:=2) (by omega)
 have:Int.tdiv (n:Int) 2=((n/2:Nat):Int):=yO n 2
 rw[e,this,wi (by omega)]
theorem Lh {h:H} {a id:Nat} {l:List Nat} {J:List AV} {rc:Nat→Tz} (z:Hz h a id l J rc):
 aQ AP.A 362 [Bq a] h=some (.bO [],h.set id (wy (zm (ky:=wW rc) l.length (l.length/2) l)++J)):=by
 have lb:=z.lb
 have ga:=z.ga
 have k:∀g:H,aQ AP.A 363 [.aD id 0 l.length 1] g=_:=fun g=>CM g id l.length
 obtain⟨e',L⟩:=DZ (n:=l.length) (l.length/2) l h z rfl (by omega)
 have q:=Hf lb
 refine vW (fn:=AP.f362) (e:=[]) (vs:=[]) rfl rfl rfl ?_ rfl
 generalize wy (zm (ky:=wW rc) l.length (l.length/2) l)=P at *
 generalize l.length=n at *
 clear z
 simp (disch:=omega)only[go_sem,vz,AP.f362,ga,k,q,rR,L]
theorem Qj {h:H} {a id:Nat} {l:List Nat} {t:Nat} {J:List AV} {rc:Nat→Tz} (z:Hz h a id (l++[t]) J rc):
 aQ AP.A 370 [.aC a 0] h=some (.iface 2 (.aC t 0),h.set a [.aD id 0 l.length 1])∧Hz (h.set a [.aD id 0 l.length 1]) a id l (.aC t 0::J) rc:=by
 have lb:=z.lb
 have ga:=z.ga
 have gi:=z.gi
 have fa:=z.fa
 have pt:=zC (J:=J) (show l.length<(l++[t]).length by simp)
 have gt:(l++[t]).getD l.length 0=t:=by simp
 rw[gt]at pt
 have eP:wy (l++[t])++J=wy l++(.aC t 0::J):=by simp [wy]
 constructor
 · have lP:l.length+1≤(wy (l++[t])++J).length:=by rw[u4,xM];simp
   rw[u4,Su]at lb ga
   generalize wy (l++[t])++J=P at *
   generalize l.length=n at *
   clear z eP gt
   have i1:fI 1 (.aD id 0 (n+1) 1) (.int .i64 n)=some (.aC id n):=by simp [fI,cM,ny,show(n:Int)<(n:Int)+1 by omega]
   have s1:rM h 1 (.aD id 0 (n+1) 1) none (some (.int .i64 n)) none=some (.aD id 0 n 1):=by
    have:=LZ (m:=n) (p:=id) (o:=0) (k:=n+1) gi (n:=1) (by omega) (by omega) ⟨by omega,by simp;omega⟩
    rw[show((n:Int)).toNat=n by omega]at this
    exact this
   have n1:((n+1:Nat):Int)-1=n:=by omega
   refine tq (fn:=AP.f370) (e:=[(2,.iface 2 (.aC t 0))]) (vs:=[.iface 2 (.aC t 0)]) rfl rfl rfl ?_ rfl
   simp (disch:=omega)only[go_sem,vz,AP.f370,ga,ze,n1,i1,gi,pt,s1]
 · refine⟨by rw[vA rfl,ga];rfl,by rw[u9 (fun q=>z.ne q.symm),gi,eP],by simpa using fa,by simpa using z.fi,z.ne,fun x hx=> ?_,by simp at lb;omega⟩
   obtain⟨a1,a2,a3,sv,a4⟩:=z.tr x (by simp [hx])
   exact⟨a1,a2,a3,sv,by rw[u9 a1];exact a4⟩
theorem JU {h:H} {a id:Nat} {l:List Nat} {J:List AV} {rc:Nat→Tz} (z:Hz h a id l J rc) (h1:1≤l.length) (ho:GX (wW rc) 0 l.length l):
 ∃t l' h',aQ AP.A 364 [Bq a] h=some (.iface 2 (.aC t 0),h')∧Hz h' a id l' (.aC t 0::J) rc∧l.Perm (t::l')∧GX (wW rc) 0 l'.length l'∧(∀x∈l',wW rc t≤wW rc x)∧h'.next=h.next∧h'.floor=h.floor∧∀i,i≠a→i≠id→h'.get i=h.get i:=by
 have lb:=z.lb
 have ga:=z.ga
 obtain⟨n,hn⟩:∃n,l.length=n+1:=⟨l.length-1,by omega⟩
 have k0:∀g:H,aQ AP.A 363 [.aD id 0 l.length 1] g=_:=fun g=>CM g id l.length
 have k1:=Hx z (i:=0) (j:=n) (x:=0) (y:=n) rfl rfl (by omega) (by omega)
 have p1:=yN (l:=l) (i:=0) (j:=n) (by omega) (by omega)
 have z1:=z.set p1
 have z1a:=z1.ga
 have g:∀k,(Be l 0 n).getD k 0=if k=n then l.getD 0 0 else if k=0 then l.getD n 0 else l.getD k 0:=fun k=>Fg (by omega) (by omega)
 have sl1:(Be l 0 n).length=n+1:=by rw[xX];exact hn
 obtain⟨b,k2⟩:=JE z1 (n:=n) (i:=0) (by omega) (by omega)
 obtain⟨s1,s2,s3⟩:=Fc (ky:=wW rc) (lo:=0) (n:=n) n 0 (Be l 0 n) (by omega) (by omega) (by omega) ⟨fun c h0 hc hp hne=>by
  rw[g,g,if_neg (by omega),if_neg hne,if_neg (by omega),if_neg (by omega)]
  exact ho c h0 (by omega) (by omega),fun c h0 hc hp h1 h2=>by omega⟩
 have z2:=z1.set s2
 have sl2:(sink (wW rc) n n 0 (Be l 0 n)).length=n+1:=by rw[Bb];exact sl1
 have e3:=s3 n (uH _)
 rw[g,if_pos rfl]at e3
 obtain⟨l',hl'⟩:∃l',l'=(sink (wW rc) n n 0 (Be l 0 n)).take n:=⟨_,rfl⟩
 have ll':l'.length=n:=by rw[hl',Sv,sl2];omega
 have eS:sink (wW rc) n n 0 (Be l 0 n)=l'++[l.getD 0 0]:=by
  rw[hl',←e3]
  have:=List.take_append_drop n (sink (wW rc) n n 0 (Be l 0 n))
  have e4:(sink (wW rc) n n 0 (Be l 0 n)).drop n=[(sink (wW rc) n n 0 (Be l 0 n)).getD n 0]:=by
   rw[List.drop_eq_getElem_cons (by omega),List.drop_eq_nil_of_le (by omega),RW,RY (by omega)];rfl
  rw[←e4,this]
 have gl:∀k,k<n→(l'++[l.getD 0 0]).getD k 0=l'.getD k 0:=fun k hk=>by
  rw[RW,R7 (by omega),←RW]
 rw[H.set_set]at k2 z2
 rw[eS]at s1 s2 z2 k2
 obtain⟨k3,z3⟩:=Qj z2
 have pm:l.Perm (l.getD 0 0::l'):=(s2.trans p1).symm.trans List.perm_append_comm
 refine⟨l.getD 0 0,l',_, ?_,z3,pm, ?_, ?_,by simp,by simp,fun i h1 h2=>by rw[u9 h1,u9 h2]⟩
 · rw[xX]at z1a
   have gS:((h.set id (wy (Be l 0 n)++J)).get a)=some [.aD id 0 l.length 1]:=by rw[z1a]
   have k2':aQ AP.A 366 [Bq a,.int .i64 0,.int .i64 n] (h.set id (wy (Be l 0 n)++J))=_:=k2
   have n1:(l.length:Int)-1=n:=by omega
   refine tq (fn:=AP.f364) (e:=[(2,.iface 2 (.aC (l.getD 0 0) 0))]) (vs:=[.iface 2 (.aC (l.getD 0 0) 0)]) rfl rfl rfl ?_ rfl
   generalize wy (Be l 0 n)++J=P1 at *
   generalize wy (l'++[l.getD 0 0])++J=P2 at *
   generalize l.getD 0 0=t at *
   generalize l'.length=m at *
   generalize l.length=N at *
   clear z z1 z2 z3 g s1 s2 s3 ho
   simp (disch:=omega)only[go_sem,vz,AP.f364,ga,k0,n1,k1,k2',k3]
 · intro c h0 hc hp
   have:=s1 c h0 (by omega) (by omega)
   rw[gl _ (by omega),gl _ (by omega)]at this
   exact this
 · intro x hx
   have:x∈l:=pm.mem_iff.2 (Sy _ hx)
   obtain⟨j,hj,ej⟩:=Sw.1 this
   have:=JT ho j hj
   rw[show l.getD j 0=x by rw[RW,RY hj,←ej];rfl]at this
   exact this
theorem HV:bn .quo (.int .i64 (-1)) (.int .i64 2)=some (.int .i64 0):=by
 have e:=rH (k:=.i64) (a:= -1) (b:=2) (by omega)
 rw[e];rfl
theorem LG {a id : Nat} {J : List AV} {rc : Nat → Tz} : ∀ (f j : Nat) (l : List Nat) (h : H), Hz h a id l J rc → j < l.length → j ≤ f →
 ∃e',Lp AP.A [0,1] AP.f367L0 [(0,Bq a),(1,.int .i64 j)] h=some (.exit 0,e',h.set id (wy (Df (wW rc) f j l)++J)):=by
 intro f
 induction f with
 | zero =>
   intro j l h z hj hf
   obtain rfl:j=0:=by omega
   rw[Df,H.js z.gi]
   refine⟨[(0,Bq a),(1,.int .i64 0),(4,.int .i64 0),(17,.bool true)],sV ?_⟩
   show aK (aQ AP.A) bu AP.f367L0 [(0,Bq a),(1,.int .i64 0)] h=_
   simp (disch:=omega)only[go_sem,vz,AP.f367L0,HV]
 | succ f ih =>
   intro j l h z hj hf
   have lb:=z.lb
   have ga:=z.ga
   rw[Df]
   by_cases c0:j=0
   · subst c0
     rw[if_pos rfl,H.js z.gi]
     refine⟨[(0,Bq a),(1,.int .i64 0),(4,.int .i64 0),(17,.bool true)],sV ?_⟩
     show aK (aQ AP.A) bu AP.f367L0 [(0,Bq a),(1,.int .i64 0)] h=_
     simp (disch:=omega)only[go_sem,vz,AP.f367L0,HV]
   · rw[if_neg c0]
     obtain⟨p,hp⟩:∃p,p=(j-1)/2:=⟨_,rfl⟩
     have n1:(j:Int)-1=((j-1:Nat):Int):=by omega
     have q:=Hf (n:=j-1) (by omega)
     rw[←hp]at q ⊢
     have ls:=Hk z (x:=j) (y:=p) rfl rfl (by omega) (by omega)
     have sw:=Hx z (x:=p) (y:=j) rfl rfl (by omega) (by omega)
     have cb:((p:Int)==(j:Int))=false:=by simp;omega
     by_cases c1:wW rc (l.getD j 0)<wW rc (l.getD p 0)
     · rw[if_pos c1]
       rw[R2 c1]at ls
       have zs:=z.set (yN (l:=l) (i:=p) (j:=j) (by omega) (by omega))
       obtain⟨e',L⟩:=ih p _ _ zs (by rw[xX];omega) (by omega)
       rw[H.set_set]at L
       refine⟨e',sW (e':=[(0,Bq a),(1,.int .i64 p)]) ?_ L⟩
       clear z zs ih
       simp (disch:=omega)only[go_sem,vz,AP.f367L0,n1,q,ga,ls,sw,cb]
     · rw[if_neg c1,H.js z.gi]
       rw[R0 c1]at ls
       refine⟨[(0,Bq a),(1,.int .i64 j),(4,.int .i64 p),(17,.bool true)],sV ?_⟩
       clear z ih
       simp (disch:=omega)only[go_sem,vz,AP.f367L0,n1,q,ga,ls,cb]
theorem QL {h:H} {a id:Nat} {l:List Nat} {J:List AV} {rc:Nat→Tz} (z:Hz h a id l J rc) {j:Nat} (hj:j<l.length):
 aQ AP.A 367 [Bq a,.int .i64 j] h=some (.bO [],h.set id (wy (Df (wW rc) j j l)++J)):=by
 obtain⟨e',L⟩:=LG j j l h z hj (uH _)
 refine vW (fn:=AP.f367) (e:=[]) (vs:=[]) rfl rfl rfl ?_ rfl
 simp (disch:=omega)only[go_sem,vz,AP.f367,rR,L]
theorem Lj {h:H} {a id:Nat} {l:List Nat} {c:AV} {J:List AV} {rc:Nat→Tz} (z:Hz h a id l (c::J) rc) (ho:GX (wW rc) 0 l.length l) {t:Nat} {sv:AV} (ht:t≠a∧t≠id) (hm:0≤(rc t).m∧(rc t).m<1000000) (gt:h.get t=some [.int .i64 (rc t).w,.int .i64 (rc t).m,sv]) (hlb:l.length+1<100000) (hfl:h.floor≤h.next):
 ∃l' h',aQ AP.A 365 [Bq a,.iface 2 (.aC t 0)] h=some (.bO [],h')∧Hz h' a id l' J rc∧l'.Perm (t::l)∧GX (wW rc) 0 l'.length l'∧h'.next=h.next+1∧h'.floor=h.floor∧∀i,i<h.next→i≠a→i≠id→h'.get i=h.get i:=by
 have lb:=z.lb
 have ga:=z.ga
 have gi:=z.gi
 have fa:=z.fa
 have fi:=z.fi
 have ne:=z.ne
 have la:=h.lt _ _ ga
 have li:=h.lt _ _ gi
 have lt:=h.lt _ _ gt
 have eP:(wy l++c::J).set l.length (.aC t 0)=wy (l++[t])++J:=by
  rw[List.set_append_right _ _ (by rw[xM];exact uH _),xM,Nat.sub_self];simp [wy]
 have lP:l.length+1≤(wy l++c::J).length:=by rw[u4,xM];simp
 obtain⟨h1,eh1⟩:∃g,g=((h.alloc [.aC t 0]).set id (wy (l++[t])++J)).set a [.aD id 0 (l.length+1) 1]:=⟨_,rfl⟩
 have k1:aQ AP.A 371 [.aC a 0,.iface 2 (.aC t 0)] h=some (.bO [],h1):=by
  rw[eh1,←eP]
  refine vW (fn:=AP.f371) (e:=[]) (vs:=[]) rfl rfl rfl ?_ rfl
  have gi1:(h.alloc [.aC t 0]).get id=some (wy l++c::J):=by rw[vn (by omega),gi]
  generalize wy l++c::J=P at *
  generalize l.length=n at *
  clear z ho eP eh1
  simp (disch:=first|omega|(simp only[wO,RX,RZ,uM,Nat.reduceAdd];first|done|omega|fail)|(simp (disch:=first|omega|(simp only[wO,RX,RZ,uM,Nat.reduceAdd];first|done|omega|fail)|fail)only[wO,Cf,R1,RX,RZ,uM,Nat.reduceAdd];done)|fail)only[go_sem,vz,Ce,AP.f371,ga,gi,lP]
 have z1:Hz h1 a id (l++[t]) J rc:=by
  rw[eh1]
  refine⟨by rw[vA rfl,u9 ne,vn (by omega),ga];simp,by rw[u9 (Ne.symm ne),vA rfl,vn (by omega),gi];rfl,by simpa using fa,by simpa using fi,ne,fun x hx=> ?_,by simp;omega⟩
  rcases Sn.1 hx with q|q
  · obtain⟨a1,a2,a3,s,a4⟩:=z.tr x q
    have:=h.lt _ _ a4
    exact⟨a1,a2,a3,s,by rw[u9 a1,u9 a2,vn (by omega),a4]⟩
  · obtain rfl:=List.mem_singleton.1 q
    exact⟨ht.1,ht.2,hm,sv,by rw[u9 ht.1,u9 ht.2,vn (by omega),gt]⟩
 have k2:=CM h1 id (l.length+1)
 have k3:=QL z1 (j:=l.length) (by simp)
 obtain⟨r1,r2⟩:=Ig (ky:=wW rc) (n:=l.length+1) l.length l.length (l++[t]) (uH _) (by omega) (by simp) ⟨fun x h0 hx hne=>by
  have hl:x<l.length:=by omega
  have:=ho x h0 hl (by omega)
  rw[RW,RW,R7 (by omega),R7 hl,←RW,←RW]
  exact this,fun x h0 hx hp h1=>by omega⟩
 have z2:=z1.set r2
 have g1:=z1.ga
 rw[u4,Su]at g1
 refine⟨_,_, ?_,z2,r2.trans List.perm_append_comm,by rw[GA];simpa using r1,by rw[eh1];simp,by rw[eh1];simp,fun i hi h2 h3=>by rw[u9 h3,eh1,u9 h2,u9 h3,vn (by omega)]⟩
 refine vW (fn:=AP.f365) (e:=[]) (vs:=[]) rfl rfl rfl ?_ rfl
 have n1:((l.length+1:Nat):Int)-1=l.length:=by omega
 generalize wy (Df (wW rc) l.length l.length (l++[t]))++J=P2 at *
 generalize l.length=n at *
 clear z z1 z2 ho r1 r2 eP
 simp (disch:=omega)only[go_sem,vz,AP.f365,k1,g1,k2,n1,k3]
theorem Au:∀(p q:List Int) (i:Nat),vi i (p++q)=vi i p++vi (i+p.length) q
 |[],q,i=>by simp [vi]
 | c :: p, q, i => by
   rw[List.cons_append,vi,vi,Au p q (i+1),RX,show i+1+p.length=i+(p.length+1)by omega]
   split<;>rfl
theorem BL:∀(p q:List Int),vk (p++q)=vk p++vk q
 |[],q=>by simp [vk]
 | c :: p, q => by
   rw[List.cons_append,vk,vk,BL p q]
   split<;>rfl
structure Bt (hb h:H) (a o N:Nat) (p:List Int) (l:List Nat) (av:AV):Prop where
 ext:Ext hb h
 fl:h.floor=hb.next
 Ji:h.floor≤h.next
 ga:h.get a=some [av]
 fa:hb.next≤a
 go:h.get o=some (ints (List.replicate N 0))
 fo:hb.next≤o
 Qr:a≠o
 own:v8 1 h av l.length (wy l)
 nv:∀j,av.id?=some j→j≠a∧j≠o
 ll:l.length=(vk p).length
 nd:l.Nodup
 tr:∀i,i<l.length→∃sid,h.get (l.getD i 0)=some [.int .i64 ((vk p).getD i 0),.int .i64 ((vi 0 p).getD i 0),.aD sid 0 1 1]∧h.get sid=some [.int .i64 ((vi 0 p).getD i 0)]∧(l.getD i 0≠a∧l.getD i 0≠o∧av.id?≠some (l.getD i 0))∧(sid≠a∧sid≠o∧av.id?≠some sid)
theorem Bn {α:Type} {l m:List α} {i:Nat} {d:α} (h:i<l.length):(l++m).getD i d=l.getD i d:=by
 rw[RW,R7 h,←RW]
theorem Bm {α:Type} {l:List α} {x d:α}:(l++[x]).getD l.length d=x:=by
 rw[RW,R8 (uH _)];simp
theorem zZ {hb : H} {x : AV} {C : List Int} {a o : Nat} (hC : C.length < 1000) (rd : Rd hb x (ints C)) (pos : ∀ y ∈ C, 0 ≤ y) : ∀ (q p : List Int) (l : List Nat) (av : AV) (h : H), C = p ++ q → Bt hb h a o C.length p l av →
 ∃l' av' h',Lp AP.A [0,3,4,16,17,18] AP.f359L2 [(0,x),(3,.aD o 0 C.length 1),(4,.aC a 0),(16,x),(17,.int .i64 C.length),(18,.int .i64 p.length)] h=some (.exit 0,[(0,x),(3,.aD o 0 C.length 1),(4,.aC a 0),(16,x),(17,.int .i64 C.length),(18,.int .i64 C.length),(19,.bool false)],h')∧Bt hb h' a o C.length C l' av'
 | [], p, l, av, h, hp, b => by
   rw[Sf]at hp;subst hp
   refine⟨l,av,h,sV ?_,b⟩
   simp (disch:=omega)only[go_sem,vz,AP.f359L2]
 | y :: q, p, l, av, h, hp, b => by
   have hl:C.length=p.length+(q.length+1):=by rw[hp];simp
   obtain⟨ad,a1,a2⟩:=rd.xh
   have b1:=a1 p.length ⟨by omega,by omega⟩
   have hyC:C[p.length]?=some y:=by rw[hp];simp
   have b2:=a2 h b.ext p.length y hyC
   have yr:=pos y (uL hyC)
   have n2:(p++[y]).length=p.length+1:=by simp
   have c1:((p.length:Nat):Int)<C.length:=by omega
   by_cases c:0<y
   · have ga:=b.ga
     have la:=h.lt _ _ ga
     have lo:=h.lt _ _ b.go
     have fl:=b.fl
     have fa:=b.fa
     have fo:=b.fo
     obtain⟨g,eg⟩:∃g,g=(h.alloc [.int .i64 p.length]).alloc [.int .i64 y,.int .i64 p.length,.aD h.next 0 1 1]:=⟨_,rfl⟩
     have gl:∀i,i<h.next→g.get i=h.get i:=fun i hi=>by rw[eg,vn (by simp;omega),vn (by omega)]
     have gn:g.next=h.next+2:=by rw[eg];simp
     have gf:g.floor=h.floor:=by rw[eg];simp
     have owng:v8 1 g av l.length (wy l):=b.own.mono gf fun i hi=>gl i (b.own.lt hi).2
     have bfl:=b.Ji
     have ll:=b.ll
     have wl:(vk p).length≤p.length:=by rw[←vJ 0 p];exact wC 0 p
     obtain⟨v1,h1,p1,p2,p3,p4,p5,p6⟩:=owng.push (by omega) (z:=8) (m:=1) (by omega) (by omega) [.aC (h.next+1) 0] rfl rfl (zO (by omega))
     rw[gn]at p1 p4 p5 p6
     have avlt:∀j,av.id?=some j→j<h.next:=fun j hj=>(b.own.lt hj).2
     have hav:∀i,h.next≤i→av.id?≠some i:=fun i hi q=>by have:=avlt i q;omega
     have k1:∀i,i<h.next+2→av.id?≠some i→h1.get i=g.get i:=fun i hi hne=>p5 i hne hi
     have ga1:h1.get a=some [av]:=by rw[k1 a (by omega) (fun q=>(b.nv _ q).1 rfl),gl a la,ga]
     have gt1:h1.get (h.next+1)=some [.int .i64 y,.int .i64 p.length,.aD h.next 0 1 1]:=by
      rw[k1 _ (by omega) (hav _ (by omega)),eg,vp (by simp)]
     have gs1:h1.get h.next=some [.int .i64 p.length]:=by
      rw[k1 _ (by omega) (hav _ (by omega)),eg,vn (by simp),vp rfl]
     have S1:vi 0 (p++[y])=vi 0 p++[((p.length:Nat):Int)]:=by rw[Au,uM,vi,if_pos c];rfl
     have W1:vk (p++[y])=vk p++[y]:=by rw[BL,vk,if_pos c];rfl
     have sl:=vJ 0 p
     have vid:v1.id?=some (h.next+3):=p6
     have nb:Bt hb (h1.set a [v1]) a o C.length (p++[y]) (l++[h.next+1]) v1:=by
      refine⟨fun i d hi=> ?_,by simp;omega,by simp;omega,by rw[vA rfl,ga1];rfl,fa, ?_,fo,b.Qr, ?_,fun j hj=> ?_, ?_, ?_,fun i hi=> ?_⟩
      · have:=hb.lt _ _ hi
        have hi2:=b.ext i d hi
        have:=h.lt _ _ hi2
        rw[u9 (by omega),k1 i (by omega) (fun q=>by have:=(b.own.lt q).1;omega),gl i (by omega),hi2]
      · rw[u9 (Ne.symm b.Qr),k1 o (by omega) (fun q=>(b.nv _ q).2 rfl),gl o lo,b.go]
      · have:v8 1 (h1.set a [v1]) v1 (l.length+1) (wy l++[.aC (h.next+1) 0]):=p2.mono (by simp) fun j hj=>by
         rw[vid]at hj
         have:=uv hj
         rw[u9 (by omega)]
        simpa [wy]using this
      · rw[vid]at hj
        have:=uv hj
        exact⟨by omega,by omega⟩
      · rw[W1];simp [ll]
      · rw[List.nodup_append]
        refine⟨b.nd,by simp,fun u hu w hw=> ?_⟩
        obtain rfl:=List.mem_singleton.1 hw
        obtain⟨j,hj,ej⟩:=Sw.1 hu
        obtain⟨sid,t1,_⟩:=b.tr j hj
        rw[show l.getD j 0=u by rw[RW,RY hj,←ej];rfl]at t1
        have:=h.lt _ _ t1
        omega
      · rw[u4,Su]at hi
        by_cases e:i<l.length
        · obtain⟨sid,t1,t2,⟨t3,t4,t5⟩,t6,t7,t8⟩:=b.tr i e
          have l1:=h.lt _ _ t1
          have l2:=h.lt _ _ t2
          rw[Bn e,W1,S1,Bn (by omega),Bn (by omega)]
          refine⟨sid,by rw[u9 t3,k1 _ (by omega) t5,gl _ l1,t1],by rw[u9 t6,k1 _ (by omega) t8,gl _ l2,t2],⟨t3,t4,fun z=> ?_⟩,t6,t7,fun z=> ?_⟩
          · rw[vid]at z;have:=uv z;omega
          · rw[vid]at z;have:=uv z;omega
        · obtain rfl:i=l.length:=by omega
          rw[Bm,W1,S1]
          have e1:(vk p++[y]).getD l.length 0=y:=by rw[ll];exact Bm
          have e2:(vi 0 p++[((p.length:Nat):Int)]).getD l.length 0=p.length:=by rw[ll,←sl];exact Bm
          rw[e1,e2]
          refine⟨h.next,by rw[u9 (by omega),gt1],by rw[u9 (by omega),gs1],⟨by omega,by omega,fun z=> ?_⟩,by omega,by omega,fun z=> ?_⟩
          · rw[vid]at z;have:=uv z;omega
          · rw[vid]at z;have:=uv z;omega
     obtain⟨l',av',h',L,nb'⟩:=zZ hC rd pos q (p++[y]) _ _ _ (by rw[hp];simp) nb
     refine⟨l',av',h',sW ?_ L,nb'⟩
     have hfa:h1.floor≤a:=by omega
     have e3:(((p++[y]).length:Nat):Int)=(p.length:Int)+1:=by simp
     rw[e3]
     have vs:v1.sc=true:=p2.sc
     have vc:v1.cells=[v1]:=p2.cells
     rw[eg]at p1
     clear nb nb' rd b owng p2 L k1 gl gn gf eg S1 W1 hyC
     simp (disch:=omega)only[go_sem,vz,AP.f359L2,c1,b1,b2,c,ga,vp,vn,p1,ga1,hfa,vs,vc]
   · have S1:vi 0 (p++[y])=vi 0 p:=by rw[Au,vi,if_neg c];simp [vi]
     have W1:vk (p++[y])=vk p:=by rw[BL,vk,if_neg c];simp [vk]
     have nb:Bt hb h a o C.length (p++[y]) l av:=⟨b.ext,b.fl,b.Ji,b.ga,b.fa,b.go,b.fo,b.Qr,b.own,b.nv,by rw[W1];exact b.ll,b.nd,fun i hi=>by rw[W1,S1];exact b.tr i hi⟩
     obtain⟨l',av',h',L,nb'⟩:=zZ hC rd pos q (p++[y]) _ _ _ (by rw[hp];simp) nb
     refine⟨l',av',h',sW ?_ L,nb'⟩
     have e3:(((p++[y]).length:Nat):Int)=(p.length:Int)+1:=by simp
     rw[e3]
     clear nb nb' rd b L S1 W1 hyC
     simp (disch:=omega)only[go_sem,vz,AP.f359L2,c1,b1,b2,c]
theorem Hz.congr {h:H} {a id:Nat} {l:List Nat} {J:List AV} {rc rc':Nat→Tz} (z:Hz h a id l J rc) (e:∀x∈l,rc' x=rc x):Hz h a id l J rc':=
 ⟨z.ga,z.gi,z.fa,z.fi,z.ne,fun t ht=>by rw[e t ht];exact z.tr t ht,z.lb⟩
theorem Hz.mono {h g:H} {a id:Nat} {l:List Nat} {J:List AV} {rc:Nat→Tz} (z:Hz h a id l J rc) (hf:g.floor=h.floor) (hg:∀i,(i=a∨i=id∨i∈l)→g.get i=h.get i):Hz g a id l J rc:=
 ⟨by rw[hg a (.inl rfl)];exact z.ga,by rw[hg id (.inr (.inl rfl))];exact z.gi,by rw[hf];exact z.fa,by rw[hf];exact z.fi,z.ne,fun t ht=>by rw[hg t (.inr (.inr ht))];exact z.tr t ht,z.lb⟩
theorem GX.congr {rc rc':Nat→Tz} {l:List Nat} (o:GX (wW rc) 0 l.length l) (e:∀x∈l,rc' x=rc x):GX (wW rc') 0 l.length l:=fun c h0 hc hp=>by
 have:=o c h0 hc hp
 have m1:=e _ (zk (l:=l) (i:=c) hc)
 have m2:=e _ (zk (l:=l) (i:=(c-1)/2) (by omega))
 unfold wW at this ⊢
 rw[m1,m2];exact this
theorem Rd.vR {h g:H} {v:AV} {cs:List AV} (r:Rd h v cs) (hg:∀j,v.id?=some j→g.get j=h.get j):Rd g v cs:=by
 refine⟨?_,r.2⟩
 have:=r.1
 cases v with
 | aD id off len s =>
   simp only[aR]at this ⊢
   rw[hg id rfl];exact this
 |_=>exact this
structure Mz (hb h:H) (a id o n N:Nat) (J:List AV) (l:List Nat) (rc:Nat→Tz) (O:List Int):Prop where
 z:Hz h a id l J rc
 ext:Ext hb h
 fl:h.floor=hb.next
 Ji:h.floor≤h.next
 la:hb.next≤a
 li:hb.next≤id
 lo:hb.next≤o
 go:h.get o=some (ints O)
 no:o≠a∧o≠id
 ol:O.length=N
 ob:∀y∈O,0≤y∧y≤((1000* (n-l.length):Nat):Int)
 tr:∀t∈l,t≠o∧∃sv,h.get t=some [.int .i64 (rc t).w,.int .i64 (rc t).m,sv]∧Rd h sv (ints (rc t).L)∧sv.sc=true∧sv.cells=[sv]∧∀j,sv.id?=some j→j≠a∧j≠id∧j≠o
 wb:∀t∈l,0≤(rc t).w∧(rc t).w<1000000000000000
theorem FZ:∀(L O:List Int) (B:Int),(∀y∈O,0≤y∧y≤B)→0≤B→∀y∈Br O L,0≤y∧y≤B+L.length
 |[],O,B,h,hB,y,hy=>by have:=h y hy;simp;exact this
 | s :: r, O, B, h, hB, y, hy => by
   rw[Br]at hy
   have:=FZ r _ (B+1) (yI h hB) (by omega) y hy
   rw[RX];omega
theorem FY {a o t N:Nat} {made:Int} {sv:AV} {L:List Int} (h0:H) (rd:Rd h0 sv (ints L)) (hL:L.length<100000) (hr:∀s∈L,0≤s∧s<N) (hN:N<100000):∀(q p:List Int) (O:List Int) (B:Int) (h:H),L=p++q→Ext h0 h→h0.get o=none→h.get o=some (ints O)→h.floor≤o→O.length=N→(∀y∈O,0≤y∧y≤B)→0≤B→B+q.length<1000000000→
 ∃h',Lp AP.A [3,4,7,10,75,76,77] AP.f359L0 [(3,.aD o 0 N 1),(4,.aC a 0),(7,.int .i64 made),(10,.aC t 0),(75,sv),(76,.int .i64 L.length),(77,.int .i64 p.length)] h=some (.exit 4,[(3,.aD o 0 N 1),(4,.aC a 0),(7,.int .i64 made),(10,.aC t 0),(75,sv),(76,.int .i64 L.length),(77,.int .i64 L.length),(78,.bool false)],h')∧h'.get o=some (ints (Br O q))∧h'.floor=h.floor∧h'.next=h.next∧∀i,i≠o→h'.get i=h.get i
 | [], p, O, B, h, hp, hx, hn, go, fo, hO, ob, hB, hb => by
   rw[Sf]at hp;subst hp
   refine⟨h,sV ?_,go,rfl,rfl,fun _ _=>rfl⟩
   simp (disch:=omega)only[go_sem,vz,AP.f359L0]
 | s :: q, p, O, B, h, hp, hx, hn, go, fo, hO, ob, hB, hb => by
   have hl:L.length=p.length+(q.length+1):=by rw[hp];simp
   obtain⟨ad,a1,a2⟩:=rd.xh
   have b1:=a1 p.length ⟨by omega,by omega⟩
   have hyC:L[p.length]?=some s:=by rw[hp];simp
   have b2:=a2 h hx p.length s hyC
   have sr:=hr s (uL hyC)
   have c1:((p.length:Nat):Int)<L.length:=by omega
   have sO:s.toNat<O.length:=by omega
   have gs:=AO sO
   have ib:cM (.int .i64 s) N=some s.toNat:=by
    simp [cM,ny,sr]
   have yb:=ob (O.getD s.toNat 0) (by rw[RW,RY sO];exact Sd _)
   have st:=yg O s.toNat (O.getD s.toNat 0+1)
   have lO:(ints O).length=O.length:=by rw[pD]
   obtain⟨h',L1,g1,f1,n1,k1⟩:=FY h0 rd hL hr hN q (p++[s]) (wQ O s.toNat) (B+1) (h.set o (ints (wQ O s.toNat))) (by rw[hp];simp) (hx.Ii hn _) hn (by rw[vA rfl,go];rfl) (by simpa using fo) (by rw[xe];exact hO) (yI ob hB) (by omega) (by simp at hb;omega)
   refine⟨h',sW ?_ L1,by rw[Br];exact g1,by rw[f1];simp,by rw[n1];simp,fun i hi=>by rw[k1 i hi,u9 hi]⟩
   have e3:(((p++[s]).length:Nat):Int)=(p.length:Int)+1:=by simp
   rw[e3]
   unfold wQ
   rw[←st]
   rw[hO]at lO sO
   generalize ints O=P at *
   generalize O.getD s.toNat 0=y at *
   generalize s.toNat=k at *
   clear rd L1 ob hr a1 a2 hyC st g1 k1 hx
   simp (disch:=omega)only[go_sem,vz,AP.f359L0,c1,b1,b2,ib,go,gs,fo]
theorem Hm {hb h : H} {a id o n N : Nat} {J : List AV} {l : List Nat} {rc : Nat → Tz} {O : List Int} {tr : Nat → Tr} {tot : Int} {S : List Int} {G s : FS} (v : Mz hb h a id o n N J l rc O) (sm : Fj n N tot S G s rc tr l O) (ho : GX (wW rc) 0 l.length l) (h2 : 2 ≤ l.length) (hn : n ≤ 1000) (hN : N ≤ 1000) (ht : tot < 1000000000000000) :
 ∃h' J' l' rc' tr' s' O',aK (aQ AP.A) bu AP.f359L1 [(3,.aD o 0 N 1),(4,.aC a 0),(7,.int .i64 (N+(n-l.length):Nat))] h=some (.normal,[(3,.aD o 0 N 1),(4,.aC a 0),(7,.int .i64 (N+(n-l'.length):Nat))],h')∧Mz hb h' a id o n N J' l' rc' O'∧Fj n N tot S G s' rc' tr' l' O'∧GX (wW rc') 0 l'.length l'∧l'.length+1=l.length:=by
 have ga:=v.z.ga
 have lb:=v.z.lb
 have ll:=sm.ll
 obtain⟨ta,l1,h1,k1,z1,pm1,ho1,le1,n1,f1,kp1⟩:=JU v.z (by omega) ho
 have pl1:=pm1.length_eq
 rw[RX]at pl1
 obtain⟨tb,l2,h2',k2,z2,pm2,ho2,le2,n2,f2,kp2⟩:=JU z1 (by omega) ho1
 have pl2:=pm2.length_eq
 rw[RX]at pl2
 have pm:l.Perm (ta::tb::l2):=pm1.trans (pm2.cons ta)
 have sm1:=sm.perm pm
 have kp:∀i,i≠a→i≠id→h2'.get i=h.get i:=fun i q1 q2=>by rw[kp2 i q1 q2,kp1 i q1 q2]
 have tm:∀x∈ta::tb::l2,x∈l:=fun x hx=>pm.mem_iff.2 hx
 have T:∀x∈l,x≠a∧x≠id∧x≠o∧x<h.next∧∃sv,h2'.get x=some [.int .i64 (rc x).w,.int .i64 (rc x).m,sv]∧Rd h2' sv (ints (rc x).L)∧sv.sc=true∧sv.cells=[sv]∧∀j,sv.id?=some j→j≠a∧j≠id∧j≠o:=fun x hx=>by
  obtain⟨a1,a2,_,_⟩:=v.z.tr x hx
  obtain⟨a3,sv,g1,g2,g3,g4,g5⟩:=v.tr x hx
  exact⟨a1,a2,a3,h.lt _ _ g1,sv,by rw[kp x a1 a2,g1],g2.vR fun j hj=>kp j (g5 j hj).1 (g5 j hj).2.1,g3,g4,g5⟩
 obtain⟨ta1,ta2,ta3,ta4,sva,ga1,ga2,ga3,ga4,ga5⟩:=T ta (tm _ (by simp))
 obtain⟨tb1,tb2,tb3,tb4,svb,gb1,gb2,gb3,gb4,gb5⟩:=T tb (tm _ (by simp))
 have wa:=v.wb ta (tm _ (by simp))
 have wb:=v.wb tb (tm _ (by simp))
 have nx:h2'.next=h.next:=by rw[n2,n1]
 obtain⟨t,et⟩:∃t,t=h2'.next+1:=⟨_,rfl⟩
 obtain⟨rc',erc⟩:∃r:Nat→Tz,r=fun x=>if x=t then⟨(rc ta).w+(rc tb).w,((N+(n-(l2.length+2)):Nat):Int),(rc ta).L++(rc tb).L⟩else rc x:=⟨_,rfl⟩
 have fr:∀x∈l2,x≠t:=fun x hx=>by
  obtain⟨_,_,_,q,_⟩:=T x (tm x (by simp [hx]))
  omega
 have rct:rc' t=⟨(rc ta).w+(rc tb).w,((N+(n-(l2.length+2)):Nat):Int),(rc ta).L++(rc tb).L⟩:=by rw[erc];exact if_pos rfl
 have rco:∀x∈l2,rc' x=rc x:=fun x hx=>by rw[erc];exact if_neg (fr x hx)
 obtain⟨sm2,rL,cL,pL⟩:=sm1.step hn hN ht (rc':=rc') (t:=t) (fun x hx=>le1 x (pm2.mem_iff.2 hx)) (fun x hx=>le2 x hx) fr rco rct
 obtain⟨L,eL⟩:∃L,L=(rc ta).L++(rc tb).L:=⟨_,rfl⟩
 rw[←eL]at rct sm2 rL cL pL
 have xa:Ext h2' (h2'.alloc [sva,svb]):=(Ext.refl _).alloc _
 have k3:aQ AP.A 62 [.aD h2'.next 0 2 1] (h2'.alloc [sva,svb])=some (vX L,h2'.alloc [sva,svb]):=by
  have r1:Rd (h2'.alloc [sva,svb]) (.aD h2'.next 0 2 1) ([(sva,(rc ta).L),(svb,(rc tb).L)].map (·.1)):=⟨by simp [aR,vp],by intro s e;cases e⟩
  have e:cat [(sva,(rc ta).L),(svb,(rc tb).L)]=L:=by rw[eL];simp [cat]
  have:=CC (h2'.alloc [sva,svb]) (.aD h2'.next 0 2 1) [(sva,(rc ta).L),(svb,(rc tb).L)] r1 (fun p hp=>by
   simp at hp
   rcases hp with rfl|rfl
   · exact ga2.mono fun i c q=>xa i c q
   · exact gb2.mono fun i c q=>xa i c q) (by rw[e];omega) (by simp) (by rw[e];exact pL)
  rw[e]at this;exact this
 obtain⟨h4,eh4⟩:∃g,g=(h2'.alloc [sva,svb]).alloc [.int .i64 ((rc ta).w+(rc tb).w),.int .i64 (N+(n-l.length):Nat),vX L]:=⟨_,rfl⟩
 have gt4:h4.get t=some [.int .i64 ((rc ta).w+(rc tb).w),.int .i64 (N+(n-l.length):Nat),vX L]:=by rw[eh4,et,vp (by simp)]
 have n4:h4.next=h.next+2:=by rw[eh4];simp;omega
 have f4:h4.floor=h.floor:=by rw[eh4];simp;omega
 have kp4:∀i,i<h.next→h4.get i=h2'.get i:=fun i hi=>by rw[eh4,vn (by simp;omega),vn (by omega)]
 have lo:=h.lt _ _ v.go
 have la:=h.lt _ _ ga
 have li:=h.lt _ _ v.z.gi
 have go4:h4.get o=some (ints O):=by rw[kp4 o lo,kp o v.no.1 v.no.2,v.go]
 have ln:iP false (vX L)=some (.int .i64 L.length):=rfl
 have rdL:Rd H.empty (vX L) (ints L):=xS _ _
 have fl:=v.fl
 have vlo:=v.lo
 obtain⟨h5,L5,g5,f5,n5,kp5⟩:=FY (a:=a) (t:=t) (made:=(N+(n-l.length):Nat)) (N:=N) H.empty rdL (by omega) rL (by omega) L [] O ((1000* (n-l.length):Nat):Int) h4 rfl (fun i c q=>by simp [H.empty,H.get]at q) (by simp [H.empty,H.get]) go4 (by omega) v.ol v.ob (by omega) (by omega)
 have gt5:h5.get t=some [.int .i64 (rc' t).w,.int .i64 (rc' t).m,vX L]:=by
  rw[kp5 t (by omega),gt4,rct,show l.length=l2.length+2 by omega]
 have z2':Hz h5 a id l2 (.aC tb 0:: .aC ta 0::J) rc':=by
  refine(z2.mono (by omega) fun i hi=> ?_).congr rco
  have:i<h.next∧i≠o:=by
   rcases hi with rfl|rfl|hi
   · exact⟨la,v.no.1.symm⟩
   · exact⟨li,v.no.2.symm⟩
   · obtain⟨_,_,q1,q2,_⟩:=T i (tm i (by simp [hi]))
     exact⟨q2,q1⟩
  rw[kp5 i this.2,kp4 i this.1]
 have Ji:=v.Ji
 obtain⟨l',h6,k6,z6,pm6,ho6,n6,f6,kp6⟩:=Lj z2' (ho2.congr rco) (t:=t) (sv:=vX L) ⟨by omega,by omega⟩ (by rw[rct];exact⟨by show(0:Int)≤((_:Nat):Int);omega,by show((_:Nat):Int)<1000000;omega⟩) gt5 (by omega) (by omega)
 have pl6:=pm6.length_eq
 rw[RX]at pl6
 have kpo:∀i,i<h.next→i≠a→i≠id→i≠o→h6.get i=h.get i:=fun i q1 q2 q3 q4=>by rw[kp6 i (by omega) q2 q3,kp5 i q4,kp4 i q1,kp i q2 q3]
 refine⟨h6,_,l',rc',_,_,Br O L, ?_,⟨z6,fun i c hi=> ?_,by omega,by omega,v.la,v.li,v.lo, ?_,v.no,by rw[CP];exact v.ol, ?_,fun x hx=> ?_,fun x hx=> ?_⟩,sm2.perm pm6.symm,ho6,by omega⟩
 · have c:(1:Int)<l.length:=by omega
   have k0:∀g:H,aQ AP.A 363 [.aD id 0 l.length 1] g=_:=fun g=>CM g id l.length
   have em:((N+(n-l'.length):Nat):Int)=((N+(n-l.length):Nat):Int)+1:=by omega
   have lms:((([]:List Int).length:Nat):Int)=0:=rfl
   rw[lms]at L5
   rw[em]
   have mb:((N+(n-l.length):Nat):Int)<1000000:=by omega
   have ga4':=(kp4 ta ta4).trans ga1
   have gb4':=(kp4 tb tb4).trans gb1
   have im1:(vX L).sc=true:=rfl
   have im2:(vX L).cells=[vX L]:=rfl
   generalize ((N+(n-l.length):Nat):Int)=made at *
   generalize (rc ta).w=A1 at *
   generalize (rc ta).m=A2 at *
   generalize (rc tb).w=B1 at *
   generalize (rc tb).m=B2 at *
   generalize vX L=iL at *
   generalize L.length=LL at *
   rw[et]at k6 L5 gt4
   clear v sm z1 z2 z2' z6 pm1 ho ho1 ho2 ho6 le1 le2 pm2 pm sm1 kp tm T fr rco rct sm2 rL xa eL kp4 kp5 kp6 kpo gt5 go4 g5 rdL erc
   simp (disch:=first|omega|(simp only[wO,RX,RZ,uM,Nat.reduceAdd,ga1,gb1];first|done|omega|fail)|(simp (disch:=first|omega|(simp only[wO,RX,RZ,uM,Nat.reduceAdd,ga1,gb1];first|done|omega|fail)|fail)only[wO,Cf,R1,RX,RZ,uM,Nat.reduceAdd,ga1,gb1];done)|fail)only[go_sem,vz,Ce,AP.f359L1,ga,k0,c,k1,k2,ga1,gb1,k3,←eh4,gt4,ga4',gb4',ln,rR,L5,k6,ga3,ga4,gb3,gb4,im1,im2]
 · have:=hb.lt _ _ hi
   have e:=v.ext i c hi
   have:=h.lt _ _ e
   have:=v.la
   have:=v.li
   rw[kpo i (by omega) (by omega) (by omega) (by omega),e]
 · rw[kp6 o (by omega) v.no.1 v.no.2,g5]
 · intro y hy
   have:=FZ L O _ v.ob (by omega) y hy
   omega
 · rcases uY.1 (pm6.mem_iff.1 hx)with q|q
   · subst q
     exact⟨by omega,vX L,by rw[kp6 _ (by omega) (by omega) (by omega),gt5],by rw[rct];exact rdL.vR fun j hj=>(by cases hj),rfl,rfl,fun j hj=>(by cases hj)⟩
   · obtain⟨a1,a2,a3,a4,sv,q1,q2,q3,q4,q5⟩:=T x (tm x (by simp [q]))
     have kx:h6.get x=h2'.get x:=by rw[kpo x a4 a1 a2 a3,kp x a1 a2]
     refine⟨a3,sv,by rw[kx,rco x q,q1], ?_,q3,q4,q5⟩
     rw[rco x q]
     refine q2.vR fun j hj=> ?_
     obtain⟨b1,b2,b3⟩:=q5 j hj
     have jl:j<h2'.next:=by
      have:=q2.1
      cases sv with
      | aD i2 o2 l2' s2 =>
        obtain rfl:=uv hj
        cases e:h2'.get i2 with
        |none=>simp [aR,e]at this
        |some c=>exact h2'.lt _ _ e
      |aC i2 o2=>cases this
      |_=>cases hj
     rw[kpo j (by omega) b1 b2 b3,kp j b1 b2]
 · rcases uY.1 (pm6.mem_iff.1 hx)with q|q
   · subst q
     rw[rct]
     have e:=(sm2.rel _ (List.mem_cons_self)).1
     rw[rct]at e
     have ws:=sm2.hv.sum
     have wp:=sm2.hv.HF
     refine⟨by show 0≤(rc ta).w+(rc tb).w;omega, ?_⟩
     rw[R5,R5,Sm]at ws
     have nn:∀q:List Tr,(∀t∈q,1≤s.ER.W.getD t.1 0)→0≤(q.map fun t=>s.ER.W.getD t.1 0).sum:=by
      intro q
      induction q with
      |nil=>intro _;simp
      |cons x q ih=>intro h;have:=ih fun t ht=>h t (by simp [ht]);have:=h x (by simp);simp only[R5,Sm];omega
     have:=nn _ (fun t ht=>wp t (Sy _ ht))
     rw[←e]at ws
     show(rc ta).w+(rc tb).w<_
     have ws':(rc ta).w+(rc tb).w+_=tot:=ws
     omega
   · rw[rco x q];exact v.wb x (tm x (by simp [q]))
theorem C6 {hb:H} {a id o n N:Nat} {tot:Int} {S:List Int} {G:FS} (hn:n≤1000) (hN:N≤1000) (ht:tot<1000000000000000):∀(m:Nat) (h:H) (J:List AV) (l:List Nat) (rc:Nat→Tz) (tr:Nat→Tr) (s:FS) (O:List Int),l.length=m+1→Mz hb h a id o n N J l rc O→Fj n N tot S G s rc tr l O→GX (wW rc) 0 l.length l→
 ∃h' t rc' tr' s' O' mv,Lp AP.A [3,4,7] AP.f359L1 [(3,.aD o 0 N 1),(4,.aC a 0),(7,.int .i64 (N+(n-l.length):Nat))] h=some (.exit 2,[(3,.aD o 0 N 1),(4,.aC a 0),(7,mv),(41,.bool false)],h')∧Fj n N tot S G s' rc' tr' [t] O'∧h'.get o=some (ints O')∧h'.floor=hb.next
 | 0, h, J, l, rc, tr, s, O, hl, v, sm, ho => by
   obtain⟨t,rfl⟩:=List.length_eq_one_iff.1 hl
   have ga:=v.z.ga
   have k0:∀g:H,aQ AP.A 363 [.aD id 0 1 1] g=_:=fun g=>CM g id 1
   refine⟨h,t,rc,tr,s,O,.int .i64 (N+(n-[t].length):Nat),sV ?_,sm,v.go,v.fl⟩
   rw[Su]at ga
   have c:¬(1:Int)<((1:Nat):Int):=by omega
   clear v sm ho
   generalize ((N+(n-[t].length):Nat):Int)=made
   simp (disch:=omega)only[go_sem,vz,AP.f359L1,ga,k0,c]
 | m + 1, h, J, l, rc, tr, s, O, hl, v, sm, ho => by
   obtain⟨h1,J1,l1,rc1,tr1,s1,O1,k,v1,sm1,ho1,e⟩:=Hm v sm ho (by omega) hn hN ht
   obtain⟨h',t,rc',tr',s',O',mv,L,r⟩:=C6 hn hN ht m h1 J1 l1 rc1 tr1 s1 O1 (by omega) v1 sm1 ho1
   exact⟨h',t,rc',tr',s',O',mv,sW k L,r⟩
theorem FX {l:List Nat} (nd:l.Nodup) {i:Nat} (h:i<l.length):l.idxOf (l.getD i 0)=i:=by
 have hm:l.getD i 0∈l:=zk h
 have h1:=List.idxOf_lt_length_of_mem hm
 have h2:=List.getElem_idxOf h1
 have h3:l[i]=l.getD i 0:=by rw[RW,RY h];rfl
 rcases Nat.lt_trichotomy (l.idxOf (l.getD i 0)) i with q|q|q
 · exact absurd (h2.trans h3.symm) (List.pairwise_iff_getElem.1 nd _ _ h1 h q)
 · exact q
 · exact absurd (h3.trans h2.symm) (List.pairwise_iff_getElem.1 nd _ _ h h1 q)
def De (l:List Nat) (C:List Int) (t:Nat):Tz:=⟨(vk C).getD (l.idxOf t) 0,(vi 0 C).getD (l.idxOf t) 0,[(vi 0 C).getD (l.idxOf t) 0]⟩
def HD (l:List Nat) (t:Nat):Tr:=(l.idxOf t,[(l.idxOf t,0)])
theorem KI {l:List Nat} (nd:l.Nodup) {n:Nat} (h:l.length=n):l.map (HD l)=T0 n:=by
 apply List.ext_getElem?
 intro i
 unfold T0
 rw[uQ,uQ]
 by_cases c:i<l.length
 · rw[RY c,Sq (by omega)]
   have h3:l[i]=l.getD i 0:=by rw[RW,RY c];rfl
   show some (HD l l[i])=_
   unfold HD
   rw[h3,FX nd c];rfl
 · rw[Sa (by omega),Sa (by simp;omega)];rfl
def zU (C:List Int):List Int:=vN (vi 0 C) (vq (vk C)) (List.replicate C.length 0)
theorem IH (C:List Int):(zU C).length=C.length:=by unfold zU;rw[wA];simp
theorem Gd {α:Type} {l:List α} {x d:α} (h:x∈l):∃i,i<l.length∧l.getD i d=x:=by
 obtain⟨i,hi,e⟩:=Sw.1 h
 exact⟨i,hi,by rw[RW,RY hi,←e];rfl⟩
theorem Ky {hb h:H} {a o:Nat} {C:List Int} {l:List Nat} {av:AV} (b:Bt hb h a o C.length C l av) (hC:C.length<1000) (pos:∀y∈C,0≤y∧y≤2147483647) (h1:1≤l.length):
 ∃id,Hz h a id l [] (De l C)∧Mz hb h a id o (vk C).length C.length [] l (De l C) (List.replicate C.length 0)∧Fj (vk C).length C.length (vk C).sum (vi 0 C) (FS.yi ((vk C).length-1) (Cd (vk C))) (Cd (vk C)) (De l C) (HD l) l (List.replicate C.length 0):=by
 obtain⟨id,ev,gi,fi⟩:=Jm b.own h1
 have av1:av.id?=some id:=by rw[ev];rfl
 have nva:=b.nv id av1
 have ga:=b.ga
 rw[ev]at ga
 have so:=Es C
 have sl:=vJ 0 C
 have ll:=b.ll
 have fl:=b.fl
 have wl:=wC 0 C
 have rel:∀t∈l,∃i,i<l.length∧l.getD i 0=t∧HD l t=(i,[(i,0)])∧De l C t=⟨(vk C).getD i 0,(vi 0 C).getD i 0,[(vi 0 C).getD i 0]⟩:=fun t ht=>by
  obtain⟨i,hi,e⟩:=Gd (d:=0) ht
  have ix:=FX b.nd hi
  rw[e]at ix
  exact⟨i,hi,e,by unfold HD;rw[ix],by unfold De;rw[ix]⟩
 have z:Hz h a id l [] (De l C):=by
  refine⟨ga,by rw[Sf];exact gi,by rw[fl];exact b.fa,fi,nva.1.symm,fun t ht=> ?_,by omega⟩
  obtain⟨i,hi,e,_,e2⟩:=rel t ht
  obtain⟨sid,t1,t2,⟨t3,t4,t5⟩,_⟩:=b.tr i hi
  have:=so.at (i:=i) (by omega)
  rw[e]at t1 t3 t5
  rw[e2]
  exact⟨t3,fun q=>t5 (by rw[q];exact av1),⟨by show 0≤(vi 0 C).getD i 0;omega,by show(vi 0 C).getD i 0<_;omega⟩,_,t1⟩
 have wmem:∀i,i<l.length→1≤(vk C).getD i 0∧(vk C).getD i 0≤2147483647:=fun i hi=>by
  have hm:(vk C).getD i 0∈vk C:=by rw[RW,RY (by omega)];exact Sd _
  obtain⟨q1,q2⟩:=yd C _ hm
  have:=pos _ q1
  omega
 refine⟨id,z,⟨z,b.ext,fl,b.Ji,b.fa,by omega,b.fo,b.go,⟨b.Qr.symm,fun q=>nva.2 q.symm⟩,by simp,fun y hy=>by have:=So hy;omega,fun t ht=> ?_,fun t ht=> ?_⟩, ?_⟩
 · obtain⟨i,hi,e,_,e2⟩:=rel t ht
   obtain⟨sid,t1,t2,⟨t3,t4,t5⟩,t6,t7,t8⟩:=b.tr i hi
   rw[e]at t1 t4
   rw[e2]
   refine⟨t4,.aD sid 0 1 1,t1,⟨?_,by intro s e;cases e⟩,rfl,rfl,fun j hj=> ?_⟩
   · show aR h 1 (.aD sid 0 1 1)=some (1,[.int .i64 ((vi 0 C).getD i 0)])
     simp [aR,t2]
   · obtain rfl:sid=j:=uv hj
     exact⟨t6,fun q=>t8 (by rw[q];exact av1),t7⟩
 · obtain⟨i,hi,e,_,e2⟩:=rel t ht
   rw[e2]
   have:=wmem i hi
   exact⟨by show 0≤(vk C).getD i 0;omega,by show(vk C).getD i 0<_;omega⟩
 · refine Fj.init so (fun y hy=>by obtain⟨i,hi,e⟩:=Gd (d:=0) hy;have:=wmem i (by omega);omega) (HD l) (KI b.nd ll) fun t ht=> ?_
   obtain⟨i,hi,e,e1,e2⟩:=rel t ht
   exact⟨i,by omega,e1,e2⟩
theorem JC (h : H) (x : AV) (C : List Int) (h1 : 1 ≤ C.length) (hC : C.length < 1000) (rd : Rd h x (ints C)) (pos : ∀ y ∈ C, 0 ≤ y ∧ y ≤ 2147483647) :
 aQ AP.A 359 [x] h=some (zd 1 C.length (ints (zU C)),h):=by
 have yR:Rd h.dL x (ints C):=rd.mono (vu h)
 have ln:=rd.len
 rw[pD]at ln
 simp only[I]at ln
 obtain⟨g0,eg0⟩:∃g,g=(h.dL.alloc (xE C.length [.int .i64 0])).alloc [.aO]:=⟨_,rfl⟩
 have go:g0.get h.next=some (ints (List.replicate C.length 0)):=by rw[eg0,vn (by simp),vp (by simp),y7]
 have ga:g0.get (h.next+1)=some [.aO]:=by rw[eg0,vp (by simp)]
 have fl0:g0.floor=h.next:=by rw[eg0];simp
 have nx0:g0.next=h.next+2:=by rw[eg0];simp
 have b0:Bt h.dL g0 (h.next+1) h.next C.length [] [] .aO:=by
  refine⟨by rw[eg0];exact((Ext.refl _).alloc _).alloc _,by rw[fl0];rfl,by omega,ga,by simp,go,by simp,by omega,v8.nil,fun j hj=>(by cases hj),rfl,List.nodup_nil,fun i hi=>(by simp at hi)⟩
 obtain⟨l,av,g1,L1,b1⟩:=zZ hC yR (fun y hy=>(pos y hy).1) C [] [] .aO g0 rfl b0
 have L1':Lp AP.A [0,3,4,16,17,18] AP.f359L2 [(0,x),(3,.aD h.next 0 C.length 1),(4,.aC (h.next+1) 0),(16,x),(17,.int .i64 C.length),(18,.int .i64 0)] g0=_:=L1
 obtain⟨g2,g3,mv,k1,L2,g4,f3⟩:∃g2 g3 mv,aQ AP.A 362 [Bq (h.next+1)] g1=some (.bO [],g2)∧Lp AP.A [3,4,7] AP.f359L1 [(3,.aD h.next 0 C.length 1),(4,.aC (h.next+1) 0),(7,.int .i64 C.length)] g2=some (.exit 2,[(3,.aD h.next 0 C.length 1),(4,.aC (h.next+1) 0),(7,mv),(41,.bool false)],g3)∧g3.get h.next=some (ints (zU C))∧g3.floor=h.next:=by
  by_cases hl:1≤l.length
  · obtain⟨id,z,m,sm⟩:=Ky b1 hC pos hl
    have ll:=b1.ll
    obtain⟨i1,i2⟩:=F6 (ky:=wW (De l C)) (n:=l.length) (l.length/2) l (uH _) (fun c h0 hc hp=>by omega)
    have k:=Lh z
    have z2:=z.set i2
    have hs:(vk C).sum<1000000000000000:=by
     have:=At (vk C) 2147483647 (fun y hy=>(pos y (yd C y hy).1).2)
     have wl:=wC 0 C
     rw[vJ]at wl
     have:(2147483647:Int)* ((vk C).length:Nat)≤2147483647* 1000:=Int.mul_le_mul_of_nonneg_left (by omega) (by omega)
     omega
    have pl:=i2.length_eq
    have m2:Mz h.dL (g1.set id (wy (zm (ky:=wW (De l C)) l.length (l.length/2) l)++[])) (h.next+1) id h.next (vk C).length C.length [] (zm (ky:=wW (De l C)) l.length (l.length/2) l) (De l C) (List.replicate C.length 0):=by
     refine⟨z2,m.ext.set m.li _,by simpa using m.fl,by simpa using m.Ji,m.la,m.li,m.lo,by rw[u9 m.no.2];exact m.go,m.no,m.ol,by rw[pl];exact m.ob,fun t ht=> ?_,fun t ht=>m.wb t (i2.mem_iff.1 ht)⟩
     obtain⟨a1,sv,q1,q2,q3,q4,q5⟩:=m.tr t (i2.mem_iff.1 ht)
     obtain⟨_,a2,_⟩:=z.tr t (i2.mem_iff.1 ht)
     exact⟨a1,sv,by rw[u9 a2];exact q1,q2.vR fun j hj=>u9 (q5 j hj).2.1,q3,q4,q5⟩
    obtain⟨h',t,rc',tr',s',O',mv,L,sm',go',fl'⟩:=C6 (n:=(vk C).length) (N:=C.length) (by have:=wC 0 C;rw[vJ]at this;omega) (by omega) hs (l.length-1) _ _ _ _ _ _ _ (by omega) m2 (sm.perm i2.symm) (by rw[pl];exact i1)
    have e0:C.length+((vk C).length-(zm (ky:=wW (De l C)) l.length (l.length/2) l).length)=C.length:=by omega
    rw[e0]at L
    have:=Fj.QA rfl sm'
    exact⟨_,h',mv,k,L,by rw[go',this];rfl,fl'⟩
  · have el:l=[]:=Sk (by omega)
    subst el
    have av0:av=.aO:=by
     rcases b1.own.2 with ⟨q,_⟩|⟨id,_,_,_,q⟩
     · exact q
     · simp at q
    have ga1:=b1.ga
    rw[av0]at ga1
    have k0:∀g:H,aQ AP.A 363 [.aO] g=some (.int .i64 0,g):=fun g=>by
     refine tq (fn:=AP.f363) (e:=[(2,.int .i64 0)]) (vs:=[.int .i64 0]) rfl rfl rfl (by simp (disch:=omega)only[go_sem,vz,AP.f363,EB]) rfl
    have LI:Lp AP.A [0,2,3] AP.f362L0 [(0,Bq (h.next+1)),(2,.int .i64 0),(3,.int .i64 (-1))] g1=some (.exit 0,[(0,Bq (h.next+1)),(2,.int .i64 0),(3,.int .i64 (-1)),(10,.bool false)],g1):=by
     refine sV ?_
     have c:¬(0:Int)≤-1:=by omega
     simp (disch:=omega)only[go_sem,vz,AP.f362L0,c]
    have hq:=Hf (n:=0) (by omega)
    have hq':bn .quo (.int .i64 0) (.int .i64 2)=some (.int .i64 0):=hq
    refine⟨g1,g1,.int .i64 C.length, ?_,sV ?_, ?_,b1.fl⟩
    · refine vW (fn:=AP.f362) (e:=[]) (vs:=[]) rfl rfl rfl ?_ rfl
      simp (disch:=omega)only[go_sem,vz,AP.f362,ga1,k0,hq',rR,LI]
    · have c:¬(1:Int)<0:=by omega
      simp (disch:=omega)only[go_sem,vz,AP.f359L1,ga1,k0,c]
    · rw[b1.go]
      have e:vk C=[]:=Sk (by have:=b1.ll;simp at this;omega)
      have e2:vi 0 C=[]:=Sk (by rw[vJ,e];rfl)
      unfold zU
      rw[e2];rfl
 have own:v8 1 g3 (.aD h.next 0 C.length 1) C.length (ints (zU C)):=⟨by rw[pD,IH];omega,.inr ⟨h.next,rfl,g4,by omega,by omega⟩⟩
 have s1:=own.zP (fl:=h.next) (m:=14) (t:=true) (by omega)
 refine tL (fn:=AP.f359) (h2:=g3) (e:=[(2,.aD h.next 0 C.length 1)]) (vs:=[.aD h.next 0 C.length 1]) rfl rfl rfl ?_ rfl s1
 clear own s1 b1 b0 L1 rd yR pos go ga g4
 simp (disch:=first|omega|(simp only[wO,RX,RZ,uM,Nat.reduceAdd];first|done|omega|fail)|(simp (disch:=first|omega|(simp only[wO,RX,RZ,uM,Nat.reduceAdd];first|done|omega|fail)|fail)only[wO,Cf,R1,RX,RZ,uM,Nat.reduceAdd];done)|fail)only[go_sem,vz,Ce,AP.f359,ln,←eg0,rR,L1',k1,L2]
theorem Ql {a b c x:aF} {e e':Env} {h h':H} {q:dx} (k:aK (aQ AP.A) bu (.seq a (.seq b c)) e h=some (.normal,e',h')) (z:aK (aQ AP.A) bu x e' h'=q):aK (aQ AP.A) bu (.seq a (.seq b (.seq c x))) e h=q:=by
 have st:∀{a b b':aF} {e:Env} {h:H},(∀e h,aK (aQ AP.A) bu b e h=some (.normal,e',h')→aK (aQ AP.A) bu b' e h=q)→aK (aQ AP.A) bu (.seq a b) e h=some (.normal,e',h')→aK (aQ AP.A) bu (.seq a b') e h=q:=fun {a b b' e h} f k=>by
  rw[rF]at k ⊢
  cases hq:aK (aQ AP.A) bu a e h with
  |none=>rw[hq]at k;cases k
  | some r =>
    obtain⟨ex,ev,hr⟩:=r
    cases ex with
    |normal=>rw[hq,su]at k;rw[su];exact f _ _ k
    |exit i=>rw[hq]at k;cases k
    |ret=>rw[hq]at k;cases k
 refine st (fun e h=>st fun e h k=> ?_) k
 rw[rF,k,su];exact z
theorem Gc {v:AV} {l:List Int} (hl:l.length<100000) (h:H) (rd:Rd h v (ints l)):∀(q p:List Int) (m:Int),l=p++q→
 ∃e',Lp AP.A [0,3,4] AP.f360L0 [(0,v),(3,.int .i64 m),(4,.int .i64 p.length)] h=some (.exit 0,e',h)∧look e' 3=.int .i64 (Ah q m)
 | [], p, m, hp => by
   rw[Sf]at hp;subst hp
   have ln:=rd.len
   rw[pD]at ln
   simp only[I]at ln
   refine⟨[(0,v),(3,.int .i64 m),(4,.int .i64 l.length),(15,.bool false)],sV ?_,rfl⟩
   simp (disch:=omega)only[go_sem,vz,AP.f360L0,ln]
 | y :: q, p, m, hp => by
   have ln:=rd.len
   rw[pD]at ln
   simp only[I]at ln
   have hlen:l.length=p.length+(q.length+1):=by rw[hp];simp
   obtain⟨ad,a1,a2⟩:=rd.xh
   have b1:=a1 p.length ⟨by omega,by omega⟩
   have b2:=a2 h (Ext.refl h) p.length y (by rw[hp];simp)
   obtain⟨e',L,r⟩:=Gc hl h rd q (p++[y]) (C5 m y) (by rw[hp];simp)
   have w1:((p++[y]).length:Int)=(p.length:Int)+1:=by simp
   rw[w1]at L
   refine⟨e',sW ?_ L,r⟩
   clear L rd a1 a2 hp
   simp (disch:=omega)only[go_sem,vz,AP.f360L0,ln,b1,b2,Ho,EC]
theorem LS (h:H) (v:AV) (l:List Int) (h1:1≤l.length) (hl:l.length<100000) (rd:Rd h v (ints l)):∃M,aQ AP.A 360 [v] h=some (.int .i64 M,h)∧∀m,M≤m↔∀y∈l,y≤m:=by
 obtain⟨y,r,rfl⟩:∃y r,l=y::r:=by
  cases l with
  |nil=>simp at h1
  |cons y r=>exact⟨y,r,rfl⟩
 have yR:Rd h.dL v (ints (y::r)):=rd.mono (vu h)
 have ln:=rd.len
 rw[pD]at ln
 simp only[I]at ln
 obtain⟨ad,a1,a2⟩:=yR.xh
 have b1:=a1 0 ⟨by omega,by simp⟩
 have b2:=a2 h.dL (Ext.refl _) 0 y rfl
 obtain⟨e',L,q⟩:=Gc hl h.dL yR r [y] y rfl
 have L':Lp AP.A [0,3,4] AP.f360L0 [(0,v),(3,.int .i64 y),(4,.int .i64 1)] h.dL=some (.exit 0,e',h.dL):=L
 refine⟨Ah r y,tL (fn:=AP.f360) (h2:=h.dL) (e:=[(2,.int .i64 (Ah r y))]) (vs:=[.int .i64 (Ah r y)]) rfl rfl rfl ?_ rfl rfl,fun m=>⟨fun h z hz=> ?_,fun h=>AZ r y m (fun d hd=>h d (by simp [hd])) (h y (by simp))⟩⟩
 · have c:¬(((y::r).length:Nat):Int)<1:=by simp;omega
   have b2':bS false 1 (ad 0) h.dL=some (.int .i64 y):=b2
   generalize (((y::r).length:Nat):Int)=N at *
   clear rd yR a1 a2 L
   simp (disch:=omega)only[go_sem,vz,AP.f360,ln,c,b1,b2',rR,L',q]
 · have:=Cm r y
   rcases uY.1 hz with e|e
   · subst e;omega
   · have:=this.2 z e;omega
theorem F7 {v:AV} {l:List Int} (hl:l.length<1125899906842624) (h:H) (rd:Rd h v (ints l)):∀(q p:List Int),l=p++q→(0:Int)∈q→
 ∃e',Lp AP.A [0,1,7,8] AP.f189L0 [(0,v),(1,.int .i64 0),(7,.int .i64 l.length),(8,.int .i64 p.length)] h=some (.ret,e',h)∧look e' 4=.int .i64 (p.length+yY q:Nat)
 |[],p,hp,h0=>by simp at h0
 | x :: q, p, hp, h0 => by
   have hlen:l.length=p.length+(q.length+1):=by rw[hp];simp
   obtain⟨ad,a1,a2⟩:=rd.xh
   have b1:=a1 p.length ⟨by omega,by omega⟩
   have b2:=a2 h (Ext.refl h) p.length x (by rw[hp];simp)
   rw[yY]
   by_cases c:x=0
   · rw[if_pos c]
     refine⟨[(4,.int .i64 p.length)],tB ?_,rfl⟩
     subst c
     clear rd a1 a2 hp
     simp (disch:=omega)only[go_sem,vz,AP.f189L0,b1,b2]
   · rw[if_neg c]
     obtain⟨e',r1,r2⟩:=F7 hl h rd q (p++[x]) (by rw[hp];simp) (by rcases uY.1 h0 with q|q;exact absurd q.symm c;exact q)
     have w1:((p++[x]).length:Int)=(p.length:Int)+1:=by simp
     rw[w1]at r1
     refine⟨e',sW ?_ r1,by rw[r2];simp;omega⟩
     have cb:((0:Int)==x)=false:=by simp;omega
     clear r1 rd a1 a2 hp
     simp (disch:=omega)only[go_sem,vz,AP.f189L0,b1,b2,c,cb]
theorem Qd (h:H) (v:AV) (l:List Int) (rd:Rd h v (ints l)) (hl:l.length<100000) (h0:(0:Int)∈l):aQ AP.A 189 [v,.int .i64 0] h=some (.int .i64 (yY l:Nat),h):=by
 have yR:Rd h.dL v (ints l):=rd.mono (vu h)
 have ln:=rd.len
 rw[pD]at ln
 simp only[I]at ln
 obtain⟨e',r1,r3⟩:=F7 (by omega) h.dL yR l [] rfl h0
 have r1':Lp AP.A [0,1,7,8] AP.f189L0 [(0,v),(1,.int .i64 0),(7,.int .i64 l.length),(8,.int .i64 0)] h.dL=some (.ret,e',h.dL):=r1
 simp only[RZ,uM]at r3
 refine tL (fn:=AP.f189) (h2:=h.dL) (e:=e') (vs:=[.int .i64 (yY l:Nat)]) rfl rfl rfl ?_ (by simp only[AP.f189,cu,mY,r3];rfl) rfl
 clear rd yR r1 r3
 simp (disch:=omega)only[go_sem,vz,AP.f189,ln,rR,r1']
theorem BK {v:AV} {l:List Int} (hl:l.length<100000) (h:H) (rd:Rd h v (ints l)):∀(q p:List Int) (m:Nat),l=p++q→m≤p.length→
 ∃e',Lp AP.A [3,6,7,8] AP.f358L0 [(3,.int .i64 m),(6,v),(7,.int .i64 l.length),(8,.int .i64 p.length)] h=some (.exit 0,e',h)∧look e' 3=.int .i64 (m+yn q:Nat)
 | [], p, m, hp, hm => by
   rw[Sf]at hp;subst hp
   refine⟨[(3,.int .i64 m),(6,v),(7,.int .i64 l.length),(8,.int .i64 l.length),(9,.bool false)],sV ?_,rfl⟩
   simp (disch:=omega)only[go_sem,vz,AP.f358L0]
 | y :: q, p, m, hp, hm => by
   have hlen:l.length=p.length+(q.length+1):=by rw[hp];simp
   obtain⟨ad,a1,a2⟩:=rd.xh
   have b1:=a1 p.length ⟨by omega,by omega⟩
   have b2:=a2 h (Ext.refl h) p.length y (by rw[hp];simp)
   have c1:((p.length:Nat):Int)<l.length:=by omega
   have w1:((p++[y]).length:Int)=(p.length:Int)+1:=by simp
   by_cases c:0<y
   · obtain⟨e',L,r⟩:=BK hl h rd q (p++[y]) (m+1) (by rw[hp];simp) (by simp;omega)
     rw[w1]at L
     refine⟨e',sW ?_ L,by rw[r];unfold yn;rw[vk,if_pos c,RX];congr 1;omega⟩
     have w2:((m+1:Nat):Int)=(m:Int)+1:=by omega
     rw[w2]
     clear L rd a1 a2 hp
     simp (disch:=omega)only[go_sem,vz,AP.f358L0,c1,b1,b2,c]
   · obtain⟨e',L,r⟩:=BK hl h rd q (p++[y]) m (by rw[hp];simp) (by simp;omega)
     rw[w1]at L
     refine⟨e',sW ?_ L,by rw[r];unfold yn;rw[vk,if_neg c]⟩
     clear L rd a1 a2 hp
     simp (disch:=omega)only[go_sem,vz,AP.f358L0,c1,b1,b2,c]
theorem KJ (h:H) (v:AV) (l:List Int) (rd:Rd h v (ints l)) (hl:l.length<100000):aQ AP.A 358 [v] h=some (.int .i64 (yn l:Nat),h):=by
 have yR:Rd h.dL v (ints l):=rd.mono (vu h)
 have ln:=rd.len
 rw[pD]at ln
 simp only[I]at ln
 obtain⟨e',L,r⟩:=BK hl h.dL yR l [] 0 rfl (by simp)
 have L':Lp AP.A [3,6,7,8] AP.f358L0 [(3,.int .i64 0),(6,v),(7,.int .i64 l.length),(8,.int .i64 0)] h.dL=some (.exit 0,e',h.dL):=L
 rw[uM]at r
 refine tL (fn:=AP.f358) (h2:=h.dL) (e:=[(2,.int .i64 (yn l:Nat))]) (vs:=[.int .i64 (yn l:Nat)]) rfl rfl rfl ?_ rfl rfl
 clear rd yR L
 simp (disch:=omega)only[go_sem,vz,AP.f358,ln,rR,L',r]
def Iz (v:AV):Bool:=match v with| .int _ n=>decide (n<0)||decide (2147483647<n)|_=>true
theorem OT (n:Int) (h:H):aQ AP.A 357 [.int .i64 n] h=some (.bool (Iz (.int .i64 n)),h):=by
 by_cases c1:n<0
 · refine tL (fn:=AP.f357) (h2:=h.dL) (e:=[(2,.bool true)]) (vs:=[.bool true]) rfl rfl rfl ?_ rfl ?_
   · simp (disch:=omega)only[go_sem,vz,AP.f357,c1]
   · simp [Iz,c1];rfl
 · refine tL (fn:=AP.f357) (h2:=h.dL) (e:=[(2,.bool (decide (2147483647<n)))]) (vs:=[.bool (decide (2147483647<n))]) rfl rfl rfl ?_ rfl ?_
   · simp (disch:=omega)only[go_sem,vz,AP.f357,c1]
   · simp [Iz,c1];rfl
theorem Db {mv:AV} {n wid:Nat} (hn:n<1000):∀(q p:List Int) (h:H),p.length+q.length=n→(∀y∈q,0≤y∧y<1000000000000)→h.get wid=some (ints (we p++q))→h.floor≤wid→h.floor≤h.next→
 ∃h',Lp AP.A [1,7,55,56,57] AP.f351L0 [(1,mv),(7,.aD wid 0 n 1),(55,.aD wid 0 n 1),(56,.int .i64 n),(57,.int .i64 p.length)] h=some (.exit 2,[(1,mv),(7,.aD wid 0 n 1),(55,.aD wid 0 n 1),(56,.int .i64 n),(57,.int .i64 n),(58,.bool false)],h')∧h'.get wid=some (ints (we (p++q)))∧h'.floor=h.floor∧h'.next=h.next∧(∀i,i≠wid→h'.get i=h.get i)
 | [], p, h, hl, hr, hg, hf, hfl => by
   obtain rfl:p.length=n:=by simpa using hl
   refine⟨h,sV ?_,by simpa using hg,rfl,rfl,fun _ _=>rfl⟩
   simp (disch:=omega)only[go_sem,vz,AP.f351L0]
 | y :: q, p, h, hl, hr, hg, hf, hfl => by
   have yr:=hr y (by simp)
   simp only[RX]at hl
   have n1:(((p++[y]).length:Nat):Int)=(p.length:Int)+1:=by simp
   have hp:(we p).length=p.length:=zJ p
   have ix:(ints (we p++y::q))[p.length]?=some (.int .i64 y):=sC (by rw[R8 (by omega),hp];simp)
   have il:(ints (we p++y::q)).length=n:=by rw[pD,u4,hp,RX];omega
   have st:(ints (we p++y::q)).set p.length (.int .i64 (yw y))=ints (we (p++[y])++q):=by
    rw[yg,List.set_append_right _ _ (by omega),hp,Nat.sub_self]
    simp [we]
   have q1:bn .quo (.int .i64 (y+1)) (.int .i64 2)=some (.int .i64 (yw y)):=by
    have e:=rH (k:=.i64) (a:=y+1) (b:=2) (by omega)
    rw[e,Int.tdiv_eq_ediv_of_nonneg (by omega),wi (by omega)];rfl
   have c1:((p.length:Nat):Int)<n:=by omega
   have g2:(h.set wid (ints (we (p++[y])++q))).get wid=some (ints (we (p++[y])++q)):=by rw[vA rfl,hg];rfl
   obtain⟨h',k1,k2,k3,k4,k5⟩:=Db (mv:=mv) hn q (p++[y]) (h.set wid (ints (we (p++[y])++q))) (by simp;omega) (fun e he=>hr e (by simp [he])) g2 (by simpa using hf) (by simpa using hfl)
   refine⟨h',sW ?_ k1,by rw[k2];simp,by rw[k3];simp,by rw[k4];simp,fun i hi=>by rw[k5 i hi,u9 hi]⟩
   rw[n1]
   clear k1 k2 k3 k4 k5 g2 hr
   generalize ints (we p++y::q)=A at *
   generalize ints (we (p++[y])++q)=B at *
   simp (disch:=omega)only[go_sem,vz,AP.f351L0,c1,ix,il,st,q1,hg]
theorem IM {C:List Int} (h:∀y∈C,0≤y∧y≤2147483647):∀y∈we C,0≤y∧y≤2147483647:=fun y hy=>by
 obtain⟨z,hz,rfl⟩:=R6.1 hy
 have:=h z hz
 unfold yw;omega
theorem H9 {m : Nat} {S : List Int} {n wid : Nat} (hn1 : 1 ≤ n) (hn : n < 1000) (nd : (S.map Int.toNat).Nodup) (hr : ∀ s ∈ S, s.toNat < n) : ∀ (K : Nat) (C O : List Int) (h : H), wP m K (vk C) → C.length = n → vi 0 C = S → (∀ y ∈ C, 0 ≤ y ∧ y ≤ 2147483647) → O.length = n → (∀ p, p < n → (∀ s ∈ S, s.toNat ≠ p) → O[p]? = some 0) → h.get wid = some (ints C) → h.floor ≤ wid → h.floor ≤ h.next →
 ∃h' v,Lp AP.A [1,7] AP.f351L1 [(1,.int .i64 m),(7,.aD wid 0 n 1)] h=some (.ret,[(4,v),(5,.int .i64 0)],h')∧v=zd 1 n (ints (yx S K (vk C) O))∧h'.floor=h.floor
 | 0, C, O, h, r, hC, hS, hp, hO, hz, hg, hf, hfl => by
   cases r with
   | last o c =>
     have wl:(vk C).length=S.length:=by rw[←vJ 0 C,hS]
     have rd:Rd h (.aD wid 0 n 1) (ints C):=v8.yR (by
      rw[pD]
      exact⟨by rw[pD];omega,.inr ⟨wid,by rw[hC],hg,hf,by omega⟩⟩)
     have k1:=JC h _ C (by omega) (by omega) rd hp
     have e:zU C=yx S 0 (vk C) O:=by
      unfold zU
      rw[yx,hS,hC]
      exact(xN (by rw[wv,wl]) nd hO hr hz).symm
     rw[hC,e]at k1
     have lr:(yx S 0 (vk C) O).length=n:=by rw[Bv,hO]
     obtain⟨M,k2,k3⟩:=LS h (zd 1 n (ints (yx S 0 (vk C) O))) (yx S 0 (vk C) O) (by omega) (by omega) (by have:=Ap h (yx S 0 (vk C) O);rwa [lr]at this)
     have c':M≤m:=by
      rw[k3,yx]
      rw[xN (by rw[wv,wl]) nd hO hr hz]
      exact(Dh (by rw[wv,wl]) nd hr (by omega)).2 c
     refine⟨h,_,tB ?_,rfl,rfl⟩
     clear k3 rd nd hr hz
     simp (disch:=omega)only[go_sem,vz,AP.f351L1,k1,k2,c']
 | K + 1, C, O, h, r, hC, hS, hp, hO, hz, hg, hf, hfl => by
   cases r with
   | more o c hne r =>
     have wl:(vk C).length=S.length:=by rw[←vJ 0 C,hS]
     have rd:Rd h (.aD wid 0 n 1) (ints C):=v8.yR (by
      rw[pD]
      exact⟨by rw[pD];omega,.inr ⟨wid,by rw[hC],hg,hf,by omega⟩⟩)
     have k1:=JC h _ C (by omega) (by omega) rd hp
     have e:zU C=vN S (vq (vk C)) O:=by
      unfold zU
      rw[hS,hC]
      exact(xN (by rw[wv,wl]) nd hO hr hz).symm
     rw[hC,e]at k1
     have lr:(vN S (vq (vk C)) O).length=n:=by rw[wA,hO]
     obtain⟨M,k2,k3⟩:=LS h (zd 1 n (ints (vN S (vq (vk C)) O))) (vN S (vq (vk C)) O) (by omega) (by omega) (by have:=Ap h (vN S (vq (vk C)) O);rwa [lr]at this)
     have c':¬M≤m:=by
      rw[k3]
      rw[xN (by rw[wv,wl]) nd hO hr hz]
      intro q
      have:=(Dh (by rw[wv,wl]) nd hr (by omega)).1 q
      omega
     have hpn:∀y∈C,0≤y:=fun y hy=>(hp y hy).1
     obtain⟨s1,s2⟩:=B9 0 C hpn
     obtain⟨h1,L,g1,f1,n1,_⟩:=Db (mv:=.int .i64 m) hn C [] h (by simpa using hC) (fun y hy=>by have:=hp y hy;omega) hg hf hfl
     have L':Lp AP.A [1,7,55,56,57] AP.f351L0 [(1,.int .i64 m),(7,.aD wid 0 n 1),(55,.aD wid 0 n 1),(56,.int .i64 n),(57,.int .i64 0)] h=_:=L
     obtain⟨h',v,L2,r2,f2⟩:=H9 hn1 hn nd hr K (we C) (vN S (vq (vk C)) O) h1 (by rw[s2];exact r) (by rw[zJ,hC]) (by rw[s1,hS]) (IM hp) (by rw[wA,hO]) (fun p hp hq=>by rw[wK _ _ _ _ hq];exact hz p hp hq) g1 (by omega) (by omega)
     refine⟨h',v,sW ?_ L2,by rw[r2,s2];rfl,by omega⟩
     clear k3 rd nd hr hz L L2 r2 hp hpn g1
     simp (disch:=omega)only[go_sem,vz,AP.f351L1,k1,k2,c',ze,rR,L']
theorem E1 (h : H) (x : AV) (C : List Int) (m K : Nat) (h2 : 2 ≤ C.length) (hn : C.length ≤ 288) (rd : Rd h x (ints C)) (hm : 1 ≤ m ∧ m ≤ 15) (hr : ∀ y ∈ C, 0 ≤ y ∧ y ≤ 2147483647) (hs : yn C ≤ 2 ^ m) (ro : wP m K (wI C)) :
 aQ AP.A 351 [x,.int .i64 m] h=some (.bO [zd 1 C.length (ints (vZ C K)),.int .i64 0],h):=by
 have yR:Rd h.dL x (ints C):=rd.mono (vu h)
 have ln:=rd.len
 rw[pD]at ln
 simp only[I]at ln
 have pos:∀y∈C,0≤y:=fun y hy=>(hr y hy).1
 have kb:=CD Iz (x:=x) (fv:=.fn 357 [] []) (cs:=ints C) (fun v hv g=>by
  obtain⟨n,_,rfl⟩:=R6.1 hv
  rw[nD];exact OT n g) (by rw[pD];omega) h.dL yR
 have nb:(ints C).any Iz=false:=by
  rw[List.any_eq_false]
  intro v hv
  obtain⟨n,hn',rfl⟩:=R6.1 hv
  have:=hr n hn'
  simp [Iz,I];omega
 rw[nb]at kb
 have ku:=KJ h.dL x C yR (by omega)
 have s1:oW .shl .i64 1 (m:Int)=some (.int .i64 ((2^m:Nat):Int)):=by
  have:=Ba (a:=1) (s:=m) (by omega) (by
   have:2^m≤2^15:=Se (by omega) hm.2
   omega)
  rwa [Nat.one_mul]at this
 have kc:=K3 h.dL x C yR (by omega) (by omega) (by simp)
 obtain⟨g,eg⟩:∃g,g=((h.dL.alloc []).del h.dL.next).alloc (ints C):=⟨_,rfl⟩
 rw[←eg]at kc
 have gg:g.get (h.next+1)=some (ints C):=by rw[eg,vp (by simp)]
 have gf:g.floor=h.next:=by rw[eg];simp
 have gn:g.next=h.next+2:=by rw[eg];simp
 have rdg:Rd g (.aD (h.next+1) 0 C.length 1) (ints C):=v8.yR (by
  rw[pD]
  exact⟨by rw[pD];omega,.inr ⟨h.next+1,rfl,gg,by omega,by omega⟩⟩)
 have ku2:=KJ g _ C rdg (by omega)
 obtain ⟨g2, P, q1, q2, q3⟩ : ∃ g2, aK (aQ AP.A) bu (at_ 4 AP.f351.body) [(1, .int .i64 m), (7, .aD (h.next + 1) 0 C.length 1)] g = some (.normal, [(1, .int .i64 m), (7, .aD (h.next + 1) 0 C.length 1)], g2) ∧ g2.get (h.next + 1) = some (ints (C8 C)) ∧ g2.floor = h.next ∧ g2.next = h.next + 2 := by
  unfold C8
  by_cases c:yn C=1
  · rw [if_pos c]
    have z0:(0:Int)∈C:=by
     refine Sg fun q=> ?_
     have:∀D:List Int,(∀y∈D,0<y)→(vk D).length=D.length:=by
      intro D
      induction D with
      |nil=>intro _;rfl
      |cons y D ih=>intro h;rw[vk,if_pos (h y (by simp)),RX,RX,ih fun z hz=>h z (by simp [hz])]
     have:=this C fun y hy=>by
      have:=pos y hy
      by_cases e:y=0
      · subst e;exact absurd hy q
      · omega
     unfold yn at c
     omega
    have kx:=Qd g _ C rdg (by omega) z0
    have il : yY C < C.length := by
     have:∀D:List Int,(0:Int)∈D→yY D<D.length:=by
      intro D
      induction D with
      |nil=>intro h;simp at h
      | cons y D ih =>
        intro h
        rw[yY,RX]
        split
        · omega
        · rename_i e
          rcases uY.1 h with q|q
          · exact absurd q.symm e
          · have:=ih q;omega
     exact this C z0
    rw[c]at ku2
    have st:=yg C (yY C) 1
    refine⟨g.set (h.next+1) (ints (C.set (yY C) 1)), ?_,by rw[vA rfl,gg];rfl,by simpa using gf,by simpa using gn⟩
    have lC:(ints C).length=C.length:=pD C
    have gfl:g.floor≤h.next+1:=by omega
    have ib:cM (.int .i64 (yY C:Nat)) C.length=some (yY C):=by simp [cM,ny,il]
    rw[←st]
    clear rd yR rdg kb ku kc s1 ro hr pos nb st eg
    generalize ints C=A at *
    generalize yY C=i at *
    generalize C.length=n at *
    simp (disch:=omega)only[go_sem,vz,AP.f351,zX,AB,ku2,kx,ib,gg,gfl,lC]
  · rw[if_neg c]
    have cb:(((yn C:Nat):Int)==1)=false:=by simp;omega
    refine⟨g, ?_,gg,gf,gn⟩
    clear rd yR rdg kb ku kc s1 ro hr pos nb eg
    simp (disch:=omega)only[go_sem,vz,AP.f351,zX,AB,ku2,cb]
 obtain⟨p1,p2⟩:=Ot pos h2
 have so:=Es (C8 C)
 have ppos:∀y∈C8 C,0≤y∧y≤2147483647:=fun y hy=>by
  unfold C8 at hy
  split at hy
  · rcases Ss hy with q|q
    · exact hr y q
    · omega
  · exact hr y hy
 obtain⟨h',v,L,ev,fl'⟩:=H9 (m:=m) (n:=C.length) (wid:=h.next+1) (by omega) (by omega) so.nd (fun s hs=>by have:=so.Ox s hs;rw[Gs]at this;omega) K (C8 C) (List.replicate C.length 0) g2 (by rw[p2];exact ro) (Gs C) rfl ppos (by simp) (fun p hp _=>by rw[Sl,if_pos hp]) q1 (by omega) (by omega)
 rw[p1,p2]at ev
 have ev':v=zd 1 C.length (ints (vZ C K)):=ev
 have lo:(vZ C K).length=C.length:=yJ C K
 refine tL (fn:=AP.f351) (h2:=h') (e:=[(4,v),(5,.int .i64 0)]) (vs:=[v,.int .i64 0]) rfl rfl rfl ?_ rfl ?_
 · have hb:AP.f351.body=.seq (at_ 0 AP.f351.body) (.seq (at_ 1 AP.f351.body) (.seq (at_ 2 AP.f351.body) (.seq (at_ 3 AP.f351.body) (.seq (at_ 4 AP.f351.body) (KS 5 AP.f351.body))))):=rfl
   have c1:¬(C.length:Int)<2:=by omega
   have c2:¬(288:Int)<(C.length:Int):=by omega
   have c3:¬(m:Int)<1:=by omega
   have c4:¬(15:Int)<(m:Int):=by omega
   have c5:¬((2^m:Nat):Int)<(yn C:Nat):=by omega
   have a012:aK (aQ AP.A) bu (.seq (at_ 0 AP.f351.body) (.seq (at_ 1 AP.f351.body) (at_ 2 AP.f351.body))) (params 0 [x,.int .i64 m]) h.dL=some (.normal,[(0,x),(1,.int .i64 m)],h.dL):=by
    clear rd yR rdg kc ro hr pos nb eg L P ku2 so ppos
    generalize 2^m=M at *
    simp (disch:=omega)only[go_sem,vz,AP.f351,zX,AB,ln,c1,c2,kb,c3,c4,s1,ku,c5]
   have a3:aK (aQ AP.A) bu (at_ 3 AP.f351.body) [(0,x),(1,.int .i64 m)] h.dL=some (.normal,[(1,.int .i64 m),(7,.aD (h.next+1) 0 C.length 1)],g):=by
    clear rd yR rdg ro hr pos nb eg L P ku2 so ppos
    have kc':aQ AP.A 118 [x] h.dL=some (.aD (h.next+1) 0 C.length 1,g):=kc
    simp (disch:=omega)only[go_sem,vz,AP.f351,zX,AB,kc']
   have a5:aK (aQ AP.A) bu (KS 5 AP.f351.body) [(1,.int .i64 m),(7,.aD (h.next+1) 0 C.length 1)] g2=some (.ret,[(4,v),(5,.int .i64 0)],h'):=by
    clear rd yR rdg ro hr pos nb eg P ku2 so ppos
    simp (disch:=omega)only[go_sem,vz,AP.f351,LC,Lz,rR,L]
   rw[hb]
   refine Ql a012 ?_
   rw[rF,a3,su,rF,P,su,a5]
 · have s1:snap h'.get h.next 15 true v=some v:=by
    rw[ev'];unfold zd;split<;>rfl
   show(fy (snap h'.get h.next 15 true) [v,.int .i64 0]).bind _=_
   rw[←ev']
   simp only[fy,s1,uE]
   rfl
theorem Dv : ∀ (ts : List Tok) (s : Int), vE s ts = true → ∀ t ∈ ts, xU t ∧ (t.len ≠ 0 → t.lit = 0)
 |[],_,_,t,ht=>by simp at ht
 | k :: ts, s, h, t, ht => by
   rw[vE]at h
   cases e:wc s k with
   |none=>rw[e]at h;cases h
   | some s' =>
     rw[e]at h
     simp only at h
     by_cases c:8192<s'
     · rw[if_pos c]at h;cases h
     · rw [if_neg c] at h
       rcases uY.1 ht with q|q
       · subst q
         unfold wc at e
         by_cases z:t.len=0
         · rw[if_pos z]at e
           split at e
           · cases e
           · exact⟨.inl ⟨z,by omega,by omega⟩,fun n=>absurd z n⟩
         · rw[if_neg z]at e
           split at e
           · cases e
           · exact⟨.inr ⟨by omega,by omega,by omega,by omega⟩,fun _=>by omega⟩
       · exact Dv ts s' h t q
theorem HQ : ∀ (ts : List Tok) (o : List Nat), vE o.length ts = true → o.length + ts.length ≤ (xq ts o).length
 |[],o,_=>by simp [xq]
 | t :: r, o, h => by
   rw[vE]at h
   cases e:wc o.length t with
   |none=>rw[e]at h;cases h
   | some s' =>
     rw[e]at h
     simp only at h
     have z:=Ac e
     have p:(o.length:Int)+1≤s':=by
      unfold wc at e
      split at e
      · split at e
        · cases e
        · have:=uv e;omega
      · split at e
        · cases e
        · have:=uv e;omega
     by_cases c:8192<s'
     · rw[if_pos c]at h;cases h
     · rw[if_neg c,←z]at h
       have:=HQ r (vL o t) h
       rw[xq,RX];omega
theorem JH {ts:List Tok} (h:DC ts=true):vE 0 ts=true∧ts.length≤300∧(∀t∈ts,xU t)∧(∀t∈ts,t.len≠0→t.lit=0)∧(xq ts []).length≤300:=by
 unfold DC yu at h
 by_cases m:vE 0 ts=true
 · rw[if_pos m]at h
   simp only[vS,decide_eq_true_eq]at h
   have:=HQ ts [] m
   have o:=Dv ts 0 m
   exact⟨m,by simp at this;omega,fun t ht=>(o t ht).1,fun t ht=>(o t ht).2,h⟩
 · rw[if_neg m]at h;cases h
theorem Kb (h : H) (v : AV) (ts : List Tok) (hn : ts.length < 1125899906842624) (rd : yB 3 h v ts.length (wg ts)) : aQ AP.A 326 [v] h = some (if DC ts = true then .bO [.str (bytesOf (vH (v9 ts))), .int .i64 0] else .bO [.str ⟨#[]⟩, .int .i64 800], h) := by
 have rd0:yB 3 h.dL v ts.length (wg ts):=rd.mono fun i c q=>q
 have k1:=Kd h.dL v ts hn rd0
 by_cases HS:DC ts=true
 · rw [if_pos HS]
   rw[HS]at k1
   obtain⟨_,hl,tok,lit,_⟩:=JH HS
   have kf:=HU h.dL
   have kc:=zy h.dL (vX vG) vG (by rw[xp];omega) (by rw[xp];omega) (xS h.dL vG) (.inl (by rw[xK (by rw[xp];omega) (by rw[xp];omega) xk.Ox xk.left,if_pos CJ]))
   obtain⟨g,eg⟩:∃g,g=h.dL.alloc [.int .i64 5]:=⟨_,rfl⟩
   have hN:h.dL.next=h.next:=rfl
   have k5:aQ AP.A 43 [.aD h.next 0 1 1,.int .i64 30] g=some (vX xn,g):=by
    have r:=yj g (.aD h.next 0 1 1) 5 30 (by omega) ⟨by
     have gg:g.get h.next=some [.int .i64 5]:=by rw[eg,vp (by simp)]
     simp [aR,gg];rfl,by intro s e;cases e⟩
    exact r
   have l5:xn.length=30:=by simp [xn]
   have kc5:=zy g (vX xn) xn (by omega) (by omega) (xS g xn) (.inr (by rw[xK (by omega) (by omega) zH.Ox zH.left,if_neg (by rw[DT];omega)]))
   obtain⟨g2,eg2⟩:∃g2:H,g2=g:=⟨_,rfl⟩
   have gfl:g.floor=h.next:=by rw[eg];simp
   have gnx:g.next=h.next+1:=by rw[eg];simp
   have x0:=KK (h:=g) (by omega)
   obtain⟨h1,o1,p1,w1,f1⟩:=xR x0.wr 1 1 (by omega) (by omega) (by simp)
   have x1:=x0.step w1 f1
   obtain⟨h2,o2,p2,w2,f2⟩:=xR x1.wr 1 2 (by omega) (by omega) (by simp [vt,vC])
   have x2:=x1.step w2 f2
   have kn:aQ AP.A 345 [] g=some (.aC g.next 0,g.alloc [.aO,.int .i64 0]):=by
    refine tq (fn:=AP.f345) (e:=[(0,.aC g.next 0)]) (vs:=[.aC g.next 0]) rfl rfl rfl ?_ rfl
    simp (disch:=omega)only[go_sem,vz,AP.f345]
   have kb:aQ AP.A 333 [.int .i64 1] g=some (.aC g.next 0,h2):=by
    refine tq (fn:=AP.f333) (e:=[(2,.aC g.next 0)]) (vs:=[.aC g.next 0]) rfl rfl rfl ?_ rfl
    clear x0 x1 x2
    have k1':aQ AP.A 335 [.aC g.next 0,.int .i64 1,.int .i64 1] (g.alloc [.aO,.int .i64 0])=some (.int .i64 0,h1):=p1
    have k2':aQ AP.A 335 [.aC g.next 0,.int .i64 1,.int .i64 2] h1=some (.int .i64 0,h2):=p2
    simp (disch:=omega)only[go_sem,vz,AP.f333,kn,k1',k2']
   have rdg:yB 3 g v ts.length (wg ts):=rd0.mono fun i c q=>by
    have:=h.lt i c q
    rw[eg,vn (by simp;omega)];exact q
   obtain⟨h3,k3⟩:=Ib (by omega) g rdg (zD g vG) (zD g xn) (fun t ht=>⟨DU (tok t ht),tok t ht,lit t ht⟩) (AA xk yG (by rw[xp];omega)) g.next _ h2 o2 x2 (by simp [vt,vC];omega)
   have e:[]++vt 1 1++vt 1 2++(v5 (u7 vG) (u7 xn) ts++vj (u7 vG) 256)=v9 ts:=by
    have:([]:List Nat)++vt 1 1++vt 1 2=vt 3 3:=by decide
    rw[this];rfl
   rw[e]at k3
   refine tL (fn:=AP.f326) (h2:=h3) (e:=[(2,.str (bytesOf (vH (v9 ts)))),(3,.int .i64 0)]) (vs:=[.str (bytesOf (vH (v9 ts))),.int .i64 0]) rfl rfl rfl ?_ rfl rfl
   clear x0 w1 f1 w2 f2 x1 x2 p1 p2 e rd rd0 rdg eg2
   generalize bytesOf (vH (v9 ts))=SB at *
   have ic:(vX vG).cells=[vX vG]:=rfl
   generalize vX vG=I1 at *
   generalize vX xn=I2 at *
   generalize zh vG=C1 at *
   generalize zh xn=C2 at *
   rw[gnx]at kb k3
   simp (disch:=omega)only[go_sem,vz,AP.f326,hN,k1,kf,kc,←eg,k5,kc5,kb,k3]
 · rw[if_neg HS]
   rw[Bool.eq_false_iff.2 HS]at k1
   refine tL (fn:=AP.f326) (h2:=h.dL) (e:=[(2,.str ⟨#[]⟩),(3,.int .i64 800)]) (vs:=[.str ⟨#[]⟩,.int .i64 800]) rfl rfl rfl ?_ rfl rfl
   clear rd rd0
   simp (disch:=omega)only[go_sem,vz,AP.f326,k1]
theorem I5 {v:AV} {ts:List Tok} (hn:ts.length<1000000) (h0:H) (rd:yB 3 h0 v ts.length (wg ts)) (ia ib i:Nat) (t:Tok) (ht:ts[i]?=some t) (o:xU t) (tl:t.len≠0→t.lit=0) (hab:ia≠ib) (hia:h0.next≤ia) (hib:h0.next≤ib) {A B:List Int} {h:H} (hx:Ext h0 h) (ga:h.get ia=some (ints A)) (gb:h.get ib=some (ints B)) (hA:A.length=286) (hB:B.length=30) (rA:∀y∈A,0≤y∧y≤(i:Int)+1) (rB:∀y∈B,0≤y∧y≤(i:Int)+1) (fa:h.floor≤ia) (fb:h.floor≤ib) (hfl:h.floor≤h.next):
 ∃h',aK (aQ AP.A) bu AP.f340L0 (ax [(4,.aD ia 0 286 1),(5,.aD ib 0 30 1),(19,v),(20,.int .i64 ts.length),(21,.int .i64 i)] [4,5,19,20,21]) h=some (.normal,[(4,.aD ia 0 286 1),(5,.aD ib 0 30 1),(19,v),(20,.int .i64 ts.length),(21,.int .i64 (i+1:Nat))],h')∧h'.get ia=some (ints (zf [t] A))∧h'.get ib=some (ints (zS [t] B))∧KN h h' ia ib:=by
 obtain⟨ad,a1,a2,a3⟩:=rd.OG
 have hi:i<ts.length:=(uD.1 ht).1
 have hI:(0:Int)≤(i:Int)∧(i:Int)<ts.length:=⟨by omega,by omega⟩
 have b1:=a1 _ hI
 obtain⟨_,_,_,b2⟩:=a3 h hx _ _ ht
 have n1:((i+1:Nat):Int)=(i:Int)+1:=by omega
 have ci:(i:Int)<(ts.length:Int):=hI.2
 have la:(ints A).length=286:=by rw[pD,hA]
 have lb:(ints B).length=30:=by rw[pD,hB]
 have hian:=h.lt _ _ ga
 have hibn:=h.lt _ _ gb
 have step:∀(S B1 V S' B' V':Nat) (cp:Bool),(∀g:H,aQ AP.A 349 [.agg [.int .i64 t.lit,.int .i64 t.len,.int .i64 t.vP]] g=some (.bO [.agg [.int .i64 S,.int .i64 B1,.int .i64 V],.agg [.int .i64 S',.int .i64 B',.int .i64 V'],.bool cp],g))→S<286→S'<30→
  ∃h',aK (aQ AP.A) bu AP.f340L0 (ax [(4,.aD ia 0 286 1),(5,.aD ib 0 30 1),(19,v),(20,.int .i64 ts.length),(21,.int .i64 i)] [4,5,19,20,21]) h=some (.normal,[(4,.aD ia 0 286 1),(5,.aD ib 0 30 1),(19,v),(20,.int .i64 ts.length),(21,.int .i64 (i+1:Nat))],h')∧h'.get ia=some (ints (wQ A S))∧h'.get ib=some (ints (if cp=true then wQ B S' else B))∧KN h h' ia ib:=by
  intro S B1 V S' B' V' cp ks hS hS'
  obtain⟨g1,eg1⟩:∃g,g=(h.alloc [.int .i64 0,.int .i64 0,.int .i64 0]).set h.next [.int .i64 t.lit,.int .i64 t.len,.int .i64 t.vP]:=⟨_,rfl⟩
  obtain⟨g2,eg2⟩:∃g,g=(((g1.alloc [.int .i64 0,.int .i64 0,.int .i64 0]).alloc [.int .i64 0,.int .i64 0,.int .i64 0]).set g1.next [.int .i64 S,.int .i64 B1,.int .i64 V]).set (g1.next+1) [.int .i64 S',.int .i64 B',.int .i64 V']:=⟨_,rfl⟩
  have n1':g1.next=h.next+1:=by rw[eg1];simp
  have n2':g2.next=h.next+3:=by rw[eg2];simp;omega
  have f2':g2.floor=h.floor:=by rw[eg2,eg1];simp
  have gt1:g1.get h.next=some [.int .i64 t.lit,.int .i64 t.len,.int .i64 t.vP]:=by rw[eg1,vA rfl,vp rfl];rfl
  have gk1:∀j,j<h.next→g1.get j=h.get j:=fun j hj=>by rw[eg1,u9 (by omega),vn (by omega)]
  have gk2:∀j,j<h.next→g2.get j=h.get j:=fun j hj=>by rw[eg2,u9 (by omega),u9 (by omega),vn (by simp;omega),vn (by omega),gk1 j hj]
  have gS:g2.get g1.next=some [.int .i64 S,.int .i64 B1,.int .i64 V]:=by rw[eg2,u9 (by omega),vA rfl,vn (by simp),vp rfl];rfl
  have gT:g2.get (g1.next+1)=some [.int .i64 S',.int .i64 B',.int .i64 V']:=by rw[eg2,vA rfl,u9 (by omega),vp (by simp)];rfl
  have hA2:((g1.alloc [.int .i64 0,.int .i64 0,.int .i64 0]).alloc [.int .i64 0,.int .i64 0,.int .i64 0]).get g1.next=some [.int .i64 0,.int .i64 0,.int .i64 0]:=by rw[vn (by simp),vp rfl]
  have hB2:(((g1.alloc [.int .i64 0,.int .i64 0,.int .i64 0]).alloc [.int .i64 0,.int .i64 0,.int .i64 0]).set g1.next [.int .i64 S,.int .i64 B1,.int .i64 V]).get (g1.next+1)=some [.int .i64 0,.int .i64 0,.int .i64 0]:=by rw[u9 (by omega),vp (by simp)]
  have fl1:h.floor≤h.next:=hfl
  have flg:g1.floor≤g1.next:=by rw[n1',eg1];simp;omega
  have ga2:g2.get ia=some (ints A):=by rw[gk2 ia hian,ga]
  have gb2:g2.get ib=some (ints B):=by rw[gk2 ib hibn,gb]
  have gx:=AO (l:=A) (i:=S) (by omega)
  have gy:=AO (l:=B) (i:=S') (by omega)
  have xr:0≤A.getD S 0∧A.getD S 0≤(i:Int)+1:=by
   rw[RW,RY (by omega)]
   exact rA _ (Sd _)
  have yr:0≤B.getD S' 0∧B.getD S' 0≤(i:Int)+1:=by
   rw[RW,RY (by omega)]
   exact rB _ (Sd _)
  have es:=yg A S (A.getD S 0+1)
  have et:=yg B S' (B.getD S' 0+1)
  change _=ints (wQ A S)at es
  change _=ints (wQ B S')at et
  have iS:cM (.int .i64 (S:Nat)) 286=some S:=by
   have:(S:Int)<((286:Nat):Int):=by omega
   simp [cM,ny];omega
  have iT:cM (.int .i64 (S':Nat)) 30=some S':=by
   simp [cM,ny];omega
  have ibd:i<1000000:=by omega
  have g3b:(g2.set ia (ints (wQ A S))).get ib=some (ints B):=by rw[u9 hab.symm,gb2]
  have g3T:(g2.set ia (ints (wQ A S))).get (g1.next+1)=some [.int .i64 S',.int .i64 B',.int .i64 V']:=by rw[u9 (by omega),gT]
  have fa2:g2.floor≤ia:=by omega
  have fb2:g2.floor≤ib:=by omega
  cases cp with
  | false =>
    refine⟨g2.set ia (ints (wQ A S)), ?_,by rw[vA rfl,ga2];rfl,by rw[u9 hab.symm,gb2];rfl,⟨by simp [f2'],by simp [n2'],fun j h1 h2 _=>by rw[u9 h2,gk2 j h1]⟩⟩
    rw[n1]
    clear rd a1 a2 a3 hx rA rB gk1 gk2 et
    generalize A.getD S 0=z at *
    generalize ints (wQ A S)=A2 at *
    generalize ints A=A0 at *
    generalize ints B=B0 at *
    simp (disch:=omega)only[go_sem,vz,AP.f340L0,ci,b1,b2,←eg1,gt1,ks,hA2,hB2,←eg2,gS,iS,ga2,la,gx,es,fa2,KR,uO,SF,Si]
  | true =>
    refine⟨(g2.set ia (ints (wQ A S))).set ib (ints (wQ B S')), ?_,by rw[u9 hab,vA rfl,ga2];rfl,by rw[vA rfl,g3b];rfl,⟨by simp [f2'],by simp [n2'],fun j h1 h2 h3=>by rw[u9 h3,u9 h2,gk2 j h1]⟩⟩
    rw[n1]
    clear rd a1 a2 a3 hx rA rB gk1 gk2
    generalize A.getD S 0=z at *
    generalize B.getD S' 0=z' at *
    generalize ints (wQ A S)=A2 at *
    generalize ints (wQ B S')=B2 at *
    generalize ints A=A0 at *
    generalize ints B=B0 at *
    simp (disch:=omega)only[go_sem,vz,AP.f340L0,ci,b1,b2,←eg1,gt1,ks,hA2,hB2,←eg2,gS,iS,ga2,la,gx,es,fa2,fb2,g3b,g3T,iT,lb,gy,et,KR,uO,SF,Si]
 rcases o with ⟨c0,h2,h3⟩|⟨h1,h2,h3,h4⟩
 · obtain⟨y,hy⟩:∃y:Nat,t.lit=y:=R4 h2
   have yt:t.lit.toNat=y:=by omega
   obtain⟨h',k,q1,q2,q3⟩:=step y 0 0 0 0 0 false (fun g=>by rw[hy,c0];exact GN g y t.vP) (by omega) (by omega)
   refine⟨h',k, ?_, ?_,q3⟩
   · rw[q1,zf,if_pos c0,yt];rfl
   · rw[q2,zS,if_pos c0];rfl
 · obtain⟨L,hL⟩:∃y:Nat,t.len=y:=R4 (by omega)
   obtain⟨K,hK⟩:∃y:Nat,t.vP=y:=R4 (by omega)
   have Lt:t.len.toNat=L:=by omega
   have Kt:t.vP.toNat=K:=by omega
   have sl:=yc (k:=L) (by omega) (by omega)
   have sd:=xY (k:=K) (by omega) (by omega)
   obtain⟨h',k,q1,q2,q3⟩:=step (xu L) (zo L) (Ag L) (xQ K) (zT K) (AM K) true (fun g=>by rw[tl (by omega),hL,hK];exact Et g L K (by omega) (by omega) (by omega) (by omega)) (by omega) (by omega)
   refine⟨h',k, ?_, ?_,q3⟩
   · have z:¬t.len=0:=by omega
     rw[q1,zf,if_neg z,Lt];rfl
   · have z:¬t.len=0:=by omega
     rw[q2,zS,if_neg z,Kt];rfl
theorem Eg {v:AV} {ts:List Tok} (hn:ts.length<1000000) (h0:H) (rd:yB 3 h0 v ts.length (wg ts)) (ia ib:Nat) (ok:∀t∈ts,xU t) (lit:∀t∈ts,t.len≠0→t.lit=0) (hab:ia≠ib) (hia:h0.next≤ia) (hib:h0.next≤ib):∀(q p:List Tok) (A B:List Int) (h:H),ts=p++q→Ext h0 h→h0.next≤h.next→h.get ia=some (ints A)→h.get ib=some (ints B)→A.length=286→B.length=30→(∀y∈A,0≤y∧y≤(p.length:Int)+1)→(∀y∈B,0≤y∧y≤(p.length:Int)+1)→h.floor≤ia→h.floor≤ib→h.floor≤h.next→
 ∃h',Lp AP.A [4,5,19,20,21] AP.f340L0 [(4,.aD ia 0 286 1),(5,.aD ib 0 30 1),(19,v),(20,.int .i64 ts.length),(21,.int .i64 p.length)] h=some (.exit 0,[(4,.aD ia 0 286 1),(5,.aD ib 0 30 1),(19,v),(20,.int .i64 ts.length),(21,.int .i64 ts.length),(22,.bool false)],h')∧h'.get ia=some (ints (zf q A))∧h'.get ib=some (ints (zS q B))∧KN h h' ia ib
 | [], p, A, B, h, hp, hx, hnx, ga, gb, hA, hB, rA, rB, fa, fb, hfl => by
   rw[Sf]at hp;subst hp
   refine⟨h,sV ?_,ga,gb,KN.refl h ia ib⟩
   simp (disch:=omega)only[go_sem,vz,AP.f340L0]
 | t :: q, p, A, B, h, hp, hx, hnx, ga, gb, hA, hB, rA, rB, fa, fb, hfl => by
   have ht:ts[p.length]?=some t:=by rw[hp];simp
   have hm:=uL ht
   obtain⟨h1,s1,ga1,gb1,f1⟩:=I5 hn h0 rd ia ib p.length t ht (ok t hm) (lit t hm) hab hia hib hx ga gb hA hB rA rB fa fb hfl
   have n1:(((p++[t]).length:Nat):Int)=((p.length+1:Nat):Int):=by simp
   have hx1:Ext h0 h1:=fun j c hj=>by
    have:=h0.lt _ _ hj
    rw[f1.vR j (by omega) (by omega) (by omega),hx j c hj]
   obtain⟨h',k,g1,g2,f2⟩:=Eg hn h0 rd ia ib ok lit hab hia hib q (p++[t]) (zf [t] A) (zS [t] B) h1 (by rw[hp];simp) hx1 (uZ hnx f1.next) ga1 gb1 (by rw[Cu,hA]) (by rw[Cw,hB]) (fun y hy=>by have:=Cv [t] A _ (by omega) rA y hy;simp at this ⊢;omega) (fun y hy=>by have:=Cx [t] B _ (by omega) rB y hy;simp at this ⊢;omega) (by rw[f1.floor];exact fa) (by rw[f1.floor];exact fb) (by rw[f1.floor];exact uZ hfl f1.next)
   rw[n1]at k
   exact⟨h',sW s1 k,g1,g2,f1.trans f2⟩
theorem Dx (C:List Int):yn C≤C.length:=by
 unfold yn;rw[←vJ 0 C];exact wC 0 C
theorem Fa {h:H} {id n:Nat} {l:List Int} (g:h.get id=some (ints l)) (hl:l.length=n):Rd h (.aD id 0 n 1) (ints l):=by
 refine⟨?_,by intro s e;cases e⟩
 have:(ints l).length=n:=by rw[pD];exact hl
 simp [aR,g,this,uW]
theorem Hs (h:H) (v:AV) (ts:List Tok) (KA KB:Nat) (hn:ts.length≤300) (ok:∀t∈ts,xU t) (lit:∀t∈ts,t.len≠0→t.lit=0) (ra:wP 15 KA (wI (dA ts))) (rb:wP 15 KB (wI (dB ts))) (rd:yB 3 h v ts.length (wg ts)):
 aQ AP.A 340 [v] h=some (.bO [zd 1 286 (ints (vZ (dA ts) KA)),zd 1 30 (ints (vZ (dB ts) KB))],h):=by
 have rd0:yB 3 h.dL v ts.length (wg ts):=rd.mono fun i c q=>q
 have ln:=rd.len
 have hN:h.dL.next=h.next:=rfl
 obtain⟨g,eg⟩:∃g,g=(h.dL.alloc (xE 286 [.int .i64 0])).alloc (xE 30 [.int .i64 0]):=⟨_,rfl⟩
 have gA:g.get h.next=some (ints (List.replicate 286 0)):=by rw[eg,vn (by simp),vp (by simp),y7]
 have gB:g.get (h.next+1)=some (ints (List.replicate 30 0)):=by rw[eg,vp (by simp),y7]
 have gf:g.floor=h.next:=by rw[eg];simp
 have gn:g.next=h.next+2:=by rw[eg];simp
 obtain⟨g1,eg1⟩:∃g1,g1=g.set h.next (ints ((List.replicate 286 0).set 256 1)):=⟨_,rfl⟩
 have gA1:g1.get h.next=some (ints ((List.replicate 286 0).set 256 1)):=by rw[eg1,vA rfl,gA];rfl
 have gB1:g1.get (h.next+1)=some (ints (List.replicate 30 0)):=by rw[eg1,u9 (by omega),gB]
 have x1:Ext h.dL g1:=by rw[eg1,eg];exact(((Ext.refl _).alloc _).alloc _).set (by simp) _
 obtain⟨h',L,q1,q2,f2⟩:=Eg (by omega) h.dL rd0 h.next (h.next+1) ok lit (by omega) (by simp) (by simp) ts [] ((List.replicate 286 0).set 256 1) (List.replicate 30 0) g1 rfl x1 (by rw[eg1];simp;omega) gA1 gB1 (by simp) (by simp) (fun y hy=>by
  rcases Ss hy with q|q
  · have:=So q;omega
  · simp;omega) (fun y hy=>by have:=So hy;simp;omega) (by rw[eg1];simp;omega) (by rw[eg1];simp;omega) (by rw[eg1];simp;omega)
 have L':Lp AP.A [4,5,19,20,21] AP.f340L0 [(4,.aD h.next 0 286 1),(5,.aD (h.next+1) 0 30 1),(19,v),(20,.int .i64 ts.length),(21,.int .i64 0)] g1=_:=L
 obtain⟨a1,a2,a3⟩:=HO ts hn
 obtain⟨b1,b2⟩:=HP ts hn
 change h'.get h.next=some (ints (dA ts))at q1
 change h'.get (h.next+1)=some (ints (dB ts))at q2
 have k1:=E1 h' (.aD h.next 0 286 1) (dA ts) 15 KA (by omega) (by omega) (Fa q1 a1) (by omega) a2 (by have:=Dx (dA ts);omega) ra
 have k2:=E1 h' (.aD (h.next+1) 0 30 1) (dB ts) 15 KB (by omega) (by omega) (Fa q2 b1) (by omega) b2 (by have:=Dx (dB ts);omega) rb
 rw[a1]at k1
 rw[b1]at k2
 obtain⟨V1,e1⟩:∃V,V=zd 1 286 (ints (vZ (dA ts) KA)):=⟨_,rfl⟩
 obtain⟨V2,e2⟩:∃V,V=zd 1 30 (ints (vZ (dB ts) KB)):=⟨_,rfl⟩
 rw[←e1]at k1 ⊢
 rw[←e2]at k2 ⊢
 refine tL (fn:=AP.f340) (h2:=h') (e:=[(2,V1),(3,V2)]) (vs:=[V1,V2]) rfl rfl rfl ?_ rfl ?_
 · have st:(ints (List.replicate 286 0)).set 256 (.int .i64 1)=ints ((List.replicate 286 0).set 256 1):=yg _ _ _
   have lA:(ints (List.replicate 286 0)).length=286:=by simp
   have ga':g.get h.next=some (ints (List.replicate 286 0)):=gA
   have k1':aQ AP.A 351 [.aD h.next 0 286 1,.int .i64 15] h'=some (.bO [V1,.int .i64 0],h'):=k1
   have k2':aQ AP.A 351 [.aD (h.next+1) 0 30 1,.int .i64 15] h'=some (.bO [V2,.int .i64 0],h'):=k2
   rw[←st]at eg1
   clear L q1 q2 f2 x1 rd rd0 ra rb a2 b2 k1 k2 gB gA1 gB1 st ok lit
   generalize ints (List.replicate 286 0)=A0 at *
   have hN2:(h.dL.alloc (xE 286 [.int .i64 0])).next=h.next+1:=by simp
   simp (disch:=omega)only[go_sem,vz,AP.f340,hN,hN2,←eg,ga',lA,gf,←eg1,ln,rR,L',k1',k2']
 · have s1:snap h'.get h.next 15 true V1=some V1:=by rw[e1];unfold zd;rfl
   have s2:snap h'.get h.next 15 true V2=some V2:=by rw[e2];unfold zd;rfl
   show(fy (snap h'.get h.next 15 true) [V1,V2]).bind _=_
   simp only[fy,s1,s2,uE]
theorem Ao {x : AV} {l : List Int} (hl : l.length < 1000) (pos : ∀ y ∈ l, 0 ≤ y) (h : H) (rd : Rd h x (ints l)) (k : Nat) : ∀ i : Nat, k ≤ i → i ≤ l.length →
 ∃e',Lp AP.A [0,1,5] AP.f342L0 [(0,x),(1,.int .i64 k),(5,.int .i64 i)] h=some (.exit 0,e',h)∧look e' 0=x∧look e' 5=.int .i64 (vI l k i:Nat)
 | 0, hk, hi => by
   obtain rfl:k=0:=by omega
   refine⟨[(0,x),(1,.int .i64 (0:Nat)),(5,.int .i64 (0:Nat)),(18,.bool false)],sV ?_,rfl,rfl⟩
   have c:¬((0:Nat):Int)<((0:Nat):Int):=by omega
   generalize ((0:Nat):Int)=z at *
   simp (disch:=omega)only[go_sem,vz,AP.f342L0,c]
 | i + 1, hk, hi => by
   by_cases c:i+1≤k
   · obtain rfl:k=i+1:=by omega
     refine⟨[(0,x),(1,.int .i64 (i+1:Nat)),(5,.int .i64 (i+1:Nat)),(18,.bool false)],sV ?_,rfl,by rw[vI,if_pos c];rfl⟩
     have c:¬((i+1:Nat):Int)<((i+1:Nat):Int):=by omega
     generalize ((i+1:Nat):Int)=z at *
     simp (disch:=omega)only[go_sem,vz,AP.f342L0,c]
   · obtain⟨ad,a1,a2⟩:=rd.xh
     have b1:=a1 i ⟨by omega,by omega⟩
     have lg:l[i]?=some (l.getD i 0):=by rw[RW,RY (by omega)];rfl
     have b2:=a2 h (Ext.refl h) i _ lg
     have yp:=pos _ (uL lg)
     have n1:((i+1:Nat):Int)-1=(i:Int):=by omega
     have c1:(k:Int)<((i+1:Nat):Int):=by omega
     rw[vI,if_neg c]
     generalize l.getD i 0=y at *
     have sb:((i+1:Nat):Int)<100000:=by omega
     have sb0:0≤((i+1:Nat):Int):=by omega
     by_cases c2:0<y
     · rw[if_pos c2]
       refine⟨[(0,x),(1,.int .i64 k),(5,.int .i64 (i+1:Nat)),(18,.bool false)],sV ?_,rfl,rfl⟩
       have cb:(y==0)=false:=by simp;omega
       generalize ((i+1:Nat):Int)=z at *
       clear rd a1 a2 pos
       simp (disch:=omega)only[go_sem,vz,AP.f342L0,c1,n1,b1,b2,cb]
     · rw[if_neg c2]
       have cb:(y==0)=true:=by simp;omega
       obtain⟨e',L,r1,r2⟩:=Ao hl pos h rd k i (by omega) (by omega)
       refine⟨e',sW ?_ L,r1,r2⟩
       clear L
       generalize ((i+1:Nat):Int)=z at *
       clear rd a1 a2 pos
       simp (disch:=omega)only[go_sem,vz,AP.f342L0,c1,n1,b1,b2,cb]
theorem En (h:H) (l:List Int) (h1:1≤l.length) (hl:l.length<1000) (pos:∀y∈l,0≤y) (k:Nat) (hk:k≤l.length):aQ AP.A 342 [zd 1 l.length (ints l),.int .i64 k] h=some (.aU false (ints l) 0 (vI l k l.length) 1,h):=by
 have ex:zd 1 l.length (ints l)=.aU false (ints l) 0 l.length 1:=by unfold zd;rw[if_neg (by omega)]
 rw[ex]
 have yR:Rd h.dL (.aU false (ints l) 0 l.length 1) (ints l):=by rw[←ex];exact Ap h.dL l
 obtain⟨e',L,r1,r2⟩:=Ao hl pos h.dL yR k l.length hk (uH _)
 have ur:=wG l k l.length
 have s1:rM h.dL 1 (.aU false (ints l) 0 l.length 1) none (some (.int .i64 (vI l k l.length:Nat))) none=some (.aU false (ints l) 0 (vI l k l.length) 1):=by
  have:vI l k l.length≤l.length:=by omega
  have q:(ints l).length=l.length:=pD l
  simp [rM,aA,jY,ny,q,this]
 refine tL (fn:=AP.f342) (h2:=h.dL) (e:=[(4,.aU false (ints l) 0 (vI l k l.length) 1)]) (vs:=[.aU false (ints l) 0 (vI l k l.length) 1]) rfl rfl rfl ?_ rfl rfl
 clear yR pos ex ur
 generalize vI l k l.length=U at *
 generalize ints l=P at *
 simp (disch:=omega)only[go_sem,vz,AP.f342,GZ,rR,L,r1,r2,s1]
theorem Jc (h:H) (id:Nat) (l:List Int) (g:h.get id=some (ints l)) (hl:l.length<1000) (pos:∀y∈l,0≤y) (k:Nat) (hk:k≤l.length):aQ AP.A 342 [.aD id 0 l.length 1,.int .i64 k] h=some (.aD id 0 (vI l k l.length) 1,h):=by
 have yR:Rd h.dL (.aD id 0 l.length 1) (ints l):=(Fa g rfl).mono (vu h)
 obtain⟨e',L,r1,r2⟩:=Ao hl pos h.dL yR k l.length hk (uH _)
 have ur:=wG l k l.length
 have gl:=h.lt _ _ g
 have s1:rM h.dL 1 (.aD id 0 l.length 1) none (some (.int .i64 (vI l k l.length:Nat))) none=some (.aD id 0 (vI l k l.length) 1):=by
  have q:(ints l).length=l.length:=pD l
  have:=LZ (h:=h.dL) (m:=(vI l k l.length:Nat)) (p:=id) (o:=0) (k:=l.length) (n:=1) g (by omega) (by omega) ⟨by omega,by simp;omega⟩
  rw[show(((vI l k l.length:Nat):Int)).toNat=vI l k l.length by omega]at this
  exact this
 refine tL (fn:=AP.f342) (h2:=h.dL) (e:=[(4,.aD id 0 (vI l k l.length) 1)]) (vs:=[.aD id 0 (vI l k l.length) 1]) rfl rfl rfl ?_ rfl ?_
 · clear yR pos ur
   generalize vI l k l.length=U at *
   simp (disch:=omega)only[go_sem,vz,AP.f342,ze,rR,L,r1,r2,s1]
 · show snap h.dL.get h.next 16 true (.aD id 0 _ 1)=_
   simp [snap,gl]
theorem DW {w:AV} {v1 v2 av:AV} {D:List Int} (hD:D.length<1000) (hr:∀d∈D,0≤d∧d<19) (ic:Nat) (hb:H) (rd:Rd hb av (ints D)) (hno:hb.get ic=none):∀(q p C:List Int) (h:H),D=p++q→Ext hb h→h.get ic=some (ints C)→C.length=19→(∀y∈C,0≤y∧y≤(p.length:Int))→h.floor≤ic→
 ∃h',Lp AP.A [0,1,2,6,7,28,29,30] AP.f341L3 [(0,w),(1,v1),(2,v2),(6,av),(7,.aD ic 0 19 1),(28,av),(29,.int .i64 D.length),(30,.int .i64 p.length)] h=some (.exit 0,[(0,w),(1,v1),(2,v2),(6,av),(7,.aD ic 0 19 1),(28,av),(29,.int .i64 D.length),(30,.int .i64 D.length),(31,.bool false)],h')∧h'.get ic=some (ints (xb q C))∧h'.floor=h.floor∧h'.next=h.next∧(∀i,i≠ic→h'.get i=h.get i)
 | [], p, C, h, hp, hx, gc, hC, rC, fc => by
   rw[Sf]at hp;subst hp
   refine⟨h,sV ?_,gc,rfl,rfl,fun _ _=>rfl⟩
   simp (disch:=omega)only[go_sem,vz,AP.f341L3]
 | d :: q, p, C, h, hp, hx, gc, hC, rC, fc => by
   have hl:D.length=p.length+(q.length+1):=by rw[hp];simp
   obtain⟨ad,a1,a2⟩:=rd.xh
   have b1:=a1 p.length ⟨by omega,by omega⟩
   have hd:D[p.length]?=some d:=by rw[hp];simp
   have b2:=a2 h hx p.length d hd
   have dr:=hr d (uL hd)
   have c1:((p.length:Nat):Int)<D.length:=by omega
   obtain⟨k,rfl⟩:=R4 dr.1
   have gx:=AO (l:=C) (i:=k) (by omega)
   have xr:0≤C.getD k 0∧C.getD k 0≤(p.length:Int):=by
    rw[RW,RY (by omega)]
    exact rC _ (Sd _)
   have es:=yg C k (C.getD k 0+1)
   change _=ints (wQ C k)at es
   have lC:(ints C).length=19:=by rw[pD,hC]
   have ib:cM (.int .i64 (k:Nat)) 19=some k:=by simp [cM,ny];omega
   obtain⟨h',L,g1,f1,n1,k1⟩:=DW hD hr ic hb rd hno q (p++[(k:Int)]) (wQ C k) (h.set ic (ints (wQ C k))) (by rw[hp];simp) (hx.Ii hno _) (by rw[vA rfl,gc];rfl) (by rw[xe,hC]) (fun y hy=>by
    have:=yI rC (by omega) y hy
    simp;omega) (by simpa using fc)
   have e1:xb ((k:Int)::q) C=xb q (wQ C k):=by rw[xb];rfl
   refine⟨h',sW ?_ L,by rw[e1];exact g1,by rw[f1];simp,by rw[n1];simp,fun i hi=>by rw[k1 i hi,u9 hi]⟩
   have n2:(((p++[(k:Int)]).length:Nat):Int)=(p.length:Int)+1:=by simp
   rw[n2]
   clear L rd a1 a2 g1 k1 rC hr hx
   generalize C.getD k 0=z at *
   generalize ints (wQ C k)=C2 at *
   generalize ints C=C1 at *
   simp (disch:=omega)only[go_sem,vz,AP.f341L3,c1,b1,b2,ib,gc,lC,gx,es,fc]
theorem DY {w v1 v2 av cv:AV} {Lc:List Int} (hL:Lc.length=19) (h0:H) (rd:Rd h0 cv (ints Lc)):∀(q p R:List Int) (h:H) (rv:AV),vw=p++q→Ext h0 h→h.floor≤h.next→v8 1 h rv R.length (ints R)→R.length=p.length→(∀j,rv.id?=some j→h0.next≤j)→h0.next≤h.next→
 ∃h' rv',Lp AP.A [0,1,2,6,10,12,46,47,48] AP.f341L2 [(0,w),(1,v1),(2,v2),(6,av),(10,cv),(12,rv),(46,vX vw),(47,.int .i64 19),(48,.int .i64 p.length)] h=some (.exit 2,[(0,w),(1,v1),(2,v2),(6,av),(10,cv),(12,rv'),(46,vX vw),(47,.int .i64 19),(48,.int .i64 19),(49,.bool false)],h')∧v8 1 h' rv' (R++q.map (fun o=>Lc.getD o.toNat 0)).length (ints (R++q.map (fun o=>Lc.getD o.toNat 0)))∧h'.floor=h.floor∧h.next≤h'.next∧(∀i,i<h0.next→h'.get i=h.get i)∧(∀j,rv'.id?=some j→h0.next≤j)
 | [], p, R, h, rv, hp, hx, hfl, o, hR, hid, hn => by
   have:p.length=19:=by
    have:=Sp List.length hp
    rw[Sf]at this
    rw[←this];rfl
   rw[this]
   refine⟨h,rv,sV ?_,by simpa using o,rfl,uH _,fun _ _=>rfl,hid⟩
   have c:¬((19:Nat):Int)<19:=by omega
   simp (disch:=omega)only[go_sem,vz,AP.f341L2,c]
 | d :: q, p, R, h, rv, hp, hx, hfl, o, hR, hid, hn => by
   have hl:19=p.length+(q.length+1):=by
    have:=Sp List.length hp
    simpa [vw]using this
   obtain⟨ad,a1,a2⟩:=(xS h vw).xh
   have ol:vw.length=19:=rfl
   have b1:=a1 p.length ⟨by omega,by omega⟩
   have hd:vw[p.length]?=some d:=by rw[hp];simp
   have b2:=a2 h (Ext.refl h) p.length d hd
   have dm:d∈vw:=uL hd
   have dr:0≤d∧d<19:=by
    have:∀y∈vw,0≤y∧y<19:=by decide
    exact this d dm
   have c1:((p.length:Nat):Int)<19:=by omega
   obtain⟨k,rfl⟩:=R4 dr.1
   obtain⟨cd,d1,d2⟩:=rd.xh
   have e1:=d1 k ⟨by omega,by omega⟩
   have lg:Lc[k]?=some (Lc.getD k 0):=by rw[RW,RY (by omega)];rfl
   have e2:=d2 h hx k _ lg
   obtain⟨v',h1,p1,p2,p3,p4,p5,p6⟩:=o.push hfl (z:=8) (m:=1) (by omega) (by omega) [.int .i64 (Lc.getD k 0)] rfl rfl (zO (by omega))
   have hx1:Ext h0 h1:=fun i c hi=>by
    have:=h0.lt _ _ hi
    rw[p5 i (fun e=>by have:=hid i e;omega) (by omega),hx i c hi]
   have o2:v8 1 h1 v' (R++[Lc.getD k 0]).length (ints (R++[Lc.getD k 0])):=by rw[pC,u4];exact p2
   obtain⟨h',rv',L,q1,q2,q3,q4,q5⟩:=DY hL h0 rd q (p++[(k:Int)]) (R++[Lc.getD k 0]) h1 v' (by rw[hp];simp) hx1 (by omega) o2 (by simp [hR]) (fun j hj=>by rw[p6]at hj;have:=uv hj;omega) (by omega)
   have n2:(((p++[(k:Int)]).length:Nat):Int)=(p.length:Int)+1:=by simp
   rw[n2]at L
   refine⟨h',rv',sW ?_ L, ?_,by omega,by omega,fun i hi=>by rw[q4 i hi,p5 i (fun e=>by have:=hid i e;omega) (by omega)],q5⟩
   · clear L q1 rd a1 a2 d1 d2 o2 hx hx1 q4 p2 o
     generalize Lc.getD k 0=z at *
     simp (disch:=omega)only[go_sem,vz,AP.f341L2,c1,b1,b2,e1,e2,p1]
   · rw[R9]at q1
     exact q1
theorem DX {h0:H} {w:Nat} {av cv:AV} {rid:Nat} {R:List Int} (hR:R.length<1000) (hr:∀y∈R,0≤y∧y<8) (rid0:rid≠w):∀(q p:List Int) (bs:List Nat) (h:H) (ov:AV) (J:List AV),R=p++q→WX h0 h w bs ov→h.get rid=some (ints R++J)→ov.id?≠some rid→bs.length+3* q.length≤60000→
 ∃h' ov',Lp AP.A [0,6,10,77,78,79] AP.f341L1 [(0,.aC w 0),(6,av),(10,cv),(77,.aD rid 0 R.length 1),(78,.int .i64 R.length),(79,.int .i64 p.length)] h=some (.exit 4,[(0,.aC w 0),(6,av),(10,cv),(77,.aD rid 0 R.length 1),(78,.int .i64 R.length),(79,.int .i64 R.length),(80,.bool false)],h')∧WX h0 h' w (bs++za q) ov'
 | [], p, bs, h, ov, J, hp, x, gr, hor, hb => by
   rw[Sf]at hp;subst hp
   refine⟨h,ov,sV ?_,by simpa [za]using x⟩
   simp (disch:=omega)only[go_sem,vz,AP.f341L1]
 | y :: q, p, bs, h, ov, J, hp, x, gr, hor, hb => by
   have hl:R.length=p.length+(q.length+1):=by rw[hp];simp
   have hy:R[p.length]?=some y:=by rw[hp];simp
   have yr:=hr y (uL hy)
   obtain⟨k,rfl⟩:=R4 yr.1
   have c1:((p.length:Nat):Int)<R.length:=by omega
   have gy:(ints R++J)[p.length]?=some (.int .i64 k):=by
    rw[R7 (by rw[pD];omega)]
    exact sC hy
   have ib:cM (.int .i64 (p.length:Nat)) R.length=some p.length:=by simp [cM,ny];omega
   simp only[RX]at hb
   obtain⟨h1,o1,k1,w1,f1⟩:=xR x.wr k 3 (by omega) (by omega) (by omega)
   have lr:=h.lt _ _ gr
   obtain⟨h',ov',L,x2⟩:=DX hR hr rid0 q (p++[(k:Int)]) (bs++vt k 3) h1 o1 J (by rw[hp];simp) (x.step w1 f1) (by rw[f1.vR rid lr rid0 hor,gr]) (fun e=>by
    rcases f1.ids rid e with z|z
    · exact hor z
    · omega) (by simp [vt,vC];omega)
   have n2:(((p++[(k:Int)]).length:Nat):Int)=(p.length:Int)+1:=by simp
   rw[n2]at L
   have k1':aQ AP.A 335 [.aC w 0,.int .i64 k,.int .i64 3] h=some (.int .i64 0,h1):=k1
   refine⟨h',ov',sW ?_ L, ?_⟩
   · clear L x x2 w1 f1 k1 hr
     generalize ints R++J=P at *
     simp (disch:=omega)only[go_sem,vz,AP.f341L1,c1,ib,gr,gy,k1']
   · have:za ((k:Int)::q)=vt k 3++za q:=by simp [za]
     rw[this,←R9];exact x2
theorem CL {h0 : H} {w : Nat} {cv : AV} {D : List Int} {E : List (Int × Int)} (hD : D.length < 1000) (ok : ∀ y ∈ D, 0 ≤ y ∧ Ay E y.toNat) (av : AV) (rd : Rd h0 av (ints D)) (rl : yB 2 h0 cv E.length (E.flatMap wJ)) : ∀ (q p : List Int) (bs : List Nat) (h : H) (ov : AV), D = p ++ q → WX h0 h w bs ov → bs.length + 15 * q.length ≤ 60000 →
 ∃h' ov',Lp AP.A [0,17,92,93,94] AP.f341L0 [(0,.aC w 0),(17,cv),(92,av),(93,.int .i64 D.length),(94,.int .i64 p.length)] h=some (.exit 6,[(0,.aC w 0),(17,cv),(92,av),(93,.int .i64 D.length),(94,.int .i64 D.length),(95,.bool false)],h')∧WX h0 h' w (bs++yA E q) ov'∧(h.next≤h'.next)
 | [], p, bs, h, ov, hp, x, hb => by
   rw[Sf]at hp;subst hp
   refine⟨h,ov,sV ?_,by simpa [yA]using x,uH _⟩
   simp (disch:=omega)only[go_sem,vz,AP.f341L0]
 | y :: q, p, bs, h, ov, hp, x, hb => by
   have hl:D.length=p.length+(q.length+1):=by rw[hp];simp
   have hy:D[p.length]?=some y:=by rw[hp];simp
   obtain⟨y0,oy⟩:=ok y (uL hy)
   obtain⟨k,rfl⟩:=R4 y0
   have tk:((k:Nat):Int).toNat=k:=by omega
   rw[tk]at oy
   have c1:((p.length:Nat):Int)<D.length:=by omega
   obtain⟨ad,a1,a2⟩:=rd.xh
   have b1:=a1 p.length ⟨by omega,by omega⟩
   have b2:=a2 h x.ext p.length _ hy
   obtain⟨le,l1,l2⟩:=rl.LX
   obtain⟨n,c,q0,q1,q2,q3,q4⟩:=oy.bits
   have e1:=l1 k ⟨by omega,by have:=oy.lt;omega⟩
   have e2:=l2 h x.ext _ _ q0
   simp only[RX]at hb
   obtain⟨h1,o1,k1,w1,f1⟩:=H7 x.wr c n q1 q2 q3 (by omega)
   obtain⟨h',ov',L,x2,nn⟩:=CL hD ok av rd rl q (p++[(k:Int)]) (bs++yf c n) h1 o1 (by rw[hp];simp) (x.step w1 f1) (by simp [wh];omega)
   have n2:(((p++[(k:Int)]).length:Nat):Int)=(p.length:Int)+1:=by simp
   rw[n2]at L
   have fn:=f1.next
   refine⟨h',ov',sW ?_ L, ?_,by omega⟩
   · clear L x x2 w1 f1 ok rd rl a1 a2 l1 l2
     simp (disch:=omega)only[go_sem,vz,AP.f341L0,c1,b1,b2,e1,e2,k1]
   · have:yA E ((k:Int)::q)=yf c n++yA E q:=by
      rw[←q4];simp [yA]
     rw[this,←R9];exact x2
theorem Kc {h0 h:H} {w:Nat} {bs:List Nat} {ov:AV} (x:WX h0 h w bs ov) {v1 v2:AV} {la lb Lc:List Int} {KC:Nat} (r1:Rd h0 v1 (ints la)) (r2:Rd h0 v2 (ints lb)) (sc1:v1.sc=true) (sc2:v2.sc=true) (ce1:v1.cells=[v1]) (ce2:v2.cells=[v2]) (hbs:bs.length≤100) (hla:257≤la.length∧la.length≤286) (hlb:1≤lb.length∧lb.length≤30) (hall:∀y∈la++lb,0≤y∧y<19) (rc:wP 7 KC (wI (xb (la++lb) (List.replicate 19 0)))) (ec:Lc=vZ (xb (la++lb) (List.replicate 19 0)) KC) (row:∀y∈Lc,0≤y∧y<8) (cc:vy Lc=0∨vy Lc=302) (zu:∀y∈la++lb,Ay (u7 Lc) y.toNat):
 ∃h' ov',aQ AP.A 341 [.aC w 0,v1,v2] h=some (.bO [],h')∧WX h0 h' w (bs++(vt (la.length-257) 5++(vt (lb.length-1) 5++(vt (vI (vw.map (fun o=>Lc.getD o.toNat 0)) 4 19-4) 4++(za ((vw.map (fun o=>Lc.getD o.toNat 0)).take (vI (vw.map (fun o=>Lc.getD o.toNat 0)) 4 19))++yA (u7 Lc) (la++lb)))))) ov':=by
 obtain⟨D,eD⟩:∃D,D=la++lb:=⟨_,rfl⟩
 have lD:D.length=la.length+lb.length:=by rw[eD];simp
 have l1:iP false v1=some (.int .i64 la.length):=by
  have:=r1.len;rw[pD]at this;exact this
 have l2:iP false v2=some (.int .i64 lb.length):=by
  have:=r2.len;rw[pD]at this;exact this
 have lw:=h.lt _ _ x.wr.get
 have wfl:=x.wr.fl
 have wflx:=x.wr.Jj
 obtain⟨h1,eh1⟩:∃g,g=h.alloc [v1,v2]:=⟨_,rfl⟩
 have n1:h1.next=h.next+1:=by rw[eh1];simp
 have f1:h1.floor=h.floor:=by rw[eh1];simp
 have k1e:∀i,i<h.next→h1.get i=h.get i:=fun i hi=>by rw[eh1,vn (by omega)]
 have k62:aQ AP.A 62 [.aD h.next 0 2 1] h1=some (vX D,h1):=by
  have e1:h1.get h.next=some [v1,v2]:=by rw[eh1,vp rfl]
  have rr:Rd h1 (.aD h.next 0 2 1) ([(v1,la),(v2,lb)].map (·.1)):=⟨by simp [aR,e1],by intro s e;cases e⟩
  have e:cat [(v1,la),(v2,lb)]=D:=by rw[eD];simp [cat]
  have up:∀i c,h0.get i=some c→h1.get i=some c:=fun i c hi=>by
   have e:=x.ext i c hi
   rw[k1e i (h.lt _ _ e),e]
  have:=CC h1 (.aD h.next 0 2 1) [(v1,la),(v2,lb)] rr (fun p hp=>by
   simp at hp
   rcases hp with rfl|rfl
   · exact r1.mono up
   · exact r2.mono up) (by rw[e];omega) (by simp) (by rw[e];omega)
  rw[e]at this;exact this
 have lnD:iP false (vX D)=some (.int .i64 D.length):=rfl
 have ko:=fun g=>H4 g
 have lnO:iP false (vX vw)=some (.int .i64 19):=rfl
 obtain⟨h2,eh2⟩:∃g,g=h1.alloc (xE 19 [.int .i64 0]):=⟨_,rfl⟩
 have n2:h2.next=h.next+2:=by rw[eh2];simp;omega
 have g2:h2.get h1.next=some (ints (List.replicate 19 0)):=by rw[eh2,vp rfl,y7]
 rw[←eD]at hall rc ec zu ⊢
 obtain⟨h3,L3,g3,f3,n3,k3⟩:=DW (w:=.aC w 0) (v1:=v1) (v2:=v2) (av:=vX D) (by omega) hall h1.next H.empty (xS _ _) (by simp [H.empty,H.get]) D [] (List.replicate 19 0) h2 rfl (fun i c q=>by simp [H.empty,H.get]at q) g2 (by simp) (fun y hy=>by have:=So hy;simp;omega) (by rw[eh2];simp;omega)
 have L3':Lp AP.A [0,1,2,6,7,28,29,30] AP.f341L3 [(0,.aC w 0),(1,v1),(2,v2),(6,vX D),(7,.aD h1.next 0 19 1),(28,vX D),(29,.int .i64 D.length),(30,.int .i64 0)] h2=_:=L3
 have c1:(xb D (List.replicate 19 0)).length=19:=by rw[AF,Sc]
 have c2:∀y∈xb D (List.replicate 19 0),0≤y∧y≤2147483647:=fun y hy=>by
  have:=AG D _ 0 (by omega) (y6 19) y hy
  omega
 have k7:=E1 h3 (.aD h1.next 0 19 1) (xb D (List.replicate 19 0)) 7 KC (by omega) (by omega) (Fa g3 c1) (by omega) c2 (by have:=Dx (xb D (List.replicate 19 0));omega) rc
 rw[←ec,c1]at k7
 have lLc:Lc.length=19:=by rw[ec,yJ,c1]
 have f3':h3.floor=h.floor:=by rw[f3,eh2];simp;exact f1
 obtain⟨h4,rv,L2,o4,f4,n4,k4,id4⟩:=DY (w:=.aC w 0) (v1:=v1) (v2:=v2) (av:=vX D) lLc h3 (cv:=zd 1 19 (ints Lc)) (by have:=Ap h3 Lc;rwa [lLc]at this) vw [] [] h3 .aO rfl (Ext.refl _) (by omega) v8.nil rfl (fun j hj=>by cases hj) (uH _)
 have L2':Lp AP.A [0,1,2,6,10,12,46,47,48] AP.f341L2 [(0,.aC w 0),(1,v1),(2,v2),(6,vX D),(10,zd 1 19 (ints Lc)),(12,.aO),(46,vX vw),(47,.int .i64 19),(48,.int .i64 0)] h3=_:=L2
 obtain⟨R,eR⟩:∃R,R=vw.map (fun o=>Lc.getD o.toNat 0):=⟨_,rfl⟩
 rw[List.nil_append,←eR]at o4
 rw[←eR]
 have lR:R.length=19:=by rw[eR];rfl
 obtain⟨rid,erv,gr,_⟩:=Jm o4 (by omega)
 have rid3:h3.next≤rid:=id4 rid (by rw[erv];rfl)
 have pR:∀y∈R,0≤y∧y<8:=fun y hy=>by
  rw[eR]at hy
  obtain⟨o,ho,rfl⟩:=R6.1 hy
  rw[RW]
  cases e:Lc[o.toNat]? with
  |none=>simp
  |some z=>exact row z (uL e)
 have kt:=Jc h4 rid R gr (by omega) (fun y hy=>(pR y hy).1) 4 (by omega)
 rw[lR]at kt
 have ur:=wG R 4 19
 obtain⟨U,eU⟩:∃U,U=vI R 4 19:=⟨_,rfl⟩
 rw[←eU]at kt ur ⊢
 have k4e:∀i,i<h.next→h4.get i=h.get i:=fun i hi=>by rw[k4 i (by omega),k3 i (by omega),eh2,vn (by omega),k1e i hi]
 have x4:WX h0 h4 w bs ov:=x.turn (by omega) (by omega) k4e
 have hon:ov.id?≠some rid:=fun q=>by have:=(x.wr.own.lt q).2;omega
 obtain⟨h5,o5,k5,w5,r5⟩:=xR x4.wr (la.length-257) 5 (by omega) (by omega) (by omega)
 have x5:=x4.step w5 r5
 have lr4:=h4.lt _ _ gr
 have g5:h5.get rid=some (ints R):=by rw[r5.vR rid lr4 (by omega) hon,gr]
 have hon5:o5.id?≠some rid:=fun e=>by
  rcases r5.ids rid e with z|z
  · exact hon z
  · omega
 obtain⟨h6,o6,k6,w6,r6⟩:=xR x5.wr (lb.length-1) 5 (by omega) (by omega) (by simp [vt,vC];omega)
 have x6:=x5.step w6 r6
 have lr5:=h5.lt _ _ g5
 have g6:h6.get rid=some (ints R):=by rw[r6.vR rid lr5 (by omega) hon5,g5]
 have hon6:o6.id?≠some rid:=fun e=>by
  rcases r6.ids rid e with z|z
  · exact hon5 z
  · omega
 obtain⟨h7,o7,k7p,w7,r7⟩:=xR x6.wr (U-4) 4 (by omega) (by omega) (by simp [vt,vC];omega)
 have x7:=x6.step w7 r7
 have lr6:=h6.lt _ _ g6
 have g7:h7.get rid=some (ints R):=by rw[r7.vR rid lr6 (by omega) hon6,g6]
 have hon7:o7.id?≠some rid:=fun e=>by
  rcases r7.ids rid e with z|z
  · exact hon6 z
  · omega
 have lT:(R.take U).length=U:=by rw[Sv];omega
 have eT:ints R=ints (R.take U)++ints (R.drop U):=by rw[←pC,List.take_append_drop]
 rw[eT]at g7
 obtain⟨h8,o8,L1,x8⟩:=DX (av:=vX D) (cv:=zd 1 19 (ints Lc)) (R:=R.take U) (by omega) (fun y hy=>pR y (List.mem_of_mem_take hy)) (by omega) (R.take U) [] _ h7 o7 (ints (R.drop U)) rfl x7 g7 hon7 (by simp [vt,vC];omega)
 rw[lT]at L1
 have L1':Lp AP.A [0,6,10,77,78,79] AP.f341L1 [(0,.aC w 0),(6,vX D),(10,zd 1 19 (ints Lc)),(77,.aD rid 0 U 1),(78,.int .i64 U),(79,.int .i64 0)] h7=_:=L1
 have kc:=zy h8 (zd 1 19 (ints Lc)) Lc (by omega) (by omega) (by have:=Ap h8 Lc;rwa [lLc]at this) cc
 obtain⟨h9,o9,L0,x9,_⟩:=CL (by omega) (fun y hy=>⟨(hall y hy).1,zu y hy⟩) (vX D) (xS h0 D) (zD h0 Lc) D [] _ h8 o8 rfl x8 (by simp [vt,vC,A9];omega)
 have L0':Lp AP.A [0,17,92,93,94] AP.f341L0 [(0,.aC w 0),(17,zh Lc),(92,vX D),(93,.int .i64 D.length),(94,.int .i64 0)] h8=_:=L0
 refine⟨h9,o9,vW (fn:=AP.f341) (e:=[]) (vs:=[]) rfl rfl rfl ?_ rfl,by simpa only[R9]using x9⟩
 have z1:((la.length-257:Nat):Int)=(la.length:Int)-257:=by omega
 have z2:((lb.length-1:Nat):Int)=(lb.length:Int)-1:=by omega
 have z3:((U-4:Nat):Int)=(U:Int)-4:=by omega
 rw[z1]at k5
 rw[z2]at k6
 rw[z3]at k7p
 have k5':aQ AP.A 335 [.aC w 0,.int .i64 ((la.length:Int)-257),.int .i64 5] h4=some (.int .i64 0,h5):=k5
 have k6':aQ AP.A 335 [.aC w 0,.int .i64 ((lb.length:Int)-1),.int .i64 5] h5=some (.int .i64 0,h6):=k6
 have k7':aQ AP.A 335 [.aC w 0,.int .i64 ((U:Int)-4),.int .i64 4] h6=some (.int .i64 0,h7):=k7p
 have k351:aQ AP.A 351 [.aD h1.next 0 19 1,.int .i64 7] h3=some (.bO [zd 1 19 (ints Lc),.int .i64 0],h3):=k7
 have kt':aQ AP.A 342 [.aD rid 0 19 1,.int .i64 4] h4=some (.aD rid 0 U 1,h4):=kt
 have ia:(la.length:Int)≤286:=by omega
 have ib:(lb.length:Int)≤30:=by omega
 have iU:(U:Int)≤19:=by omega
 have e19:∀V,iP false (AV.aD V 0 19 1)=some (.int .i64 19):=fun _=>rfl
 rw[erv]at L2'
 rw[lR]at L2'
 clear x x4 x5 x6 x7 x8 x9 w5 w6 w7 r5 r6 r7 r1 r2 hall rc row cc zu k5 k6 k7p k7 kt L0 L1 L2 L3 o4 pR k4 k3 k4e k1e g5 g6 g7 gr eT c2 ec
 generalize vX D=ID at *
 generalize zd 1 19 (ints Lc)=CV at *
 generalize zh Lc=EV at *
 generalize vX vw=IO at *
 generalize (la.length:Int)=LA at *
 generalize (lb.length:Int)=LB at *
 generalize (D.length:Int)=LD at *
 simp (disch:=omega)only[go_sem,vz,AP.f341,sc1,sc2,ce1,ce2,←eh1,k62,ko,lnO,←eh2,lnD,rR,L3',k351,L2',kt',l1,l2,k5',k6',k7',ze,L1',kc,L0']
theorem Jy (p q:List Int) (n:Nat) (h:∀y∈q,y=0):wM (p++q) n=wM p n:=by
 unfold wM
 by_cases c:n=0
 · rw[if_pos c,if_pos c]
 · rw[if_neg c,if_neg c,List.countP_append]
   have:q.countP (fun x=>x==(n:Int))=0:=by
    rw[List.countP_eq_zero]
    intro y hy
    rw[h y hy]
    simp;omega
   omega
theorem BS (p q:List Int) (h:∀y∈q,y=0):∀n,vo (p++q) n=vo p n
 |0=>rfl
 |n+1=>by rw[vo,vo,BS p q h n,Jy p q n h]
theorem JB {l:List Int} (hr:∀y∈l,0≤y) (k:Nat) (hk:k≤l.length):∀y∈l.drop (vI l k l.length),y=0:=by
 intro y hy
 obtain⟨i,hi,e⟩:=Sw.1 hy
 rw[List.getElem_drop]at e
 rw[List.length_drop]at hi
 have z:=ym l k l.length (vI l k l.length+i) (by omega) (by omega)
 have e2:l.getD (vI l k l.length+i) 0=y:=by
  rw[RW,RY (by omega),e];rfl
 rw[e2]at z
 have:=hr y (List.mem_of_mem_drop hy)
 omega
def Fi (E E':List (Int×Int)):Prop:=∀s,s<E.length→E'[s]?=E[s]?
theorem DN {l:List Int} (hr:∀y∈l,0≤y) (k:Nat) (hk:k≤l.length):Fi (u7 (yo l k)) (u7 l):=by
 intro s hs
 have hd:=JB hr k hk
 have cl:=AK l hk
 have ur:=wG l k l.length
 rw[yV]at hs
 have hs2:s<l.length:=by omega
 have el:l=yo l k++l.drop (vI l k l.length):=(List.take_append_drop _ _).symm
 unfold u7
 rw[uQ,uQ,Sq hs,Sq hs2]
 show some (yE l s)=some (yE (yo l k) s)
 have g:l.getD s 0=(yo l k).getD s 0:=by
  conv=>lhs;rw[el]
  rw[RW,R7 hs,←RW]
 have f:∀n,vo l n=vo (yo l k) n:=fun n=>by
  conv=>lhs;rw[el]
  exact BS _ _ hd n
 have t:l.take s=(yo l k).take s:=by
  conv=>lhs;rw[el]
  rw[List.take_append_of_le_length (by omega)]
 unfold yE
 rw[g,f,t]
theorem Ay.pre {E E':List (Int×Int)} (p:Fi E E') {s:Nat} (o:Ay E s):Ay E' s∧vj E' s=vj E s:=by
 have hl:=o.lt
 have e:=p s hl
 obtain⟨n,v,h,r⟩:=o
 refine⟨⟨n,v,e.trans h,r⟩, ?_⟩
 unfold vj
 rw[RW,RW,e]
theorem GU.pre {E E' D D':List (Int×Int)} (p:Fi E E') (q:Fi D D') {t:Tok} (o:GU E D t):GU E' D' t∧vK E' D' t=vK E D t:=by
 rcases o with ⟨c0,h2,h3⟩|⟨h1,h2,h3,h4,h5,h6⟩
 · obtain⟨a,b⟩:=h3.pre p
   refine⟨.inl ⟨c0,h2,a⟩, ?_⟩
   rw[vK,vK,if_pos c0,if_pos c0,b]
 · obtain⟨a,b⟩:=h5.pre p
   obtain⟨c,d⟩:=h6.pre q
   have z:¬t.len=0:=by omega
   refine⟨.inr ⟨h1,h2,h3,h4,a,c⟩, ?_⟩
   rw[vK,vK,if_neg z,if_neg z,b,d]
theorem Ev {E E' D D':List (Int×Int)} (p:Fi E E') (q:Fi D D'):∀ts:List Tok,(∀t∈ts,GU E D t)→v5 E' D' ts=v5 E D ts
 |[],_=>rfl
 | t :: r, h => by
   have a:=((h t (by simp)).pre p q).2
   have b:=Ev p q r fun x hx=>h x (by simp [hx])
   simp only[v5,R3]at b ⊢
   rw[a,b]
theorem Ou (h : H) (v : AV) (ts : List Tok) (KA KB KC : Nat) (la lb Lc : List Int) (ok : BM ts KA KB KC la lb Lc) (rd : yB 3 h v ts.length (wg ts)) :
 aQ AP.A 327 [v] h=some (.bO [.str (bytesOf (vH (vT ts la lb Lc))),.int .i64 0],h):=by
 obtain⟨HS,hn,tok,ra,rb,ea,eb,hall,rc,ec,hrow,ca,cb,cc,zu,KQ,Ec⟩:=ok
 obtain⟨_,_,_,lit,_⟩:=JH HS
 have rd0:yB 3 h.dL v ts.length (wg ts):=rd.mono fun i c q=>q
 have k1:=Kd h.dL v ts (by omega) rd0
 rw[HS]at k1
 have k2:=Hs h.dL v ts KA KB hn tok lit ra rb rd0
 obtain⟨a1,a2,a3⟩:=HO ts hn
 obtain⟨b1,b2⟩:=HP ts hn
 obtain⟨A,eA⟩:∃A,A=vZ (dA ts) KA:=⟨_,rfl⟩
 obtain⟨B,eB⟩:∃B,B=vZ (dB ts) KB:=⟨_,rfl⟩
 have lA:A.length=286:=by rw[eA,yJ,a1]
 have lB:B.length=30:=by rw[eB,yJ,b1]
 obtain⟨fA1,fA2,fA3,fA4,fA5⟩:=xZ a2 (by omega) (by omega) (by omega) ra
 obtain⟨fB1,fB2,fB3,fB4,fB5⟩:=xZ b2 (by omega) (by omega) (by omega) rb
 rw[←eA]at k2 ea fA2
 rw[←eB]at k2 eb fB2
 have rgA:∀y∈A,0≤y∧y<16:=fun y hy=>by have:=fA2 y hy;omega
 have rgB:∀y∈B,0≤y∧y<16:=fun y hy=>by have:=fB2 y hy;omega
 have pA:∀y∈A,0≤y:=fun y hy=>(rgA y hy).1
 have pB:∀y∈B,0≤y:=fun y hy=>(rgB y hy).1
 have uA:=wG A 257 A.length
 have uB:=wG B 1 B.length
 have lla:la.length=vI A 257 A.length:=by rw[ea];exact AK A (by omega)
 have llb:lb.length=vI B 1 B.length:=by rw[eb];exact AK B (by omega)
 have cfA:vy A=0∨vy A=302:=by
  have e:=Ci pA 257 15
  rw[←ea]at e
  have hl:0≤vx A 15:=by
   rw[←e]
   unfold vy at ca
   by_cases q:Ai la=false
   · rw[if_pos q]at ca;omega
   · rw[if_neg q]at ca
     by_cases z:vx la 15<0
     · rw[if_pos z]at ca;omega
     · omega
  rw[xK (by omega) (by omega) rgA hl]
  split
  · exact .inl rfl
  · exact .inr rfl
 have cfB:vy B=0∨vy B=302:=by
  have e:=Ci pB 1 15
  rw[←eb]at e
  have hl:0≤vx B 15:=by
   rw[←e]
   unfold vy at cb
   by_cases q:Ai lb=false
   · rw[if_pos q]at cb;omega
   · rw[if_neg q]at cb
     by_cases z:vx lb 15<0
     · rw[if_pos z]at cb;omega
     · omega
  rw[xK (by omega) (by omega) rgB hl]
  split
  · exact .inl rfl
  · exact .inr rfl
 have prA:Fi (u7 la) (u7 A):=by rw[ea];exact DN pA 257 (by omega)
 have prB:Fi (u7 lb) (u7 B):=by rw[eb];exact DN pB 1 (by omega)
 obtain⟨h1,o1,k3,x1,f1⟩:=HH (h:=h.dL) rfl 2 (by omega)
 have hN:h.dL.next=h.next:=rfl
 have kt1:=En h1 A (by omega) (by omega) pA 257 (by omega)
 have kt2:=En h1 B (by omega) (by omega) pB 1 (by omega)
 rw[←lla]at kt1
 rw[←llb]at kt2
 have r1:Rd h.dL (.aU false (ints A) 0 la.length 1) (ints la):=by
  have:=Ie h.dL A (k:=la.length) (by omega)
  rw[show A.take la.length=la by rw[ea];unfold yo;rw[Sv];congr 1;omega]at this
  exact this
 have r2:Rd h.dL (.aU false (ints B) 0 lb.length 1) (ints lb):=by
  have:=Ie h.dL B (k:=lb.length) (by omega)
  rw[show B.take lb.length=lb by rw[eb];unfold yo;rw[Sv];congr 1;omega]at this
  exact this
 obtain⟨h2,o2,k4,x2⟩:=Kc x1 r1 r2 rfl rfl rfl rfl (by simp [vt,vC]) ⟨by omega,by omega⟩ ⟨by omega,by omega⟩ hall rc ec hrow cc zu
 have kcA:=zy h2 (zd 1 A.length (ints A)) A (by omega) (by omega) (Ap h2 A) cfA
 have kcB:=zy h2 (zd 1 B.length (ints B)) B (by omega) (by omega) (Ap h2 B) cfB
 obtain⟨R,eR⟩:∃R,R=vw.map (fun o=>Lc.getD o.toNat 0):=⟨_,rfl⟩
 have urR:=wG R 4 19
 have abl:=Fl zu
 rw[←eR]at x2
 obtain⟨h3,k5⟩:=Ib (v:=v) (by omega) h.dL rd0 (zD h.dL A) (zD h.dL B) (fun t ht=>⟨((KQ t ht).pre prA prB).1,tok t ht,lit t ht⟩) (Ec.pre prA).1 h.dL.next _ h2 o2 x2 (by
  have:=A9 (R.take (vI R 4 19))
  have:=List.length_take_le (vI R 4 19) R
  have lR:R.length=19:=by rw[eR];rfl
  rw[u4]at abl
  simp only[u4,vt,vC]
  omega)
 have e:vt 1 1++vt 2 2++(vt (la.length-257) 5++(vt (lb.length-1) 5++(vt (vI R 4 19-4) 4++(za (R.take (vI R 4 19))++yA (u7 Lc) (la++lb)))))++(v5 (u7 A) (u7 B) ts++vj (u7 A) 256)=vT ts la lb Lc:=by
  rw[Ev prA prB ts KQ,(Ec.pre prA).2]
  have:vt 1 1++vt 2 2=vt 5 3:=by decide
  rw[this]
  unfold vT
  rw[←eR]
  simp only[R9]
 rw[e]at k5
 rw[hN]at k3 k4 k5
 have k3':aQ AP.A 333 [.int .i64 2] h.dL=some (.aC h.next 0,h1):=k3
 rw[lA]at kt1 kcA
 rw[lB]at kt2 kcB
 have kt1':aQ AP.A 342 [zd 1 286 (ints A),.int .i64 257] h1=_:=kt1
 have kt2':aQ AP.A 342 [zd 1 30 (ints B),.int .i64 1] h1=_:=kt2
 refine tL (fn:=AP.f327) (h2:=h3) (e:=[(2,.str (bytesOf (vH (vT ts la lb Lc)))),(3,.int .i64 0)]) (vs:=[.str (bytesOf (vH (vT ts la lb Lc))),.int .i64 0]) rfl rfl rfl ?_ rfl rfl
 clear x1 x2 r1 r2 rd rd0 e k3 kt1 kt2 zu hall rc hrow ra rb prA prB abl KQ tok lit ec ea eb
 generalize bytesOf (vH (vT ts la lb Lc))=SB at *
 generalize AV.aU false (ints A) 0 la.length 1=TA at *
 generalize AV.aU false (ints B) 0 lb.length 1=TB at *
 generalize zd 1 286 (ints A)=VA at *
 generalize zd 1 30 (ints B)=VB at *
 generalize zh A=CA at *
 generalize zh B=CB at *
 simp (disch:=omega)only[go_sem,vz,AP.f327,k1,k2,k3',kt1',kt2',k4,kcA,kcB,k5]
theorem Gy (h:H) (ts:List Tok):yB 3 h (Cc ts) ts.length (wg ts):=Hw (by rw[Je])
theorem Da (h:H) (s:ByteArray) (hs:s.size≤300) {KA KB KC:Nat} {la lb Lc:List Int} (ok:BM (tokens s) KA KB KC la lb Lc):aQ AP.A 330 [.str s] h=some (.bO [.str (vQ s la lb Lc),.int .i64 0],h):=by
 have k1:=El h.dL s
 rw[if_neg (by omega)]at k1
 have k2:=Jb h.dL s
 rw[if_neg (by omega)]at k2
 obtain⟨g,eg⟩:∃g,g=h.dL.alloc [.fn 326 [] [],.fn 327 [] []]:=⟨_,rfl⟩
 have HS:=CH s hs
 have tl:=(Du s hs).1
 have k3:=Kb g (Cc (tokens s)) (tokens s) (by omega) (Gy g _)
 rw[if_pos HS]at k3
 have k4:=Ou g (Cc (tokens s)) (tokens s) KA KB KC la lb Lc ok (Gy g _)
 have gg:g.get h.next=some [.fn 326 [] [],.fn 327 [] []]:=by rw[eg,vp (by simp)]
 have hN:h.dL.next=h.next:=rfl
 change aQ AP.A 326 [Cc (tokens s)] g=some (.bO [.str (yW s),.int .i64 0],g)at k3
 change aQ AP.A 327 [Cc (tokens s)] g=some (.bO [.str (DB s la lb Lc),.int .i64 0],g)at k4
 have b:aX [(4,.str (wY s)),(6,Cc (tokens s))] (.cC 1 2 [.eJ] [(0,(.c (.fn 326 [] []))),(1,(.c (.fn 327 [] [])))])=some ([.fn 326 [] [],.fn 327 [] []],fun i=>.aD i 0 2 1):=rfl
 unfold vQ
 generalize yW s=F at *
 generalize wY s=S at *
 generalize DB s la lb Lc=D at *
 generalize Cc (tokens s)=TV at *
 have step:∀(FL:List AV) (B O:ByteArray) (i:Int) (f:Nat),g.get h.next=some FL→0≤i∧i<2→FL[i.toNat]?=some (.fn f [] [])→aQ AP.A f [TV] g=some (.bO [.str O,.int .i64 0],g)→aK (aQ AP.A) bu AP.f330L0 (ax [(4,.str B),(6,TV),(24,.aD h.next 0 2 1),(25,.int .i64 2),(26,.int .i64 i)] [4,6,24,25,26]) g=some (.normal,[(4,.str (shorter O B)),(6,TV),(24,.aD h.next 0 2 1),(25,.int .i64 2),(26,.int .i64 (i+1))],g):=by
  intro FL B O i f gF hi fe kf
  have c0:i<2:=hi.2
  unfold shorter
  have t0:cM (.int .i64 i) 2=some i.toNat:=by simp [cM,ny,hi]
  by_cases c1:O.size<B.size
  · have c1':(O.size:Int)<B.size:=by omega
    rw[if_pos c1]
    simp (disch:=omega)only[go_sem,vz,AP.f330L0,c0,t0,gF,fe,kf,wD,c1']
  · have c1':¬(O.size:Int)<B.size:=by omega
    rw[if_neg c1]
    simp (disch:=omega)only[go_sem,vz,AP.f330L0,c0,t0,gF,fe,kf,wD,c1']
 have s0:=step _ S F 0 326 gg (by omega) rfl k3
 have s1:=step _ (shorter F S) D 1 327 gg (by omega) rfl k4
 have s2:Lp AP.A [4,6,24,25,26] AP.f330L0 [(4,.str (shorter D (shorter F S))),(6,TV),(24,.aD h.next 0 2 1),(25,.int .i64 2),(26,.int .i64 2)] g=some (.exit 0,[(4,.str (shorter D (shorter F S))),(6,TV),(24,.aD h.next 0 2 1),(25,.int .i64 2),(26,.int .i64 2),(27,.bool false)],g):=by
  refine sV ?_
  simp (disch:=omega)only[go_sem,vz,AP.f330L0]
 have L:=sW s0 (sW s1 s2)
 have bs:aX [(6,TV),(4,.str S)] (.cC 1 2 [.eJ] [(0,(.c (.fn 326 [] []))),(1,(.c (.fn 327 [] [])))])=some ([.fn 326 [] [],.fn 327 [] []],fun i=>.aD i 0 2 1):=rfl
 generalize shorter D (shorter F S)=T at *
 have eb:∀e:Env,aX e (.cC 1 2 [.eJ] [(0,(.c (.fn 326 [] []))),(1,(.c (.fn 327 [] [])))])=some ([.fn 326 [] [],.fn 327 [] []],fun i=>.aD i 0 2 1):=fun _=>rfl
 refine tL (fn:=AP.f330) (h2:=g) (e:=[(2,.str T),(3,.int .i64 0)]) (vs:=[.str T,.int .i64 0]) rfl rfl rfl ?_ rfl rfl
 clear step s0 s1 s2 bs b gg k3 k4
 simp (disch:=omega)only[go_sem,vz,AP.f330,k1,k2,eb,hN,←eg,rR,L]
def Ef (T s:ByteArray):AV:=if T.size<s.size then .bO [.int .i64 8,.str T,.int .i64 0]else .bO [.int .i64 0,.str s,.int .i64 0]
theorem H8 (h:H) (s:ByteArray) (hs:s.size≤300) {KA KB KC:Nat} {la lb Lc:List Int} (ok:BM (tokens s) KA KB KC la lb Lc):aQ AP.A 331 [.str s] h=some (Ef (vQ s la lb Lc) s,h):=by
 have k:=Da h.dL s hs ok
 unfold Ef
 generalize vQ s la lb Lc=T at *
 by_cases c:T.size<s.size
 · rw[if_pos c]
   have c':(T.size:Int)<s.size:=by omega
   refine tL (fn:=AP.f331) (h2:=h.dL) (e:=[(2,.int .i64 8),(3,.str T),(4,.int .i64 0)]) (vs:=[.int .i64 8,.str T,.int .i64 0]) rfl rfl rfl ?_ rfl rfl
   clear ok
   simp (disch:=omega)only[go_sem,vz,AP.f331,k,wD,c']
 · rw[if_neg c]
   have c':¬(T.size:Int)<s.size:=by omega
   refine tL (fn:=AP.f331) (h2:=h.dL) (e:=[(2,.int .i64 0),(3,.str s),(4,.int .i64 0)]) (vs:=[.int .i64 0,.str s,.int .i64 0]) rfl rfl rfl ?_ rfl rfl
   clear ok
   simp (disch:=omega)only[go_sem,vz,AP.f331,k,wD,c']
theorem zW (h:H) (s:ByteArray) (hs:300<s.size):aQ AP.A 330 [.str s] h=some (.bO [.str ⟨#[]⟩,.int .i64 900],h):=by
 have k1:=El h.dL s
 rw[if_pos hs]at k1
 have cb:((800:Int) !=0)=true:=by decide
 refine tL (fn:=AP.f330) (h2:=h.dL) (e:=[(2,.str ⟨#[]⟩),(3,.int .i64 900)]) (vs:=[.str ⟨#[]⟩,.int .i64 900]) rfl rfl rfl ?_ rfl rfl
 simp (disch:=omega)only[go_sem,vz,AP.f330,k1,cb]
theorem Ht (h:H) (s:ByteArray) (hs:300<s.size):aQ AP.A 331 [.str s] h=some (.bO [.int .i64 0,.str ⟨#[]⟩,.int .i64 900],h):=by
 have k:=zW h.dL s hs
 have cb:((900:Int) !=0)=true:=by decide
 refine tL (fn:=AP.f331) (h2:=h.dL) (e:=[(2,.int .i64 0),(3,.str ⟨#[]⟩),(4,.int .i64 900)]) (vs:=[.int .i64 0,.str ⟨#[]⟩,.int .i64 900]) rfl rfl rfl ?_ rfl rfl
 simp (disch:=omega)only[go_sem,vz,AP.f331,k,cb]
def Ez:ByteArray:=⟨#[97,97,97,97,97,97,97,97,97,97,97,97,97,97,97,97,97,97,97,97]⟩
theorem KT:(v9 (tokens Ez)).length≤100:=by decide+kernel
theorem Od (ts:List Tok):9≤(v9 ts).length:=by
 unfold v9
 have:(vj (u7 vG) 256).length=7:=by decide+kernel
 simp only[u4,vt,vC,this]
 omega
theorem Nj (ts:List Tok) (la lb Lc:List Int):9≤(vT ts la lb Lc).length:=by
 unfold vT
 simp only[u4,vt,vC]
 omega
theorem K7 (s:ByteArray) (la lb Lc:List Int):2≤(vQ s la lb Lc).size:=by
 have h1:2≤(DB s la lb Lc).size:=by
  have:=Nj (tokens s) la lb Lc
  unfold DB;rw[xW];omega
 have h2:2≤(yW s).size:=by
  have:=Od (tokens s)
  unfold yW;rw[xW];omega
 have h3:=Bd s
 unfold vQ shorter;(repeat' split)<;>omega
theorem K8 (s:ByteArray) (la lb Lc:List Int):(vQ s la lb Lc).size≤(DB s la lb Lc).size∧(vQ s la lb Lc).size≤(yW s).size∧(vQ s la lb Lc).size≤(wY s).size:=by
 unfold vQ shorter
 refine⟨?_, ?_, ?_⟩<;>(repeat' split)<;>omega
theorem Ha {s:ByteArray} (hs:s.size≤300) {KA KB KC:Nat} {la lb Lc:List Int} (ok:BM (tokens s) KA KB KC la lb Lc) (hlt:(vQ s la lb Lc).size<s.size+5) {most:Int} (h1:(s.size:Int)≤most) (h2:most≤8192):vM (vQ s la lb Lc) most=.ok (preB s s.size,(vQ s la lb Lc).size):=by
 have idn:vM (DB s la lb Lc) most=.ok (preB s s.size,(DB s la lb Lc).size):=by
  unfold DB
  exact F5 (s:=s) hs ok h1 h2
 have ifx:vM (yW s) most=.ok (preB s s.size,(yW s).size):=BV hs h1 h2
 have ss:=Bd s
 unfold vQ at hlt ⊢
 rcases Dj (DB s la lb Lc) (shorter (yW s) (wY s))with e|e
 · rw[e];exact idn
 · rw[e]at hlt ⊢
   rcases Dj (yW s) (wY s)with e2|e2
   · rw[e2];exact ifx
   · rw[e2]at hlt;omega
theorem Jf {s p:ByteArray} (hs:s.size≤300) (hi:vM p s.size=.ok (preB s s.size,p.size)):v7 8 p s.size=some s:=by
 unfold v7
 rw[if_neg (by omega),if_neg (by omega),if_pos rfl,hi]
 have e:((preB s s.size).length:Int)=s.size:=by rw[xf]
 show(if((preB s s.size).length:Int)=s.size∧p.size=p.size then some (bytesOf (preB s s.size))else none)=some s
 rw[if_pos ⟨e,rfl⟩,Hu]
theorem Js (h:H) (hf:h.floor≤h.next):aQ AP.A 329 [] h=some (.bool true,h):=by
 have s20:Ez.size=20:=rfl
 obtain⟨KA,KB,KC,la,lb,Lc,ok⟩:=JG Ez (by omega)
 have k1:=Da h.dL Ez (by omega) ok
 have k2:=H8 h.dL Ez (by omega) ok
 have le:=(K8 Ez la lb Lc).2.1
 have fx:(yW Ez).size≤13:=by
  have:=KT
  unfold yW;rw[xW];omega
 have i1:=Ha (by omega) ok (by omega) (most:=(Ez.size:Int)) (by omega) (by omega)
 have u1:=Jf (by omega) i1
 have u2:v7 8 (vQ Ez la lb Lc) 19=none:=by
  unfold v7
  rw[if_neg (by omega),if_neg (by omega),if_pos rfl,DD i1 (by omega) (by rw[xf];omega)]
 have pv:Ef (vQ Ez la lb Lc) Ez=.bO [.int .i64 8,.str (vQ Ez la lb Lc),.int .i64 0]:=by unfold Ef;rw[if_pos (by omega)]
 rw[pv]at k2
 generalize vQ Ez la lb Lc=T at *
 have b7:T.size≤13:=by omega
 have k4:=zG h.dL (by simp) 8 T 20 (by omega)
 have u1':v7 8 T 20=some Ez:=u1
 rw[u1']at k4
 have k5:=zG h.dL (by simp) 8 T 19 (by omega)
 rw[u2]at k5
 have k6:=zG h.dL (by simp) 1 ⟨#[]⟩ 0 (by decide)
 have u3:v7 1 ⟨#[]⟩ 0=none:=by unfold v7;rw[if_neg (by omega),if_neg (by omega),if_neg (by omega)]
 rw[u3]at k6
 obtain⟨KA',KB',KC',la',lb',Lc',ok'⟩:=JG ⟨#[120,121]⟩ (by decide)
 have k3:=H8 h.dL ⟨#[120,121]⟩ (by decide) ok'
 have pv':Ef (vQ ⟨#[120,121]⟩ la' lb' Lc') ⟨#[120,121]⟩=.bO [.int .i64 0,.str ⟨#[120,121]⟩,.int .i64 0]:=by
  have:=K7 ⟨#[120,121]⟩ la' lb' Lc'
  unfold Ef
  rw[if_neg]
  have:(⟨#[120,121]⟩:ByteArray).size=2:=rfl
  omega
 rw[pv']at k3
 simp only[OH]at k4 k5 k6
 have n0:∀(k:Int) (g:H),aQ AP.A 9 [.int .i64 k] g=some (.int .i64 k,g):=fun k g=>LW g k
 have ea:(⟨#[97,97,97,97,97,97,97,97,97,97,97,97,97,97,97,97,97,97,97,97]⟩:ByteArray)=Ez:=rfl
 have q1:(T.toList==T.toList)=true:=by simp
 have q2:(Ez.toList==Ez.toList)=true:=by simp
 have q3:((⟨#[120,121]⟩:ByteArray).toList==(⟨#[120,121]⟩:ByteArray).toList)=true:=by simp
 have b1:bn .eql (.str T) (.str T)=some (.bool true):=by simp [bn,jG]
 have b2:bn .eql (.str Ez) (.str Ez)=some (.bool true):=by simp [bn,jG]
 have b3:bn .eql (.str ⟨#[120,121]⟩) (.str ⟨#[120,121]⟩)=some (.bool true):=by simp [bn,jG]
 have z0:((0:Int)==0)=true:=by decide
 have z8:((8:Int)==8)=true:=by decide
 have z9:((900:Int)==900)=true:=by decide
 refine tL (fn:=AP.f329) (h2:=h.dL) (e:=[(0,.bool true)]) (vs:=[.bool true]) rfl rfl rfl ?_ rfl rfl
 clear ok ok' le fx i1 u1 u1' u2 pv pv' u3 q1 q2 q3
 simp (disch:=omega)only[go_sem,vz,AP.f329,ea,k1,k2,k3,k4,k5,k6,n0,b1,b2,b3,z0,z8,z9]
theorem Rf (a b:ByteArray):bn .eql (.str a) (.str b)=some (.bool (a.toList==b.toList)):=by simp [bn,jG]
theorem Re:yW ⟨#[]⟩=⟨#[3,0]⟩:=by
 have:(bytesOf (vH (v9 (tokens ⟨#[]⟩)))).data.toList=[3,0]:=by decide+kernel
 unfold yW
 apply ByteArray.ext
 apply Array.ext'
 exact this
theorem LR {m:Int} (h0:0≤m) (h1:m≤8192):vM ⟨#[3,0]⟩ m=.ok ([],2):=by
 have:=BV (s:=⟨#[]⟩) (by decide) (most:=m) (by show(0:Int)≤m;exact h0) h1
 rw[Re]at this
 exact this
theorem QD:(match vM ⟨#[]⟩ 0 with| .ok _=>false| .error _=>true)=true:=by decide+kernel
theorem Jx (n : Nat) : ∀ h : H, ∀ id, h.get id = some (xE n [.int .u8 0]) → tD h (.aD id 0 n 1) (aR h 1 (.aD id 0 n 1)) = some (.str (bytesOf (List.replicate n 0)), h) := by
 intro h id g
 have e:xE n [.int .u8 0]=xO (List.replicate n 0):=by
  induction n generalizing h with
  |zero=>rfl
  | succ n ih =>
    have:∀n,xE n [AV.int .u8 0]=xO (List.replicate n 0):=by
     intro n
     induction n with
     |zero=>rfl
     |succ n ih=>rw[List.replicate_succ];show AV.int .u8 0::xE n [AV.int .u8 0]=_;rw[ih];rfl
    exact this (n+1)
 rw[e]at g
 by_cases c:n=0
 · subst c
   have:aR h 1 (.aD id 0 0 1)=some (0,[]):=by
    simp only[aR,if_true,g,uE]
    rfl
   rw[this];rfl
 · have l:(xO (List.replicate n 0)).length=n:=by simp [xO]
   have o:Rd h (.aD id 0 n 1) (xO (List.replicate n 0)):=⟨by simp [aR,g,l,uW],by intro s e;cases e⟩
   have s1:=o.1
   rw[s1]
   have bb:∀m,kA (xO (List.replicate m 0))=some ((List.replicate m 0).map UInt8.ofNat):=by
    intro m
    induction m with
    |zero=>rfl
    | succ m ih =>
      have ih':kA (List.map (fun (b:Nat)=>AV.int .u8 (b:Int)) (List.replicate m 0))=some ((List.replicate m 0).map UInt8.ofNat):=ih
      simp only[List.replicate_succ,xO,R5,kA,ih',uE]
      rfl
   show(kA (xO (List.replicate n 0))).bind _=_
   rw[bb]
   rfl
theorem Fh {m:Int} {p:ByteArray} {z:Int} (h:z<0∨300<z):v7 m p z=none:=by unfold v7;rw[if_pos h]
theorem BI {m:Int} {p:ByteArray} {z:Int} (h0:m≠0) (h8:m≠8):v7 m p z=none:=by
 simp [v7,h0,h8]
theorem QK:v7 8 ⟨#[3,0]⟩ 0=some ⟨#[]⟩:=by
 unfold v7
 rw[if_neg (by omega),if_neg (by omega),if_pos rfl,LR (by omega) (by omega)]
 rfl
theorem Qq {d:Int} (h:1≤d):v7 8 ⟨#[3,0]⟩ d=none:=by
 by_cases c:300<d
 · exact Fh (.inr c)
 · unfold v7
   rw[if_neg (by omega),if_neg (by omega),if_pos rfl,LR (by omega) (by omega)]
   show(if(([]:List Nat).length:Int)=d∧2=(⟨#[3,0]⟩:ByteArray).size then some (bytesOf [])else none)=none
   rw[if_neg]
   intro q
   have:=q.1
   simp at this
   omega
theorem RQ:v7 8 ⟨#[]⟩ 0=none:=by
 unfold v7
 rw[if_neg (by omega),if_neg (by omega),if_pos rfl]
 have:=QD
 cases e:vM ⟨#[]⟩ 0 with
 |ok r=>rw[e]at this;cases this
 |error k=>rfl
def OI (d:Int):List AV:=[.int .i64 (0-d),.int .i64 1,.int .i64 (8+d),.int .i64 0,.int .i64 0,.int .i64 8,.int .i64 8,.int .i64 0]
def Qk:List AV:=[.str ⟨#[]⟩,.str ⟨#[]⟩,.str ⟨#[]⟩,.str ⟨#[97,98]⟩,.str ⟨#[]⟩,.str ⟨#[]⟩,.str ⟨#[3,0]⟩,.str ⟨#[]⟩]
def OK (d:Int):List AV:=[.int .i64 0,.int .i64 0,.int .i64 0,.int .i64 1,.int .i64 (300+d),.int .i64 0,.int .i64 d,.int .i64 (0-d)]
theorem Qi (d:Int) (h1:1≤d) (k:Nat) (hk:k<8):∃(M:Int) (P:ByteArray) (Z:Int),(OI d)[k]?=some (.int .i64 M)∧Qk[k]?=some (.str P)∧(OK d)[k]?=some (.int .i64 Z)∧v7 M P Z=none∧P.size≤2:=by
 match k,hk with
 |0,_=>exact⟨_,_,_,rfl,rfl,rfl,BI (by omega) (by omega),by decide⟩
 |1,_=>exact⟨_,_,_,rfl,rfl,rfl,BI (by omega) (by omega),by decide⟩
 |2,_=>exact⟨_,_,_,rfl,rfl,rfl,BI (by omega) (by omega),by decide⟩
 |3,_=>exact⟨_,_,_,rfl,rfl,rfl,by decide+kernel,by decide⟩
 |4,_=>exact⟨_,_,_,rfl,rfl,rfl,Fh (.inr (by omega)),by decide⟩
 |5,_=>exact⟨_,_,_,rfl,rfl,rfl,RQ,by decide⟩
 |6,_=>exact⟨_,_,_,rfl,rfl,rfl,Qq h1,by decide⟩
 |7,_=>exact⟨_,_,_,rfl,rfl,rfl,Fh (.inl (by omega)),by decide⟩
theorem II (h:H) (hf:h.floor≤h.next) (w x:Int):aQ AP.A 321 [.int .i64 w,.int .i64 x] h=some (.bool true,h):=by
 have ka:=Js h.dL (by simp)
 have n0:∀(k:Int) (g:H),aQ AP.A 9 [.int .i64 k] g=some (.int .i64 k,g):=fun k g=>LW g k
 obtain⟨d,hd1,hd2,ed⟩:∃d:Nat,1≤d∧d≤1024∧bits .and .i64 x 1023=(d:Int)-1:=by
  have:=DI x 10 (by omega)
  refine⟨(x%1024).toNat+1,by omega,by omega, ?_⟩
  have e:bits .and .i64 x 1023=x%1024:=this
  rw[e];omega
 have e1:(1:Int)+((d:Int)-1)=d:=by omega
 obtain⟨k,hk,hu⟩:=QM w 8 (by omega)
 have rm:bn .rem (.int .u64 (IntKind.wrap .u64 w)) (.int .u64 8)=some (.int .u64 k):=by
  show(if(8:Int)=0 then none else some (AV.int .u64 ((IntKind.wrap .u64 w).tmod 8)))=_
  rw[if_neg (by decide),show(IntKind.wrap .u64 w).tmod 8=(k:Int)from hu]
 obtain⟨M,P,Z,g1,g2,g3,un,ps⟩:=Qi d (by omega) k hk
 obtain⟨S,eS⟩:∃S,S=bytesOf (List.replicate (300+d) 0):=⟨_,rfl⟩
 have sS:S.size=300+d:=by rw[eS,vS];simp
 obtain⟨h1,eh1⟩:∃g,g=h.dL.alloc (xE (300+d) [.int .u8 0]):=⟨_,rfl⟩
 obtain⟨h2,eh2⟩:∃g,g=h1.alloc (xE (300+d) [.int .u8 0]):=⟨_,rfl⟩
 obtain⟨h3,eh3⟩:∃g,g=h2.alloc (OI d):=⟨_,rfl⟩
 obtain⟨h4,eh4⟩:∃g,g=h3.alloc Qk:=⟨_,rfl⟩
 obtain⟨h5,eh5⟩:∃g,g=h4.alloc (OK d):=⟨_,rfl⟩
 have b1:=Jx (300+d) h1 h.next (by rw[eh1,vp (by simp)])
 have b2:=Jx (300+d) h2 h1.next (by rw[eh2,vp rfl])
 rw[←eS]at b1 b2
 have k3:=zW h1 S (by omega)
 have k4:=Ht h2 S (by omega)
 have G1:h5.get h2.next=some (OI d):=by rw[eh5,vn (by rw[eh4,eh3];simp;omega),eh4,vn (by rw[eh3];simp),eh3,vp rfl]
 have G2:h5.get h3.next=some Qk:=by rw[eh5,vn (by rw[eh4];simp),eh4,vp rfl]
 have G3:h5.get h4.next=some (OK d):=by rw[eh5,vp rfl]
 have k9:=zG h5 (by rw[eh5,eh4,eh3,eh2,eh1];simp;omega) M P Z (by omega)
 rw[un]at k9
 have k10:=zG h5 (by rw[eh5,eh4,eh3,eh2,eh1];simp;omega) 8 ⟨#[3,0]⟩ 0 (by decide)
 rw[QK]at k10
 simp only[OH]at k9 k10
 have hN:h.dL.next=h.next:=rfl
 have dcast:((300+d:Nat):Int)=300+(d:Int):=by omega
 have dtn:((300:Int)+(d:Int)).toNat=300+d:=by omega
 have wk:IntKind.wrap .i64 (k:Int)=k:=wi (by omega)
 have ik:cM (.int .i64 (k:Nat)) 8=some k:=by simp [cM,ny];omega
 have bm:∀e:Env,look e 42=.int .i64 (0-(d:Int))→look e 44=.int .i64 (8+(d:Int))→aX e (.cC 1 8 [.int .i64 0] [(0,(.t 42)),(1,(.c (.int .i64 1))),(2,(.t 44)),(3,(.c (.int .i64 0))),(4,(.c (.int .i64 0))),(5,(.c (.int .i64 8))),(6,(.c (.int .i64 8))),(7,(.c (.int .i64 0)))])=some (OI d,fun i=>.aD i 0 8 1):=fun e q1 q2=>by
  simp only[aX,R5,SD,X.ev,q1,q2];rfl
 have bp:∀e:Env,aX e (.cC 1 8 [.str ⟨#[]⟩] [(0,(.c (.str ⟨#[]⟩))),(1,(.c (.str ⟨#[]⟩))),(2,(.c (.str ⟨#[]⟩))),(3,(.c (.str ⟨#[97,98]⟩))),(4,(.c (.str ⟨#[]⟩))),(5,(.c (.str ⟨#[]⟩))),(6,(.c (.str ⟨#[3,0]⟩))),(7,(.c (.str ⟨#[]⟩)))])=some (Qk,fun i=>.aD i 0 8 1):=fun _=>rfl
 have bz:∀e:Env,look e 48=.int .i64 (300+(d:Int))→look e 49=.int .i64 (d:Int)→look e 51=.int .i64 (0-(d:Int))→aX e (.cC 1 8 [.int .i64 0] [(0,(.c (.int .i64 0))),(1,(.c (.int .i64 0))),(2,(.c (.int .i64 0))),(3,(.c (.int .i64 1))),(4,(.t 48)),(5,(.c (.int .i64 0))),(6,(.t 49)),(7,(.t 51))])=some (OK d,fun i=>.aD i 0 8 1):=fun e q1 q2 q3=>by
  simp only[aX,R5,SD,X.ev,q1,q2,q3];rfl
 have hb:AP.f321.body=.seq (at_ 0 AP.f321.body) (.seq (at_ 1 AP.f321.body) (.seq (at_ 2 AP.f321.body) (.seq (at_ 3 AP.f321.body) (.seq (at_ 4 AP.f321.body) (.seq (at_ 5 AP.f321.body) (.seq (at_ 6 AP.f321.body) (.seq (at_ 7 AP.f321.body) (KS 8 AP.f321.body)))))))):=rfl
 have a0:aK (aQ AP.A) bu (at_ 0 AP.f321.body) (params 0 [.int .i64 w,.int .i64 x]) h.dL=some (.normal,[(0,.int .i64 w),(1,.int .i64 x)],h.dL):=by
  simp (disch:=omega)only[go_sem,vz,AP.f321,zX,AB]
 have a1:aK (aQ AP.A) bu (at_ 1 AP.f321.body) [(0,.int .i64 w),(1,.int .i64 x)] h.dL=some (.normal,[(0,.int .i64 w),(1,.int .i64 x)],h.dL):=by
  simp (disch:=omega)only[go_sem,vz,AP.f321,zX,AB,ka]
 have a2:aK (aQ AP.A) bu (at_ 2 AP.f321.body) [(0,.int .i64 w),(1,.int .i64 x)] h.dL=some (.normal,[(0,.int .i64 w),(5,.int .i64 d)],h.dL):=by
  simp (disch:=omega)only[go_sem,vz,AP.f321,zX,AB,ed,e1]
 have a3:aK (aQ AP.A) bu (at_ 3 AP.f321.body) [(0,.int .i64 w),(5,.int .i64 d)] h.dL=some (.normal,[(0,.int .i64 w),(5,.int .i64 d),(7,.int .i64 900)],h1):=by
  clear a0 a1 a2 hb bm bz bp
  simp (disch:=omega)only[go_sem,vz,AP.f321,zX,AB,dtn,hN,←eh1,b1,k3]
 have a4:aK (aQ AP.A) bu (at_ 4 AP.f321.body) [(0,.int .i64 w),(5,.int .i64 d),(7,.int .i64 900)] h1=some (.normal,[(0,.int .i64 w),(5,.int .i64 d),(7,.int .i64 900),(10,.int .i64 900)],h2):=by
  clear a0 a1 a2 a3 hb bm bz bp
  simp (disch:=omega)only[go_sem,vz,AP.f321,zX,AB,dtn,←eh2,b2,k4]
 have a5:aK (aQ AP.A) bu (at_ 5 AP.f321.body) [(0,.int .i64 w),(5,.int .i64 d),(7,.int .i64 900),(10,.int .i64 900)] h2=some (.normal,[(0,.int .i64 w),(5,.int .i64 d),(7,.int .i64 900),(10,.int .i64 900),(11,.aD h2.next 0 8 1)],h3):=by
  clear a0 a1 a2 a3 a4 hb bz bp
  unfold OI at eh3
  simp (disch:=omega)only[go_sem,vz,AP.f321,zX,AB,tJ,←eh3]
 have a6:aK (aQ AP.A) bu (at_ 6 AP.f321.body) [(0,.int .i64 w),(5,.int .i64 d),(7,.int .i64 900),(10,.int .i64 900),(11,.aD h2.next 0 8 1)] h3=some (.normal,[(0,.int .i64 w),(5,.int .i64 d),(7,.int .i64 900),(10,.int .i64 900),(11,.aD h2.next 0 8 1),(12,.aD h3.next 0 8 1)],h4):=by
  clear a0 a1 a2 a3 a4 a5 hb bz bm
  simp (disch:=omega)only[go_sem,vz,AP.f321,zX,AB,bp,←eh4]
 have a7:aK (aQ AP.A) bu (at_ 7 AP.f321.body) [(0,.int .i64 w),(5,.int .i64 d),(7,.int .i64 900),(10,.int .i64 900),(11,.aD h2.next 0 8 1),(12,.aD h3.next 0 8 1)] h4=some (.normal,[(0,.int .i64 w),(7,.int .i64 900),(10,.int .i64 900),(11,.aD h2.next 0 8 1),(12,.aD h3.next 0 8 1),(13,.aD h4.next 0 8 1)],h5):=by
  clear a0 a1 a2 a3 a4 a5 a6 hb bp bm
  unfold OK at eh5
  simp (disch:=omega)only[go_sem,vz,AP.f321,zX,AB,tJ,←eh5]
 have z0:((0:Int)==0)=true:=by decide
 have z9:((900:Int)==900)=true:=by decide
 have q0:bn .eql (.str ⟨#[]⟩) (.str ⟨#[]⟩)=some (.bool true):=by rw[Rf];simp
 have a8:aK (aQ AP.A) bu (KS 8 AP.f321.body) [(0,.int .i64 w),(7,.int .i64 900),(10,.int .i64 900),(11,.aD h2.next 0 8 1),(12,.aD h3.next 0 8 1),(13,.aD h4.next 0 8 1)] h5=some (.ret,[(4,.bool true)],h5):=by
  clear a0 a1 a2 a3 a4 a5 a6 a7 hb bp bm bz
  generalize OI d=L1 at *
  generalize OK d=L3 at *
  generalize Qk=L2 at *
  simp (disch:=omega)only[go_sem,vz,AP.f321,LC,Lz,rm,wk,ik,G1,G2,G3,g1,g2,g3,k9,k10,n0,z0,z9,q0]
 refine tL (fn:=AP.f321) (h2:=h5) (e:=[(4,.bool true)]) (vs:=[.bool true]) rfl rfl rfl ?_ rfl rfl
 rw[hb,rF,a0,su,rF,a1,su,rF,a2,su,rF,a3,su,rF,a4,su,rF,a5,su,rF,a6,su,rF,a7,su,a8]
theorem Bu (r:List (Ty×List AV)) (h:r.map (·.1)=[Hg,Hg]) (hp:∀x∈r,Sh reachBytes x.1 x.2):aQ AP.A 321 (r.map jF) H.empty=some (.bool true,H.empty):=by
 obtain⟨x,y,rfl,h1,h2⟩:=QH h hp
 obtain⟨a,rfl,ha⟩:=Km h1
 obtain⟨b,rfl,_⟩:=Km h2
 exact II H.empty (uH _) a b
end Ab
