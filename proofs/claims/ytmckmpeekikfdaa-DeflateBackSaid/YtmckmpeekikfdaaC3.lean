/- Part C3. -/
import Derived.Test.YtmckmpeekikfdaaC2
set_option linter.unusedSimpArgs false
set_option linter.unusedVariables false
set_option maxRecDepth 100000
namespace Ab
open Go
theorem Aa {out:List Nat} {t:Tok} {s':Int} (h:v7 out.length t=some s'):((vG out t).length:Int)=s':=by
 unfold v7 at h
 unfold vG
 by_cases c:t.len=0
 · rw[if_pos c]at h ⊢
   split at h
   · cases h
   · have:=uh h;simp;omega
 · rw[if_neg c]at h ⊢
   split at h
   · cases h
   · have:=uh h;rw[Cm];omega
theorem HW : ∀ (ts : List Tok) (out : List Nat), vy out.length ts = true → out.length ≤ 8192 → (xn ts out).length ≤ 8192
 |[],_,_,h=>h
 | t :: r, out, hm, _ => by
   unfold vy at hm
   cases e:v7 out.length t with
   |none=>rw[e]at hm;cases hm
   | some s' =>
     rw[e]at hm
     have l:=Aa e
     by_cases c:8192<s'
     · simp only[if_pos c]at hm;cases hm
     · simp only[if_neg c]at hm
       rw[←l]at hm
       exact HW r (vG out t) hm (by omega)
theorem Hh {ts:List Tok} {t:ByteArray} (h:yk ts=some t):t.size≤8192:=by
 unfold yk at h
 split at h
 · rename_i c
   rw[←uh h,vZ]
   exact HW ts [] c (by simp)
 · cases h
theorem Fx {hb : H} {x : Nat} {v : AV} {ts : List Tok} (hn : ts.length < 1125899906842624) (rd : yx 3 hb v ts.length (v9 ts)) : ∀ (q p : List Tok) (out : List Nat) (h : H) (ov : AV), ts = p ++ q → Tx hb h x ov out → out.length ≤ 8192 →
 (vy out.length q=true→∃h' ov' e',Lp AP.A [5,10,11,12] AP.f343L0 [(5,.fn 353 [.aD x 0] []),(10,v),(11,.int .i64 ts.length),(12,.int .i64 p.length)] h=some (.exit 0,e',h')∧Tx hb h' x ov' (xn q out)∧(xn q out).length≤8192)∧
 (vy out.length q=false→∃h',Lp AP.A [5,10,11,12] AP.f343L0 [(5,.fn 353 [.aD x 0] []),(10,v),(11,.int .i64 ts.length),(12,.int .i64 p.length)] h=some (.ret,[(4,.bool false)],h'))
 | [], p, out, h, ov, hp, t, hl => by
   rw[Sd]at hp;subst hp
   refine⟨fun _=>⟨h,ov,[(5,.fn 353 [.aD x 0] []),(10,v),(11,.int .i64 ts.length),(12,.int .i64 ts.length),(13,.bool false)],sM ?_,t,hl⟩,fun q=>by cases q⟩
   simp (disch:=omega)only[go_sem,vr,AP.f343L0]
 | k :: q, p, out, h, ov, hp, t, hl => by
   have hlen:ts.length=p.length+(q.length+1):=by rw[hp];simp
   have hk:ts[p.length]?=some k:=by rw[hp];simp
   obtain⟨ad,a1,a2,a3⟩:=rd.ON
   have b1:=a1 p.length ⟨by omega,by omega⟩
   obtain⟨_,_,_,b2⟩:=a3 h t.ext _ _ hk
   have c1:((p.length:Nat):Int)<ts.length:=by omega
   obtain⟨g,eg⟩:∃g,g=(h.alloc [.int .i64 0,.int .i64 0,.int .i64 0]).set h.next [.int .i64 k.lit,.int .i64 k.len,.int .i64 k.vL]:=⟨_,rfl⟩
   have gg:g.get h.next=some [.int .i64 k.lit,.int .i64 k.len,.int .i64 k.vL]:=by rw[eg,vq rfl,vk rfl];rfl
   have gn:g.next=h.next+1:=by rw[eg];simp
   have gk:∀i,i<h.next→g.get i=h.get i:=fun i hi=>by rw[eg,uY (by omega),vg (by omega)]
   have fl1:h.floor≤h.next:=t.Jn
   have lx:=h.lt _ _ t.gx
   have tg:Tx hb g x ov out:=⟨fun i c hi=>by
    have e:=t.ext i c hi
    have:=h.lt _ _ e
    rw[gk i this,e],by rw[eg];simpa using t.fl,by rw[gn,eg];simp;omega,by rw[gk x lx,t.gx],t.lx,t.own.mono (by rw[eg];simp) fun i hi=>gk i (t.own.lt hi).2,t.nx,t.HN⟩
   obtain⟨h1,ov1,k1,t1,_⟩:=Oz tg k hl
   have k1':j3 (aR AP.A) [.agg [.int .i64 k.lit,.int .i64 k.len,.int .i64 k.vL]] g (.fn 353 [.aD x 0] [])=some (.bool (HF out k).isSome,h1):=k1
   cases hs:HF out k with
   | none =>
     have hm:vy out.length (k::q)=false:=by
      unfold HF at hs
      rw[vy]
      cases e:v7 out.length k with
      |none=>rfl
      | some s' =>
        rw[e]at hs
        simp only at hs ⊢
        by_cases c:8192<s'
        · rw[if_pos c]
        · rw[if_neg c]at hs;cases hs
     refine⟨fun q=>(by rw[hm]at q;cases q),fun _=>⟨h1,tq ?_⟩⟩
     rw[hs]at k1'
     have k2:aR AP.A 353 ([.aD x 0]++[.agg [.int .i64 k.lit,.int .i64 k.len,.int .i64 k.vL]]++[]) g=some (.bool false,h1):=k1'
     simp only[List.cons_append,List.nil_append,Sd]at k2
     clear t tg t1 a1 a2 a3 rd
     simp (disch:=omega)only[go_sem,vr,AP.f343L0,c1,b1,b2,←eg,gg,k2,KV,uH,SD,Sf]
   | some o' =>
     rw[hs]at t1 k1'
     simp only[Option.getD_some]at t1
     have key:∃s',v7 out.length k=some s'∧¬8192<s'∧o'=vG out k:=by
      unfold HF at hs
      cases e:v7 out.length k with
      |none=>rw[e]at hs;cases hs
      | some s' =>
        rw[e]at hs
        simp only at hs
        by_cases c:8192<s'
        · rw[if_pos c]at hs;cases hs
        · rw[if_neg c]at hs
          exact⟨s',rfl,c,(uh hs).symm⟩
     obtain⟨s',e1,e2,e3⟩:=key
     have el:=Aa e1
     rw[←e3]at el
     have hm:vy out.length (k::q)=vy o'.length q:=by
      rw[vy,e1]
      simp only[if_neg e2,el]
     have ee:xn (k::q) out=xn q o':=by rw[xn,e3]
     rw[hm,ee]
     have k2:aR AP.A 353 ([.aD x 0]++[.agg [.int .i64 k.lit,.int .i64 k.len,.int .i64 k.vL]]++[]) g=some (.bool true,h1):=k1'
     simp only[List.cons_append,List.nil_append,Sd]at k2
     obtain⟨r1,r2⟩:=Fx hn rd q (p++[k]) o' h1 ov1 (by rw[hp];simp) t1 (by omega)
     have w1:((p++[k]).length:Int)=(p.length:Int)+1:=by simp
     rw[w1]at r1 r2
     have st:aL (aR AP.A) bp AP.f343L0 (ay [(5,.fn 353 [.aD x 0] []),(10,v),(11,.int .i64 ts.length),(12,.int .i64 p.length)] [5,10,11,12]) h=some (.normal,[(5,.fn 353 [.aD x 0] []),(10,v),(11,.int .i64 ts.length),(12,.int .i64 ((p.length:Int)+1))],h1):=by
      clear t tg t1 a1 a2 a3 rd r1 r2
      simp (disch:=omega)only[go_sem,vr,AP.f343L0,c1,b1,b2,←eg,gg,k2,KV,uH,SD,Sf]
     refine⟨fun z=> ?_,fun z=> ?_⟩
     · obtain⟨h',ov',e',L,q1,q2⟩:=r1 z
       exact⟨h',ov',e',sN st L,q1,q2⟩
     · obtain⟨h',L⟩:=r2 z
       exact⟨h',sN st L⟩
theorem Jd (h:H) (v:AV) (ts:List Tok) (hn:ts.length<1125899906842624) (rd:yx 3 h v ts.length (v9 ts)):aR AP.A 328 [v] h=some (Nn (yk ts),h):=by
 have yN:yx 3 h.dH v ts.length (v9 ts):=rd.mono fun i c q=>q
 have ln:=rd.len
 obtain⟨g,eg⟩:∃g,g=h.dH.alloc [.aP]:=⟨_,rfl⟩
 have gx:g.get h.next=some [.aP]:=by rw[eg,vk (by simp)]
 have t0:Tx h.dH g h.next .aP []:=⟨by rw[eg];exact(Ext.refl _).alloc _,by rw[eg];simp,by rw[eg];simp,gx,by simp,vY.nil,by simp [AV.id?],fun y hy=>by simp at hy⟩
 obtain⟨r1,r2⟩:=Fx hn yN ts [] [] g .aP rfl t0 (by simp)
 have hN:h.dH.next=h.next:=rfl
 unfold yk
 by_cases hm:vy 0 ts=true
 · rw[if_pos hm]
   obtain⟨h',ov',e',L,t1,_⟩:=r1 hm
   have L':Lp AP.A [5,10,11,12] AP.f343L0 [(5,.fn 353 [.aD h.next 0] []),(10,v),(11,.int .i64 ts.length),(12,.int .i64 0)] g=some (.exit 0,e',h'):=L
   have k:aR AP.A 343 [.aD h.next 0,v] g=some (.bool true,h'):=by
    refine s7 (fn:=AP.f343) (e:=[(4,.bool true)]) (vs:=[.bool true]) rfl rfl rfl ?_ rfl
    clear t1 t0 rd yN r1 r2
    simp (disch:=omega)only[go_sem,vr,AP.f343,ln,rK,L']
   have b:=Fz t1.own
   have g1:=t1.gx
   refine tE (fn:=AP.f328) (h2:=h') (e:=[(2,.str (bytesOf (xn ts []))),(3,.int .i64 0)]) (vs:=[.str (bytesOf (xn ts [])),.int .i64 0]) rfl rfl rfl ?_ rfl rfl
   clear t1 t0 rd yN r1 r2 L L'
   generalize bytesOf (xn ts [])=B at *
   simp (disch:=omega)only[go_sem,vr,AP.f328,←eg,hN,k,g1,b]
 · rw[if_neg hm]
   obtain⟨h',L⟩:=r2 (Bool.eq_false_iff.2 hm)
   have L':Lp AP.A [5,10,11,12] AP.f343L0 [(5,.fn 353 [.aD h.next 0] []),(10,v),(11,.int .i64 ts.length),(12,.int .i64 0)] g=some (.ret,[(4,.bool false)],h'):=L
   have k:aR AP.A 343 [.aD h.next 0,v] g=some (.bool false,h'):=by
    refine s7 (fn:=AP.f343) (e:=[(4,.bool false)]) (vs:=[.bool false]) rfl rfl rfl ?_ rfl
    clear t0 rd yN r1 r2
    simp (disch:=omega)only[go_sem,vr,AP.f343,ln,rK,L']
   refine tE (fn:=AP.f328) (h2:=h') (e:=[(2,.str ⟨#[]⟩),(3,.int .i64 500)]) (vs:=[.str ⟨#[]⟩,.int .i64 500]) rfl rfl rfl ?_ rfl rfl
   clear t0 rd yN r1 r2 L L'
   simp (disch:=omega)only[go_sem,vr,AP.f328,←eg,hN,k]
theorem Ki (h:H) (v:AV) (ts:List Tok) (hn:ts.length<1125899906842624) (rd:yx 3 h v ts.length (v9 ts)):aR AP.A 337 [v] h=some (.bool (DI ts),h):=by
 have k:=Jd h.dH v ts hn (rd.mono fun i c q=>q)
 unfold DI
 cases he:yk ts with
 | none =>
   rw[he]at k
   simp only[Nn]at k
   refine tE (fn:=AP.f337) (h2:=h.dH) (e:=[(2,.bool false)]) (vs:=[.bool false]) rfl rfl rfl ?_ rfl rfl
   have cb:((500:Int)==0)=false:=by decide
   clear rd
   simp (disch:=omega)only[go_sem,vr,AP.f337,k,cb]
 | some t =>
   rw[he]at k
   have:=Hh he
   simp only[Nn]at k
   refine tE (fn:=AP.f337) (h2:=h.dH) (e:=[(2,.bool (decide (t.size≤300)))]) (vs:=[.bool (decide (t.size≤300))]) rfl rfl rfl ?_ rfl rfl
   have cb:((0:Int)==0)=true:=by decide
   clear rd
   by_cases c:t.size≤300
   · have c':(t.size:Int)≤300:=by omega
     simp (disch:=omega)only[go_sem,vr,AP.f337,k,R0 c,c',cb]
   · have c':¬(t.size:Int)≤300:=by omega
     simp (disch:=omega)only[go_sem,vr,AP.f337,k,RY c,c',cb]
theorem Ef (s : ByteArray) (i d : Nat) (hs : s.size < 100000) (hd : d ≤ i) (hi : i ≤ s.size) (h : H) : ∀ (f k : Nat), k + f = 258 →
 ∃e',Lp AP.A [0,1,2,7] AP.f354L0 [(0,.str s),(1,.int .i64 i),(2,.int .i64 d),(7,.int .i64 k)] h=some (.exit 0,e',h)∧look e' 7=.int .i64 (yd s i (i-d) f k:Nat)
 | 0, k, hk => by
   obtain rfl:k=258:=by omega
   refine⟨[(0,.str s),(1,.int .i64 i),(2,.int .i64 d),(7,.int .i64 258),(32,.bool false)],sM ?_,rfl⟩
   have c:¬((258:Nat):Int)<258:=by omega
   simp (disch:=omega)only[go_sem,vr,AP.f354L0,c]
 | f + 1, k, hk => by
   have n1:((k:Int)+1)=((k+1:Nat):Int):=by omega
   have c0:(k:Int)<258:=by omega
   by_cases c1:i+k<s.size
   · have c1':(i:Int)+(k:Int)<s.size:=by omega
     have x1:lJ (.str s) (.int .i64 ((i:Int)+(k:Int)))=some (.int .u8 (xH s (i+k):Nat)):=by
      have:=zK (s:=s) (i:=(i:Int)+(k:Int)) ⟨by omega,by omega⟩
      rw[show((i:Int)+(k:Int)).toNat=i+k by omega]at this;exact this
     have x2:lJ (.str s) (.int .i64 ((i:Int)+(k:Int)-(d:Int)))=some (.int .u8 (xH s (i-d+k):Nat)):=by
      have:=zK (s:=s) (i:=(i:Int)+(k:Int)-(d:Int)) ⟨by omega,by omega⟩
      rw[show((i:Int)+(k:Int)-(d:Int)).toNat=i-d+k by omega]at this;exact this
     by_cases c2:xH s (i+k)=xH s (i-d+k)
     · obtain⟨e',r1,r2⟩:=Ef s i d hs hd hi h f (k+1) (by omega)
       refine⟨e',sN ?_ r1, ?_⟩
       · rw[←n1]
         have cb:((xH s (i+k):Int)==(xH s (i-d+k):Int))=true:=by simp [c2]
         simp (disch:=omega)only[go_sem,vr,AP.f354L0,c0,c1',x1,x2,cb]
       · rw[r2,yd,if_pos ⟨by omega,c1,c2⟩]
     · refine⟨[(0,.str s),(1,.int .i64 i),(2,.int .i64 d),(7,.int .i64 k),(32,.bool false)],sM ?_, ?_⟩
       · have cb:((xH s (i+k):Int)==(xH s (i-d+k):Int))=false:=by simp;omega
         simp (disch:=omega)only[go_sem,vr,AP.f354L0,c0,c1',x1,x2,cb]
       · rw[yd,if_neg (fun q=>c2 q.2.2)];rfl
   · refine⟨[(0,.str s),(1,.int .i64 i),(2,.int .i64 d),(7,.int .i64 k),(32,.bool false)],sM ?_, ?_⟩
     · have c1':¬(i:Int)+(k:Int)<s.size:=by omega
       simp (disch:=omega)only[go_sem,vr,AP.f354L0,c0,c1']
     · rw[yd,if_neg (fun q=>c1 q.2.1)];rfl
theorem Oq (h:H) (s:ByteArray) (i d:Nat) (hs:s.size<100000) (hd:d≤i) (hi:i≤s.size):aR AP.A 354 [.str s,.int .i64 i,.int .i64 d] h=some (.int .i64 (same s i (i-d):Nat),h):=by
 obtain⟨e',r1,r2⟩:=Ef s i d hs hd hi h.dH 258 0 rfl
 have r1':Lp AP.A [0,1,2,7] AP.f354L0 [(0,.str s),(1,.int .i64 i),(2,.int .i64 d),(7,.int .i64 0)] h.dH=some (.exit 0,e',h.dH):=r1
 clear r1
 refine tE (fn:=AP.f354) (h2:=h.dH) (e:=[(6,.int .i64 (same s i (i-d):Nat))]) (vs:=[.int .i64 (same s i (i-d):Nat)]) rfl rfl rfl ?_ rfl rfl
 simp (disch:=omega)only[go_sem,vr,AP.f354,rK,r1',r2,same]
def Eh (b:Nat×Nat):Nat×Nat:=if b.1<3 then(0,0)else b
theorem J6 (b:Nat×Nat) (m d:Nat):Eh (if b.1<m then(m,d)else b)=if 3≤m∧(Eh b).1<m then(m,d)else Eh b:=by
 unfold Eh
 by_cases c:b.1<3
 · rw[if_pos c]
   by_cases q:b.1<m
   · rw[if_pos q]
     by_cases z:m<3
     · rw[if_pos z,if_neg (by omega)]
     · rw[if_neg z,if_pos ⟨by omega,by show 0<m;omega⟩]
   · rw[if_neg q,if_pos c,if_neg (by omega)]
 · rw[if_neg c]
   by_cases q:b.1<m
   · rw[if_pos q,if_neg (by show¬m<3;omega),if_pos ⟨by omega,q⟩]
   · rw[if_neg q,if_neg c,if_neg (fun z=>q z.2)]
theorem Al (s : ByteArray) (i : Nat) (hs : s.size < 32000) (hi : i < s.size) (v4 : AV) (c5 : Nat) : ∀ (n : Nat) (b : Nat × Nat) (d : Int) (h : H), n ≤ i → d = (i : Int) - n + 1 → h.get c5 = some [.int .i64 0, .int .i64 (Eh b).1, .int .i64 (Eh b).2] → h.floor ≤ c5 →
 ∃e' h',Lp AP.A [0,1,4,5,6] AP.f344L0 [(0,.str s),(1,.int .i64 i),(4,v4),(5,.aD c5 0),(6,.int .i64 d)] h=some (.exit 0,e',h')∧look e' 4=v4∧look e' 5=.aD c5 0∧h'.get c5=some [.int .i64 0,.int .i64 (Eh (vK s i n b)).1,.int .i64 (Eh (vK s i n b)).2]∧(∀j,j≠c5→h'.get j=h.get j)∧h'.next=h.next∧h'.floor=h.floor
 | 0, b, d, h, hn, hd, hg, hf => by
   refine⟨[(0,.str s),(1,.int .i64 i),(4,v4),(5,.aD c5 0),(6,.int .i64 d),(11,.bool false)],h,sM ?_,rfl,rfl,hg,fun _ _=>rfl,rfl,rfl⟩
   have m:E1 (i:Int) 32768=i:=by unfold E1;rw[if_neg (by omega)]
   have c:¬d≤(i:Int):=by omega
   simp (disch:=omega)only[go_sem,vr,AP.f344L0,Ai,yO,m,c]
 | n + 1, b, d, h, hn, hd, hg, hf => by
   have m:E1 (i:Int) 32768=i:=by unfold E1;rw[if_neg (by omega)]
   have c:d≤(i:Int):=by omega
   obtain⟨D,rfl⟩:∃D:Nat,d=D:=R2 (by omega)
   have k1:=fun g=>Oq g s i D (by omega) (by omega) (by omega)
   have eD:i-D=n:=by omega
   rw[eD]at k1
   have k2:=Il s i n
   have st:=J6 b (same s i n) (i-n)
   have iD:i-n=D:=by omega
   rw[vK]
   by_cases q:3≤same s i n∧(Eh b).1<same s i n
   · rw[if_pos q,iD]at st
     rw[iD]
     obtain⟨e',h',L,r1,r2,r3,r4,r5,r6⟩:=Al s i hs hi v4 c5 n (if b.1<same s i n then(same s i n,D)else b) ((D:Int)+1) (h.set c5 [.int .i64 0,.int .i64 (same s i n:Nat),.int .i64 D]) (by omega) (by omega) (by rw[vq rfl,hg,st];rfl) (by simpa using hf)
     refine⟨e',h',sN ?_ L,r1,r2,r3,fun j hj=>by rw[r4 j hj,uY hj],by rw[r5];simp,by rw[r6];simp⟩
     have q1:(3:Int)≤(same s i n:Nat):=by omega
     have q2:((Eh b).1:Int)<(same s i n:Nat):=by omega
     clear L r3 r4 st
     generalize same s i n=M at *
     generalize (Eh b).1=B1 at *
     generalize (Eh b).2=B2 at *
     simp (disch:=omega)only[go_sem,vr,AP.f344L0,Ai,yO,m,c,k1,q1,q2,hg]
   · rw[if_neg q]at st
     obtain⟨e',h',L,r1,r2,r3,r4,r5,r6⟩:=Al s i hs hi v4 c5 n (if b.1<same s i n then(same s i n,i-n)else b) ((D:Int)+1) h (by omega) (by omega) (by rw[st];exact hg) hf
     refine⟨e',h',sN ?_ L,r1,r2,r3,r4,r5,r6⟩
     clear L r3 r4 st
     generalize same s i n=M at *
     generalize (Eh b).1=B1 at *
     generalize (Eh b).2=B2 at *
     by_cases q1:(3:Int)≤(M:Nat)
     · have q2:¬(B1:Int)<(M:Nat):=by omega
       simp (disch:=omega)only[go_sem,vr,AP.f344L0,Ai,yO,m,c,k1,q1,q2,hg]
     · simp (disch:=omega)only[go_sem,vr,AP.f344L0,Ai,yO,m,c,k1,q1]
theorem LC (h:H) (s:ByteArray) (i:Nat) (hs:s.size<32000) (hi:i<s.size):aR AP.A 344 [.str s,.int .i64 i] h=some (.agg [.int .i64 0,.int .i64 (Eh (vK s i i (0,0))).1,.int .i64 (Eh (vK s i i (0,0))).2],h):=by
 obtain⟨g,eg⟩:∃g,g=(h.dH.alloc [.int .i64 0,.int .i64 0,.int .i64 0]).alloc [.int .i64 0,.int .i64 0,.int .i64 0]:=⟨_,rfl⟩
 obtain⟨e',h',L,r1,r2,r3,r4,r5,r6⟩:=Al s i hs hi (.aD h.next 0) (h.next+1) i (0,0) 1 g (uy _) (by omega) (by rw[eg,vk (by simp)];try rfl) (by rw[eg];simp;try omega)
 have g4:h'.get h.next=some [.int .i64 0,.int .i64 0,.int .i64 0]:=by rw[r4 _ (by omega),eg,vg (by simp),vk (by simp)]
 have f1:h'.floor=h.next:=by rw[r6,eg];simp
 generalize (Eh (vK s i i (0,0))).1=B1 at *
 generalize (Eh (vK s i i (0,0))).2=B2 at *
 have g5:(h'.set h.next [.int .i64 0,.int .i64 B1,.int .i64 B2]).get h.next=some [.int .i64 0,.int .i64 B1,.int .i64 B2]:=by rw[vq rfl,g4];rfl
 refine tE (fn:=AP.f344) (h2:=h'.set h.next [.int .i64 0,.int .i64 B1,.int .i64 B2]) (e:=[(4,.aD h.next 0)]) (vs:=[.agg [.int .i64 0,.int .i64 B1,.int .i64 B2]]) rfl rfl rfl ?_ ?_ rfl
 · have hN:h.dH.next=h.next:=rfl
   have hN2:(h.dH.alloc [.int .i64 0,.int .i64 0,.int .i64 0]).next=h.next+1:=by simp
   clear r4
   simp (disch:=omega)only[go_sem,vr,AP.f344,hN,hN2,←eg,rK,L,r1,r2,r3,g4,f1,KV,uH,SD,Sf]
 · simp (disch:=omega)only[go_sem,vr,AP.f344,cn,mR,g5,KV,uH,SD,Sf]
   rfl
theorem Ii (h:H) (l:List Int):Rd h (y9 (ints l)) (ints l):=by
 unfold y9
 by_cases c:ints l=[]
 · rw[if_pos c,c];exact⟨rfl,by intro s e;cases e⟩
 · rw[if_neg c]
   refine⟨by simp [aS,uP],by intro s e;cases e⟩
theorem IJ (p:List Int) (x:Int) {n:Nat} (hn:1≤n):wK (p++[x]) n=wK p n+if x=(n:Int)then 1 else 0:=by
 rw[zf]
 congr 1
 by_cases c:x=(n:Int)
 · rw[if_pos ⟨by omega,c⟩,if_pos c]
 · rw[if_neg (fun q=>c q.2),if_neg c]
theorem CN {l : List Int} (hl : l.length < 1000) (T : List AV) (v25 : AV) (id n : Nat) (hn1 : 1 ≤ n) (hn : n ≤ 15) (hT : T[n]? = some (.int .i64 (ve l n))) : ∀ (q p : List Int) (h : H), l = p ++ q → h.floor ≤ id → h.get id = some ((wA l n p.length).flatMap wH) →
 ∃h',Lp AP.A [4,6,7,25,26,30,31,32] AP.f338L0 [(4,.aK T 0),(6,.aE id 0 l.length 2),(7,.int .i64 n),(25,v25),(26,.int .i64 n),(30,y9 (ints (syms l n))),(31,.int .i64 (wK l n)),(32,.int .i64 (wK p n))] h=some (.exit 2,[(4,.aK T 0),(6,.aE id 0 l.length 2),(7,.int .i64 n),(25,v25),(26,.int .i64 n),(30,y9 (ints (syms l n))),(31,.int .i64 (wK l n)),(32,.int .i64 (wK l n)),(33,.bool false)],h')∧h'.floor=h.floor∧h'.get id=some ((wA l n l.length).flatMap wH)
 | [], p, h, hp, hf, hg => by
   rw[Sd]at hp;subst hp
   refine⟨h,sM ?_,rfl,hg⟩
   simp (disch:=omega)only[go_sem,vr,AP.f338L0]
 | y :: q, p, h, hp, hf, hg => by
   have hlen:l.length=p.length+(q.length+1):=by rw[hp];simp
   have hy:l.getD p.length 0=y:=by rw[RT,hp];simp
   have tk:l.take p.length=p:=by rw[hp];simp
   have ls:=IJ p y hn1
   have sl:(p++[y]).length=p.length+1:=by simp
   by_cases c:y=(n:Int)
   · rw[if_pos c]at ls
     have sa:=Is (l:=l) (s:=p.length) (by omega) hn1 (hy.trans c)
     rw[tk]at sa
     have hit:=IL (l:=l) (i:=p.length) (by omega) hn1 (hy.trans c)
     rw[tk]at hit
     obtain⟨ad,a1,a2⟩:=(Ii h (syms l n)).xh
     have sc:=zE l n
     have il:wK p n<wK l n:=by have:=(uu.1 sa).1;omega
     have b1:=a1 (wK p n) ⟨by omega,by omega⟩
     have b2:=a2 h (Ext.refl h) (wK p n) _ sa
     have fb:=Bn (l:=l) (by omega) n
     have pw:=BB hn
     have cl:=z4 l n
     obtain⟨h',L,f1,g1⟩:=CN hl T v25 id n hn1 hn hT q (p++[y]) (h.set id ((wA l n (p.length+1)).flatMap wH)) (by rw[hp];simp) (by simpa using hf) (by rw[vq rfl,hg,sl];rfl)
     have st:tG h id (p.length* 2) 2 [.int .i64 (n:Int),.int .i64 (ve l n+(wK p n:Int))] (some ((wA l n p.length).flatMap wH))=some (h.set id ((wA l n (p.length+1)).flatMap wH)):=by
      rw[KD,←hit,←JR yG _ _ _ (by rw[Bi];omega)]
      have:=Bp yG (wA l n p.length)
      rw[Bi]at this
      simp only[this,hf,RU,RX,decide_true,AV.aC,AV.sc,Bool.and_true,Bool.true_and,show p.length* 2+2≤l.length* 2 by omega]
      rfl
     refine⟨h',sN ?_ L,by rw[f1];simp,g1⟩
     rw[ls]
     have n1:((wK p n+1:Nat):Int)=(wK p n:Int)+1:=by omega
     rw[n1]
     have ib:cH (.int .i64 (p.length:Nat)) l.length=some p.length:=by
      have:(p.length:Int)<l.length:=by omega
      simp [cH,nk,this]
     have il':((wK p n:Nat):Int)<(wK l n:Nat):=by omega
     clear L g1 a1 a2 hit sa ls
     generalize (wA l n (p.length+1)).flatMap wH=E2 at *
     generalize (wA l n p.length).flatMap wH=E at *
     generalize y9 (ints (syms l n))=SV at *
     generalize ve l n=F at *
     generalize wK p n=k at *
     generalize wK l n=K at *
     simp (disch:=omega)only[go_sem,vr,AP.f338L0,il',b1,b2,hT,ib,hg,st]
   · rw[if_neg c,Nat.add_zero]at ls
     have miss:=G9 (l:=l) (b:=n) (i:=p.length) (by rw[hy];exact c)
     obtain⟨h',L,f1,g1⟩:=CN hl T v25 id n hn1 hn hT q (p++[y]) h (by rw[hp];simp) hf (by rw[sl,miss];exact hg)
     rw[ls]at L
     exact⟨h',L,f1,g1⟩
theorem J4 (l:List Int):iJ false (y9 (ints l))=some (.int .i64 l.length):=by
 have:=(Ii (H.empty) l).len
 rw[pk]at this;exact this
theorem F5 {l:List Int} (hl:l.length<1000) (T SS:List AV) (id:Nat) (hT:∀n,1≤n→n≤15→T[n]?=some (.int .i64 (ve l n))) (hS:∀n,n≤15→SS[n]?=some (y9 (ints (syms l n)))):∀(m n:Nat) (h:H),n+m=16→1≤n→h.floor≤id→h.get id=some ((wA l n 0).flatMap wH)→
 ∃e' h',Lp AP.A [4,6,25,26] AP.f338L1 [(4,.aK T 0),(6,.aE id 0 l.length 2),(25,.agg SS),(26,.int .i64 n)] h=some (.exit 0,e',h')∧look e' 6=.aE id 0 l.length 2∧h'.floor=h.floor∧h'.get id=some ((wA l 16 0).flatMap wH)
 | 0, n, h, hm, hn, hf, hg => by
   obtain rfl:n=16:=by omega
   refine⟨[(4,.aK T 0),(6,.aE id 0 l.length 2),(25,.agg SS),(26,.int .i64 16),(27,.bool false)],h,sM ?_,rfl,rfl,hg⟩
   simp (disch:=omega)only[go_sem,vr,AP.f338L1]
 | m + 1, n, h, hm, hn, hf, hg => by
   obtain⟨h1,L1,f1,g1⟩:=CN hl T (.agg SS) id n hn (by omega) (hT n hn (by omega)) l [] h rfl hf hg
   have c0:wK [] n=0:=by simp [wK]
   rw[c0]at L1
   obtain⟨e',h',L,q1,q2,q3⟩:=F5 hl T SS id hT hS m (n+1) h1 (by omega) (by omega) (by omega) (by rw[Ha];exact g1)
   refine⟨e',h',sN ?_ L,q1,by rw[q2,f1],q3⟩
   have hs:=hS n (by omega)
   have ln:=J4 (syms l n)
   rw[zE]at ln
   have n1:((n+1:Nat):Int)=(n:Int)+1:=by omega
   have Jm:(n:Int)<16:=by omega
   have ia:lI false 16 1 (.agg SS) (.int .i64 n)=some (y9 (ints (syms l n))):=by
    simp [lI,cH,nk,Jm,gI,hs]
   have L1':Lp AP.A [4,6,7,25,26,30,31,32] AP.f338L0 [(4,.aK T 0),(6,.aE id 0 l.length 2),(7,.int .i64 n),(25,.agg SS),(26,.int .i64 n),(30,y9 (ints (syms l n))),(31,.int .i64 (wK l n)),(32,.int .i64 0)] h=_:=L1
   rw[n1]
   clear L L1 q3 g1 hs
   generalize y9 (ints (syms l n))=SV at *
   simp (disch:=omega)only[go_sem,vr,AP.f338L1,Jm,ia,ln,rK,L1']
theorem Mn (h:H) (x:AV) (l:List Int) (hl:l.length<1000) (rd:Rd h x (ints l)) (hm:Ah l=true) (h0:0≤vo l 15):aR AP.A 348 [x] h=some (.bK [vu l,.int .i64 0],h):=by
 have rd':=rd.mono (vm h)
 have k1:=LW h.dH x l (by omega) rd'
 rw[hm]at k1
 have k2:=zq h.dH x l (by omega) (Bz hm) rd'
 have hb:vu l=.aK (m0 49 (wF l)) 0:=rfl
 have g:(m0 49 (wF l))[48]?=some (.int .i64 (vo l 15)):=by rw[fC (by omega)];rfl
 have c:¬vo l 15<0:=by omega
 rw[hb]at k2 ⊢
 generalize m0 49 (wF l)=T at *
 refine tE (fn:=AP.f348) (h2:=h.dH) (e:=[(2,.aK T 0),(3,.int .i64 0)]) (vs:=[.aK T 0,.int .i64 0]) rfl rfl rfl ?_ rfl rfl
 simp (disch:=omega)only[go_sem,vr,AP.f348,k1,k2,g,c]
theorem zy (h:H) (x:AV) (l:List Int) (h1:1≤l.length) (hl:l.length<1000) (rd:Rd h x (ints l)) (hc:vp l=0∨vp l=302):aR AP.A 338 [x] h=some (.bK [zg l,.int .i64 0],h):=by
 have yN:Rd h.dH x (ints l):=rd.mono (vm h)
 have hm:Ah l=true:=by
  unfold vp at hc
  by_cases q:Ah l=false
  · rw[if_pos q]at hc;omega
  · simpa using q
 have h0:0≤vo l 15:=by
  unfold vp at hc
  rw[if_neg (by rw[hm];decide)]at hc
  by_cases q:vo l 15<0
  · rw[if_pos q]at hc;omega
  · omega
 have hr:=Bz hm
 have k:=Mn h.dH x l hl yN hm h0
 obtain⟨g,eg⟩:∃g,g=h.dH.alloc (yZ l.length [.int .i64 0,.int .i64 0]):=⟨_,rfl⟩
 have hn:h.dH.next=h.next:=rfl
 have gg:g.get h.next=some ((wA l 1 0).flatMap wH):=by rw[eg,vk (by simp),B7,Hb]
 have gf:g.floor=h.next:=by rw[eg];simp
 have ln:=rd.len
 rw[pk]at ln
 simp only[I]at ln
 obtain⟨T,eT⟩:∃T,T=m0 49 (wF l):=⟨_,rfl⟩
 have hT:∀n,1≤n→n≤15→T[n]?=some (.int .i64 (ve l n)):=fun n _ hn=>by
  rw[eT,fC (by omega),wF,if_pos (by omega)];rfl
 have hS:∀n,n≤15→((T.drop 32).take 16)[n]?=some (y9 (ints (syms l n))):=fun n hn=>by
  rw[List.getElem?_take_of_lt (by omega),uL,eT,fC (by omega),wF,if_neg (by omega),if_neg (by omega),if_pos (by omega),show 32+n-32=n by omega]
 have hb:vu l=.aK T 0:=by rw[eT];rfl
 have lT:T.length=49:=by rw[eT];simp [m0]
 rw[hb]at k
 obtain⟨e',h',L,q1,q2,q3⟩:=F5 hl T ((T.drop 32).take 16) h.next hT hS 15 1 g (by omega) (by omega) (by omega) gg
 have L0:∃e',Lp AP.A [4,6,25,26] AP.f338L1 [(4,.aK T 0),(6,.aE h.next 0 l.length 2),(25,.agg ((T.drop 32).take 16)),(26,.int .i64 0)] g=some (.exit 0,e',h')∧look e' 6=.aE h.next 0 l.length 2:=by
  refine⟨e',sN ?_ L,q1⟩
  have hs:=hS 0 (by omega)
  have ia:lI false 16 1 (.agg ((T.drop 32).take 16)) (.int .i64 0)=some .aP:=by
   have hs':((T.drop 32).take 16)[0]?=some .aP:=by rw[hs];rfl
   show gI false 1 ((T.drop 32).take 16) 0=_
   unfold gI
   rw[if_neg (by decide)]
   exact hs'
  have Li:Lp AP.A [4,6,7,25,26,30,31,32] AP.f338L0 [(4,.aK T 0),(6,.aE h.next 0 l.length 2),(7,.int .i64 0),(25,.agg ((T.drop 32).take 16)),(26,.int .i64 0),(30,.aP),(31,.int .i64 0),(32,.int .i64 0)] g=some (.exit 2,[(4,.aK T 0),(6,.aE h.next 0 l.length 2),(7,.int .i64 0),(25,.agg ((T.drop 32).take 16)),(26,.int .i64 0),(30,.aP),(31,.int .i64 0),(32,.int .i64 0),(33,.bool false)],g):=by
   refine sM ?_
   simp (disch:=omega)only[go_sem,vr,AP.f338L0]
  clear L q3 hs hT hS
  generalize (T.drop 32).take 16=SS at *
  have Jm:(0:Int)<16:=by omega
  simp (disch:=omega)only[go_sem,vr,AP.f338L1,Jm,ia,EJ,rK,Li]
 obtain⟨e0,L0,q0⟩:=L0
 rw[IK hr]at q3
 have ce:(uX l).length=l.length:=by simp [uX]
 have ow:vY 2 h' (.aE h.next 0 l.length 2) l.length ((uX l).flatMap wH):=⟨by rw[Bp yG,ce],.inr ⟨h.next,rfl,q3,by omega,by omega⟩⟩
 refine tE (fn:=AP.f338) (h2:=h') (e:=[(2,.aE h.next 0 l.length 2),(3,.int .i64 0)]) (vs:=[.aE h.next 0 l.length 2,.int .i64 0]) rfl rfl rfl ?_ rfl ?_
 · have ld:bO true 16 (.aK T 32) g=some (.agg ((T.drop 32).take 16)):=by
    show gI true 16 T 32=_
    simp [gI,lT]
   clear ow q3 rd yN hr L hT hS gg
   generalize (T.drop 32).take 16=SS at *
   have ld':gI true 16 T 32=some (.agg SS):=ld
   simp (disch:=omega)only[go_sem,vr,AP.f338,k,ln,←eg,hn,ld',rK,L0,q0]
 · have o':=ow
   rw[Ak]at o'
   have s1:=o'.zQ (fl:=h.next) (m:=13) (t:=true) (by omega)
   show(fq (snap h'.get h.next 15 true) [.aE h.next 0 l.length 2,.int .i64 0]).bind _=_
   simp only[fq,s1,uv]
   rw[←Ak];rfl
theorem Jf (s : ByteArray) (hs : s.size < 32000) : ∀ (f i : Nat) (h : H) (ov : AV) (ts : List Tok), s.size - i ≤ f → i ≤ s.size → ts.length ≤ i → vY 3 h ov ts.length (v9 ts) → h.floor ≤ h.next →
 ∃e' h' ov',Lp AP.A [0,4,5] AP.f332L0 [(0,.str s),(4,ov),(5,.int .i64 i)] h=some (.exit 0,e',h')∧look e' 4=ov'∧vY 3 h' ov' (ts++zF s f i).length (v9 (ts++zF s f i))∧h'.floor=h.floor∧h.next≤h'.next:=by
 have stop:∀(i:Nat) (h:H) (ov:AV),s.size≤i→∃e',Lp AP.A [0,4,5] AP.f332L0 [(0,.str s),(4,ov),(5,.int .i64 i)] h=some (.exit 0,e',h)∧look e' 4=ov:=by
  intro i h ov hi
  refine⟨[(0,.str s),(4,ov),(5,.int .i64 i),(13,.bool false)],sM ?_,rfl⟩
  have c:¬(i:Int)<s.size:=by omega
  simp (disch:=omega)only[go_sem,vr,AP.f332L0,wg,c]
 intro f
 induction f with
 | zero =>
   intro i h ov ts hf hi hts o hfn
   obtain⟨e',r1,r2⟩:=stop i h ov (by omega)
   exact⟨e',h,ov,r1,r2,by simpa [zF]using o,rfl,uy _⟩
 | succ f ih =>
   intro i h ov ts hf hi hts o hfn
   by_cases c0:i<s.size
   · have kb:=fun g=>LC g s i hs c0
     have hb:=Bh s i
     have lt:=GV s i
     have le:=GU s i c0
     have bsp:=zY s i (by omega) i (0,0) (uy _) (.inl rfl)
     have hx:=zK (s:=s) (i:=(i:Int)) ⟨by omega,by omega⟩
     rw[show((i:Int)).toNat=i by omega]at hx
     have c0':(i:Int)<s.size:=by omega
     have fin:∀(g:H) (t:Tok) (i':Nat),wC s i=(t,i')→g.floor=h.floor→g.next=h.next+1→(∀j,j<h.next→g.get j=h.get j)→(∀(v':AV) (h':H),kg (g.alloc (GW t)) 3 24 ov (.aE g.next 0 1 3)=some (v',h')→h'.get h.next=g.get h.next→aL (aR AP.A) bp AP.f332L0 (ay [(0,.str s),(4,ov),(5,.int .i64 i)] [0,4,5]) h=some (.normal,[(0,.str s),(4,v'),(5,.int .i64 i')],h'))→
      ∃e' h' ov',Lp AP.A [0,4,5] AP.f332L0 [(0,.str s),(4,ov),(5,.int .i64 i)] h=some (.exit 0,e',h')∧look e' 4=ov'∧vY 3 h' ov' (ts++zF s (f+1) i).length (v9 (ts++zF s (f+1) i))∧h'.floor=h.floor∧h.next≤h'.next:=by
      intro g t i' et gf gn gk hstep
      have og:vY 3 g ov ts.length (v9 ts):=o.mono gf fun j hj=>gk j (o.lt hj).2
      obtain⟨v',h',p1,p2,p3,p4,p5,p6⟩:=og.push (by omega) (z:=24) (m:=1) (by omega) (by omega) (GW t) rfl rfl (by simp [roomy];omega)
      have hon:ov.id?≠some h.next:=fun q=>by have:=(o.lt q).2;omega
      have step:=hstep v' h' p1 (p5 h.next hon (by omega))
      rw[et]at lt le
      simp only at lt le
      have o2:vY 3 h' v' (ts++[t]).length (v9 (ts++[t])):=by rw[HG,uU];exact p2
      obtain⟨e',h2,ov',r1,r2,r3,r4,r5⟩:=ih i' h' v' (ts++[t]) (by omega) le (by simp;omega) o2 (by omega)
      refine⟨e',h2,ov',sN step r1,r2, ?_,by omega,by omega⟩
      rw[zF,if_pos c0,et]
      simpa using r3
     by_cases c1:(vK s i i (0,0)).1<3
     · have et:wC s i=(⟨xH s i,0,0⟩,i+1):=if_pos c1
       have e1:Eh (vK s i i (0,0))=(0,0):=if_pos c1
       rw[e1]at kb
       obtain⟨g,eg⟩:∃g,g=((h.alloc [.int .i64 0,.int .i64 0,.int .i64 0]).set h.next [.int .i64 0,.int .i64 0,.int .i64 0]).set h.next [.int .i64 (xH s i:Nat),.int .i64 0,.int .i64 0]:=⟨_,rfl⟩
       have gg0:g.get h.next=some [.int .i64 (xH s i:Nat),.int .i64 0,.int .i64 0]:=by rw[eg,vq rfl,vq rfl,vk rfl];rfl
       refine fin g _ _ et (by rw[eg];simp) (by rw[eg];simp) (fun j hj=>by rw[eg,uY (by omega),uY (by omega),vg (by omega)]) fun v' h' ap gh=> ?_
       rw[gg0]at gh
       simp only[GW,LJ,ints,R3,SA,I]at ap
       have n1:((i+1:Nat):Int)=(i:Int)+1:=by omega
       have m1:Da 1 0=1:=rfl
       have kb':∀g:H,aR AP.A 344 [.str s,.int .i64 i] g=some (.agg [.int .i64 0,.int .i64 0,.int .i64 0],g):=kb
       have w8:IntKind.wrap .i64 ((xH s i:Nat):Int)=((xH s i:Nat):Int):=wi (by omega)
       have cz:((0:Int)==0)=true:=by decide
       rw[n1]
       clear kb ih o bsp fin lt le
       generalize ((xH s i:Nat):Int)=Y at *
       simp (disch:=first|omega|(simp only[wM,RU,RX,uF,Nat.reduceAdd];first|done|omega|fail)|(simp (disch:=first|omega|(simp only[wM,RU,RX,uF,Nat.reduceAdd];first|done|omega|fail)|fail)only[wM,Cj,RZ,RU,RX,uF,Nat.reduceAdd];done)|fail)only[go_sem,vr,Ci,]at ap
       simp (disch:=first|omega|(simp only[wM,RU,RX,uF,Nat.reduceAdd,gg0];first|done|omega|fail)|(simp (disch:=first|omega|(simp only[wM,RU,RX,uF,Nat.reduceAdd,gg0];first|done|omega|fail)|fail)only[wM,Cj,RZ,RU,RX,uF,Nat.reduceAdd,gg0];done)|fail)only[go_sem,vr,Ci,AP.f332L0,wg,c0',kb',hx,Hr,EK,m1,cz,w8,←eg,gg0,ap,gh]
     · have et:wC s i=(⟨0,(vK s i i (0,0)).1,(vK s i i (0,0)).2⟩,i+(vK s i i (0,0)).1):=if_neg c1
       have e1:Eh (vK s i i (0,0))=vK s i i (0,0):=if_neg c1
       rw[e1]at kb
       have b258:(vK s i i (0,0)).1≤258:=by
        rcases bsp with q|q
        · omega
        · exact q.1
       obtain⟨g,eg⟩:∃g,g=(h.alloc [.int .i64 0,.int .i64 0,.int .i64 0]).set h.next [.int .i64 0,.int .i64 (vK s i i (0,0)).1,.int .i64 (vK s i i (0,0)).2]:=⟨_,rfl⟩
       have gg0:g.get h.next=some [.int .i64 0,.int .i64 (vK s i i (0,0)).1,.int .i64 (vK s i i (0,0)).2]:=by rw[eg,vq rfl,vk rfl];rfl
       refine fin g _ _ et (by rw[eg];simp) (by rw[eg];simp) (fun j hj=>by rw[eg,uY (by omega),vg (by omega)]) fun v' h' ap gh=> ?_
       rw[gg0]at gh
       simp only[GW,LJ,ints,R3,SA,I]at ap
       have n1:((i+(vK s i i (0,0)).1:Nat):Int)=(i:Int)+((vK s i i (0,0)).1:Nat):=by omega
       have m1:Da 1 ((vK s i i (0,0)).1:Int)=((vK s i i (0,0)).1:Int):=by unfold Da;split<;>omega
       have cb:(((vK s i i (0,0)).1:Int)==0)=false:=by simp;omega
       rw[n1]
       clear ih o bsp et e1 hx fin lt le
       generalize (vK s i i (0,0)).1=B1 at *
       generalize (vK s i i (0,0)).2=B2 at *
       simp (disch:=first|omega|(simp only[wM,RU,RX,uF,Nat.reduceAdd];first|done|omega|fail)|(simp (disch:=first|omega|(simp only[wM,RU,RX,uF,Nat.reduceAdd];first|done|omega|fail)|fail)only[wM,Cj,RZ,RU,RX,uF,Nat.reduceAdd];done)|fail)only[go_sem,vr,Ci,]at ap
       simp (disch:=first|omega|(simp only[wM,RU,RX,uF,Nat.reduceAdd,gg0];first|done|omega|fail)|(simp (disch:=first|omega|(simp only[wM,RU,RX,uF,Nat.reduceAdd,gg0];first|done|omega|fail)|fail)only[wM,Cj,RZ,RU,RX,uF,Nat.reduceAdd,gg0];done)|fail)only[go_sem,vr,Ci,AP.f332L0,wg,c0',kb,cb,Hr,EK,m1,←eg,gg0,ap,gh]
   · obtain⟨e',r1,r2⟩:=stop i h ov (by omega)
     exact⟨e',h,ov,r1,r2,by simpa [zF,c0]using o,rfl,uy _⟩
theorem Jh (h:H) (s:ByteArray):aR AP.A 332 [.str s] h=some (if 300<s.size then .bK [.aP,.int .i64 500]else .bK [Cf (tokens s),.int .i64 0],h):=by
 by_cases c:300<s.size
 · rw[if_pos c]
   refine tE (fn:=AP.f332) (h2:=h.dH) (e:=[(2,.aP),(3,.int .i64 500)]) (vs:=[.aP,.int .i64 500]) rfl rfl rfl ?_ rfl rfl
   have c':(300:Int)<s.size:=by omega
   simp (disch:=omega)only[go_sem,vr,AP.f332,wg,c']
 · rw[if_neg c]
   obtain⟨e',h',ov',r1,r2,r3,r4,r5⟩:=Jf s (by omega) s.size 0 h.dH .aP [] (by omega) (by omega) (by simp) vY.nil (by simp)
   have r1':Lp AP.A [0,4,5] AP.f332L0 [(0,.str s),(4,.aP),(5,.int .i64 0)] h.dH=some (.exit 0,e',h'):=r1
   clear r1
   rw[List.nil_append]at r3
   refine tE (fn:=AP.f332) (h2:=h') (e:=[(2,ov'),(3,.int .i64 0)]) (vs:=[ov',.int .i64 0]) rfl rfl rfl ?_ rfl ?_
   · have c':¬(300:Int)<s.size:=by omega
     simp (disch:=omega)only[go_sem,vr,AP.f332,wg,c',rK,r1',r2]
   · have o':=r3
     rw[Ax]at o'
     have s1:=o'.zQ (fl:=h.next) (m:=13) (t:=true) (by rw[r4];simp)
     show(fq (snap h'.get h.next 15 true) [ov',.int .i64 0]).bind _=_
     simp only[fq,s1,uv]
     rw[←Ax];rfl
theorem Gm {P:List Nat} {i b:Nat} (h:i%8=0) (hl:P.length=i/8):vS P i b=P++[b]:=by
 unfold vS
 rw[if_pos h]
 dsimp only
 rw[←hl,h]
 rw[RT,R6 (uy _),Nat.sub_self]
 rw[List.set_append_right _ _ (uy _),Nat.sub_self]
 simp
theorem E9 {P:List Nat} {a i b:Nat} (h:¬i%8=0) (hl:P.length=i/8):vS (P++[a]) i b=P++[a|||b* 2^(i%8)]:=by
 unfold vS
 rw[if_neg h]
 dsimp only
 rw[←hl]
 rw[RT,R6 (uy _),Nat.sub_self]
 rw[List.set_append_right _ _ (uy _),Nat.sub_self]
 simp
theorem Rg:∀b,b<256→b/2^0%2|||b/2^1%2* 2^1|||b/2^2%2* 2^2|||b/2^3%2* 2^3|||b/2^4%2* 2^4|||b/2^5%2* 2^5|||b/2^6%2* 2^6|||b/2^7%2* 2^7=b:=by decide+kernel
theorem Hs {bs:List Nat} (h:bs.length%8=0) {b:Nat} (hb:b<256):vB (bs++vh b 8)=vB bs++[b]:=by
 have pl:=xA bs
 have e:vB (bs++vh b 8)=wS (vh b 8) bs.length (vB bs):=by
  unfold vB;rw[Aj,uF]
 rw[e]
 obtain⟨n,hn⟩:∃n,n=bs.length:=⟨_,rfl⟩
 rw[←hn]at h pl ⊢
 generalize vB bs=P at *
 have lP:P.length=n/8:=by omega
 show wS [b/2^0%2,b/2^1%2,b/2^2%2,b/2^3%2,b/2^4%2,b/2^5%2,b/2^6%2,b/2^7%2] n P=_
 have m:∀k,1≤k→k<8→(n+k)%8=k∧P.length=(n+k)/8:=fun k h1 h2=>by omega
 simp only[wS]
 rw[Gm h lP]
 have st:∀k a c,1≤k→k<8→vS (P++[a]) (n+k) c=P++[a|||c* 2^k]:=fun k a c h1 h2=>by
  obtain⟨m1,m2⟩:=m k h1 h2
  rw[E9 (by omega) m2,m1]
 rw[st 1 _ _ (by omega) (by omega)]
 rw[show n+1+1=n+2 by omega,st 2 _ _ (by omega) (by omega)]
 rw[show n+2+1=n+3 by omega,st 3 _ _ (by omega) (by omega)]
 rw[show n+3+1=n+4 by omega,st 4 _ _ (by omega) (by omega)]
 rw[show n+4+1=n+5 by omega,st 5 _ _ (by omega) (by omega)]
 rw[show n+5+1=n+6 by omega,st 6 _ _ (by omega) (by omega)]
 rw[show n+6+1=n+7 by omega,st 7 _ _ (by omega) (by omega)]
 rw[Rg b hb]
def wN (s:ByteArray) (i:Nat):List Nat:=(List.range i).flatMap fun k=>vh (xH s k) 8
theorem yP (s:ByteArray) (i:Nat):wN s (i+1)=wN s i++vh (xH s i) 8:=by simp [wN,List.range_succ]
theorem zd (s:ByteArray):∀i,(wN s i).length=8* i
 |0=>rfl
 |i+1=>by rw[yP,uU,zd s i];simp [vh,vt];omega
theorem B5 (bs:List Nat) (h:bs.length%8=0) (s:ByteArray):∀i,vB (bs++wN s i)=vB bs++preB s i
 |0=>by simp [wN,preB]
 | i + 1 => by
   rw[yP,←R7,Hs (by rw[uU,zd];omega) (Bh s i),B5 bs h s i,zM,R7]
theorem FK (s:ByteArray):bytesOf (preB s s.size)=s:=by
 apply ByteArray.ext
 apply Array.ext
 · have:=vZ (preB s s.size)
   rw[wJ]at this
   exact this
 · intro i h1 h2
   simp only[bytesOf,preB,List.map_map,List.getElem_toArray,List.getElem_map,List.getElem_range,Function.comp_apply]
   have hi:i<s.size:=h2
   unfold xH
   rw[show s[i]?=some s[i]by simp [hi]]
   simp
   rfl
theorem Cx (a b:List Nat):bytesOf (a++b)=bytesOf a++bytesOf b:=by
 apply ByteArray.ext
 simp [bytesOf,ByteArray.data_append]
theorem Cb (s:ByteArray):bytesOf (vB (vH s.size++wN s s.size))=vW s:=by
 have l:(vH s.size).length=40:=by simp [vH,vh,vt]
 rw[B5 _ (by omega),Cx,FK];rfl
theorem Iq (s:ByteArray) (hs:s.size≤300) (h0:H) (w:Nat):∀(m i:Nat) (bs:List Nat) (h:H) (ov:AV),i+m=s.size→WX h0 h w bs ov→bs.length+8* m≤60000→
 ∃h' ov',Lp AP.A [0,4,5,25,26] AP.f325L0 [(0,.str s),(4,.aD w 0),(5,.fn 335 [.aD w 0] []),(25,.int .i64 s.size),(26,.int .i64 i)] h=some (.exit 0,[(0,.str s),(4,.aD w 0),(5,.fn 335 [.aD w 0] []),(25,.int .i64 s.size),(26,.int .i64 s.size),(27,.bool false)],h')∧WX h0 h' w (bs++((List.range' i m).flatMap fun k=>vh (xH s k) 8)) ov'
 | 0, i, bs, h, ov, hi, x, hb => by
   obtain rfl:i=s.size:=by omega
   refine⟨h,ov,sM ?_,by simpa using x⟩
   simp (disch:=omega)only[go_sem,vr,AP.f325L0]
 | m + 1, i, bs, h, ov, hi, x, hb => by
   have bl:=Bh s i
   obtain⟨h1,o1,k1,w1,f1⟩:=xJ x.wr (xH s i) 8 (by omega) (by omega) (by omega)
   obtain⟨h',ov',L,x2⟩:=Iq s hs h0 w m (i+1) (bs++vh (xH s i) 8) h1 o1 (by omega) (x.step w1 f1) (by simp [vh,vt];omega)
   refine⟨h',ov',sN ?_ L,by rw[List.range'_succ,R1,←R7];exact x2⟩
   have hx:=zK (s:=s) (i:=(i:Int)) ⟨by omega,by omega⟩
   rw[show((i:Int)).toNat=i by omega]at hx
   have c0:(i:Int)<s.size:=by omega
   have w8:IntKind.wrap .i64 ((xH s i:Nat):Int)=((xH s i:Nat):Int):=wi (by omega)
   have k1':aR AP.A 335 [.aD w 0,.int .i64 (xH s i:Nat),.int .i64 8] h=some (.int .i64 0,h1):=k1
   have n1:((i+1:Nat):Int)=(i:Int)+1:=by omega
   rw[n1]
   clear x x2 L w1 f1 k1
   generalize ((xH s i:Nat):Int)=Y at *
   simp (disch:=omega)only[go_sem,vr,AP.f325L0,c0,hx,w8,k1']
theorem LM:∀n:Nat,n≤300→bits .xor .i64 (n:Int) 65535=65535-(n:Int):=by
 intro n hn
 have:∀n:Nat,n<301→decide (bits .xor .i64 ((n:Nat):Int) 65535=65535-((n:Nat):Int))=true:=by decide+kernel
 exact of_decide_eq_true (this n (by omega))
theorem Er (h:H) (s:ByteArray):aR AP.A 325 [.str s] h=some (if 300<s.size then .bK [.str ⟨#[]⟩,.int .i64 800]else .bK [.str (vW s),.int .i64 0],h):=by
 by_cases c:300<s.size
 · rw[if_pos c]
   have c':(300:Int)<s.size:=by omega
   refine tE (fn:=AP.f325) (h2:=h.dH) (e:=[(2,.str ⟨#[]⟩),(3,.int .i64 800)]) (vs:=[.str ⟨#[]⟩,.int .i64 800]) rfl rfl rfl ?_ rfl rfl
   simp (disch:=omega)only[go_sem,vr,AP.f325,wg,c']
 · rw[if_neg c]
   obtain⟨h1,o1,k1,x1,f1⟩:=HL (h:=h.dH) rfl 0 (by omega)
   have e0:vh 1 1++vh 0 2=vh 1 3:=by decide
   rw[e0]at x1
   obtain⟨h2,k2,w2,r2⟩:=Kf x1.wr 5 (by simp [vh,vt]) (by omega) (by simp [vh,vt])
   have x2:=x1.step w2 r2
   obtain⟨h3,o3,k3,w3,r3⟩:=xJ x2.wr s.size 16 (by omega) (by omega) (by simp [vh,vt])
   have x3:=x2.step w3 r3
   obtain⟨h4,o4,k4,w4,r4⟩:=xJ x3.wr (65535-s.size) 16 (by omega) (by omega) (by simp [vh,vt])
   have x4:=x3.step w4 r4
   have ee:vh 1 3++List.replicate 5 0++vh s.size 16++vh (65535-s.size) 16=vH s.size:=by unfold vH;simp only[R7]
   rw[ee]at x4
   obtain⟨h5,o5,L,x5⟩:=Iq s (by omega) h.dH h.dH.next s.size 0 _ h4 o4 (by omega) x4 (by simp [vH,vh,vt];omega)
   have eb:vH s.size++((List.range' 0 s.size).flatMap fun k=>vh (xH s k) 8)=vH s.size++wN s s.size:=by unfold wN;rw[List.range_eq_range']
   rw[eb]at x5
   have k6:=Ig x5.wr
   rw[Cb s]at k6
   have hN:h.dH.next=h.next:=rfl
   rw[hN]at k1 k2 k3 k4 L k6
   have c':¬(300:Int)<s.size:=by omega
   have k1':aR AP.A 333 [.int .i64 0] h.dH=some (.aD h.next 0,h1):=k1
   have k3':aR AP.A 335 [.aD h.next 0,.int .i64 s.size,.int .i64 16] h2=some (.int .i64 0,h3):=k3
   have xo:=LM s.size (by omega)
   have e4:((65535-s.size:Nat):Int)=65535-(s.size:Int):=by omega
   rw[e4]at k4
   have k4':aR AP.A 335 [.aD h.next 0,.int .i64 (65535-(s.size:Int)),.int .i64 16] h3=some (.int .i64 0,h4):=k4
   have L':Lp AP.A [0,4,5,25,26] AP.f325L0 [(0,.str s),(4,.aD h.next 0),(5,.fn 335 [.aD h.next 0] []),(25,.int .i64 s.size),(26,.int .i64 0)] h4=_:=L
   refine tE (fn:=AP.f325) (h2:=h5) (e:=[(2,.str (vW s)),(3,.int .i64 0)]) (vs:=[.str (vW s),.int .i64 0]) rfl rfl rfl ?_ rfl rfl
   clear x1 x2 x3 x4 x5 w2 w3 w4 r2 r3 r4 L k1 k3 k4 ee eb e0
   generalize vW s=TT at *
   generalize 65535-(s.size:Int)=Z at *
   simp (disch:=omega)only[go_sem,vr,AP.f325,wg,c',k1',k2,k3',xo,k4',rK,L',k6]
theorem AU (W : List Int) (F : List Bool) : ∀ (m i : Nat) (a : Int), (a = -1 ∧ (∀ j, j < i → F.getD j false = false)) ∨ (∃ k : Nat, a = k ∧ k < i ∧ F.getD k false = true ∧ (∀ j, j < i → F.getD j false = true → W.getD k 0 ≤ W.getD j 0) ∧ ∀ j, j < k → F.getD j false = true → W.getD k 0 < W.getD j 0) →
 (wL W F m i a= -1)∨(∃k:Nat,wL W F m i a=k∧∀j,j<k→F.getD j false=true→W.getD k 0<W.getD j 0)
 | 0, i, a, h => by
   rcases h with ⟨h,_⟩|⟨k,h,_,_,_,h2⟩
   · exact .inl h
   · exact .inr ⟨k,h,h2⟩
 | m + 1, i, a, h => by
   rw[wL]
   refine AU W F m (i+1) _ ?_
   by_cases c:F.getD i false=true∧(a<0∨W.getD i 0<W.getD a.toNat 0)
   · rw [if_pos c]
     refine .inr ⟨i,rfl,by omega,c.1,fun j hj hf=> ?_,fun j hj hf=> ?_⟩
     · by_cases q:j=i
       · subst q;exact Ss _
       · rcases h with ⟨_,h2⟩|⟨k,rfl,h1,h2,h3,h4⟩
         · rw[h2 j (by omega)]at hf;cases hf
         · have:=h3 j (by omega) hf
           have tk:((k:Nat):Int).toNat=k:=by omega
           rw[tk]at c
           have:=c.2
           omega
     · rcases h with ⟨_,h2⟩|⟨k,rfl,h1,h2,h3,h4⟩
       · rw[h2 j (by omega)]at hf;cases hf
       · have:=h3 j (by omega) hf
         have tk:((k:Nat):Int).toNat=k:=by omega
         rw[tk]at c
         have:=c.2
         omega
   · rw [if_neg c]
     rcases h with ⟨rfl,h2⟩|⟨k,rfl,h1,h2,h3,h4⟩
     · refine .inl ⟨rfl,fun j hj=> ?_⟩
       by_cases q:j=i
       · subst q
         cases e:F.getD j false with
         |false=>rfl
         |true=>exact absurd ⟨e,.inl (by omega)⟩ c
       · exact h2 j (by omega)
     · refine .inr ⟨k,rfl,by omega,h2,fun j hj hf=> ?_,h4⟩
       by_cases q:j=i
       · subst q
         have tk:((k:Nat):Int).toNat=k:=by omega
         rw[tk]at c
         have:¬(W.getD j 0<W.getD k 0):=fun x=>c ⟨hf,.inr x⟩
         omega
       · exact h3 j (by omega) hf
theorem Ge {W:List Int} {F:List Bool} (h:0≤wL W F W.length 0 (-1)):∀j,j<xj W F→F.getD j false=true→W.getD (xj W F) 0<W.getD j 0:=by
 rcases AU W F W.length 0 (-1) (.inl ⟨rfl,fun j hj=>by omega⟩)with q|⟨k,q,r⟩
 · omega
 · have ek:xj W F=k:=by unfold xj;rw[q];omega
   rw[ek];exact r
structure Tz where
 w:Int
 m:Int
 L:List Int
def KT (n N:Nat) (S:List Int) (r:Nat):Int:=if r<n then S.getD r 0 else(N:Int)+(r-n:Nat)
def wX (rc:Nat→Tz) (t:Nat):Int:=(rc t).w* 1000000+(rc t).m
def Bv:List Int→List Int→List Int
 |O,[]=>O
 |O,s::r=>Bv (wR O s.toNat) r
theorem CS:∀(L O:List Int),(Bv O L).length=O.length
 |[],O=>rfl
 |s::r,O=>by rw[Bv,CS r,xf]
theorem Ol (O:List Int) (i q:Nat) (hi:i<O.length):(wR O i).getD q 0=O.getD q 0+if i=q then 1 else 0:=by
 unfold wR
 rw[RT,Sa]
 by_cases c:i=q
 · subst c;rw[if_pos rfl,if_pos hi,if_pos rfl];rfl
 · rw[if_neg c,if_neg c,RT];omega
theorem EX:∀(L O:List Int) (q:Nat),(∀s∈L,s.toNat<O.length)→(Bv O L).getD q 0=O.getD q 0+(L.map Int.toNat).count q
 |[],O,q,h=>by simp [Bv]
 | s :: r, O, q, h => by
   rw[Bv,EX r _ q (fun t ht=>by rw[xf];exact h t (by simp [ht])),Ol _ _ _ (h s (by simp)),R3,List.count_cons]
   by_cases c:s.toNat=q
   · subst c;simp;omega
   · simp [c]
structure AA (n N:Nat) (S:List Int):Prop where
 len:S.length=n
 OA:∀s∈S,0≤s∧s<N
 inc:∀i j,i<j→j<n→S.getD i 0<S.getD j 0
 nd:(S.map Int.toNat).Nodup
theorem AA.at {n N:Nat} {S:List Int} (o:AA n N S) {i:Nat} (h:i<n):0≤S.getD i 0∧S.getD i 0<N:=by
 refine o.OA _ ?_
 rw[RT,RW (by rw[o.len];exact h)]
 exact Sb _
theorem AA.inj {n N:Nat} {S:List Int} (o:AA n N S) {i j:Nat} (hi:i<n) (hj:j<n) (h:S.getD i 0=S.getD j 0):i=j:=by
 rcases Nat.lt_trichotomy i j with q|q|q
 · have:=o.inc i j q hj;omega
 · exact q
 · have:=o.inc j i q hi;omega
theorem Ou {n N:Nat} {S:List Int} (o:AA n N S) {r q:Nat} (h:r<q):KT n N S r<KT n N S q:=by
 unfold KT
 by_cases c:q<n
 · rw[if_pos (by omega),if_pos c];exact o.inc r q h c
 · rw[if_neg c]
   split
   · rename_i a;have:=o.at a;omega
   · omega
structure Fu (n N:Nat) (tot:Int) (S:List Int) (G s:FS) (rc:Nat→Tz) (tr:Nat→Tr) (l:List Nat) (O:List Int):Prop where
 hv:yq false n tot s (l.map tr)
 lw:s.W.length+l.length=2* n
 ll:l.length≤n
 fin:FS.ya (l.length-1) s=G
 so:AA n N S
 rel:∀t∈l,(rc t).w=s.W.getD (tr t).1 0∧(rc t).m=KT n N S (tr t).1∧(rc t).L=(tr t).2.map fun p=>S.getD p.1 0
 out:∀t∈l,∀p∈(tr t).2,O.getD (S.getD p.1 0).toNat 0=((p.2:Nat):Int)
 zero:∀q,(∀s∈S,s.toNat≠q)→O.getD q 0=0
 len:O.length=N
theorem Fu.perm {n N:Nat} {tot:Int} {S:List Int} {G s:FS} {rc:Nat→Tz} {tr:Nat→Tr} {l l':List Nat} {O:List Int} (v:Fu n N tot S G s rc tr l O) (p:l.Perm l'):Fu n N tot S G s rc tr l' O where
 hv:=v.hv.perm (p.map tr)
 lw:=by rw[←p.length_eq];exact v.lw
 ll:=by rw[←p.length_eq];exact v.ll
 fin:=by rw[←p.length_eq];exact v.fin
 so:=v.so
 rel t h:=v.rel t (p.mem_iff.2 h)
 out t h:=v.out t (p.mem_iff.2 h)
 zero:=v.zero
 len:=v.len
theorem Gf {n N:Nat} {S W:List Int} {F:List Bool} (so:AA n N S) (hl:F.length=W.length) (hW:W.length<2* n) (hn:n≤1000) (hN:N≤1000) {rc:Nat→Tz} {tr:Nat→Tr} {l:List Nat} (hf:∀i,F.getD i false=true→∃t∈l,(tr t).1=i) (ht:∀t∈l,F.getD (tr t).1 false=true) (rel:∀t∈l,(rc t).w=W.getD (tr t).1 0∧(rc t).m=KT n N S (tr t).1) {t0:Nat} (h0:t0∈l) (hm:∀t∈l,wX rc t0≤wX rc t):
 (tr t0).1=xj W F∧0≤wL W F W.length 0 (-1)∧∀t∈l,W.getD (tr t0).1 0≤W.getD (tr t).1 0:=by
 obtain⟨l1,la,fa,ma⟩:=Ad hl (ht t0 h0)
 obtain⟨ta,hta,ea⟩:=hf _ fa
 have fi:=Ge l1
 have mr:∀t∈l,0≤(rc t).m∧(rc t).m<1000000:=fun t h=>by
  rw[(rel t h).2]
  have lt:(tr t).1<W.length:=by
   have:=ht t h
   rw[RT]at this
   cases e:F[(tr t).1]? with
   |none=>rw[e]at this;cases this
   |some b=>have:=(uu.1 e).1;omega
  unfold KT
  split
  · rename_i a;have:=so.at a;omega
  · omega
 have m1:=hm ta hta
 have w0:=ma (tr t0).1 (ht t0 h0)
 have r0:=rel t0 h0
 have ra:=rel ta hta
 have q0:=mr t0 h0
 have qa:=mr ta hta
 unfold wX at m1
 have ew:W.getD (tr t0).1 0=W.getD (xj W F) 0:=by rw[←ea]at w0 ⊢;rw[r0.1,ra.1]at m1;omega
 have em:(rc t0).m≤(rc ta).m:=by rw[r0.1,ra.1,ea,ew]at m1;omega
 have e1:(tr t0).1=xj W F:=by
  rcases Nat.lt_trichotomy (tr t0).1 (xj W F)with q|q|q
  · have:=fi _ q (ht t0 h0);omega
  · exact q
  · rw[←ea]at q
    have:=Ou so q
    rw[r0.2,ra.2]at em;omega
 refine⟨e1,l1,fun t h=> ?_⟩
 rw[ew];exact ma _ (ht t h)
theorem Fu.step {n N : Nat} {tot : Int} {S : List Int} {G s : FS} {rc rc' : Nat → Tz} {tr : Nat → Tr} {l2 : List Nat} {O : List Int} {a b t : Nat} (v : Fu n N tot S G s rc tr (a :: b :: l2) O) (hn : n ≤ 1000) (hN : N ≤ 1000) (ht : tot < 1000000000000000)
 (ha:∀t∈b::l2,wX rc a≤wX rc t) (hb:∀t∈l2,wX rc b≤wX rc t) (fr:∀x∈l2,x≠t) (er:∀x∈l2,rc' x=rc x)
 (et:rc' t=⟨(rc a).w+(rc b).w,((N+(n-(l2.length+2)):Nat):Int),(rc a).L++(rc b).L⟩):
 Fu n N tot S G s.E0 rc' (fun x=>if x=t then(s.U.length,xq ((tr a).2++(tr b).2))else tr x) (t::l2) (Bv O ((rc a).L++(rc b).L))∧(∀q∈(rc a).L++(rc b).L,0≤q∧q<N)∧((rc a).L++(rc b).L).length≤n∧0<((rc a).L++(rc b).L).length:=by
 have lw:=v.lw
 have ll:=v.ll
 simp only[RU]at lw ll
 obtain⟨ea,l1,mA⟩:=Gf (F:=s.F) (W:=s.W) v.so v.hv.lf (by omega) hn hN (tr:=tr) (rc:=rc) (l:=a::b::l2) (fun i hi=>by
  obtain⟨x,hx,e⟩:=v.hv.free i hi
  obtain⟨y,hy,rfl⟩:=R4.1 hx
  exact⟨y,hy,e⟩) (fun x hx=>(v.hv.root _ (R4.2 ⟨x,hx,rfl⟩)).1) (fun x hx=>⟨(v.rel x hx).1,(v.rel x hx).2.1⟩) (t0:=a) (by simp) (fun x hx=>by
   rcases uR.1 hx with q|q
   · subst q;exact Ss _
   · exact ha x q)
 have nd:=v.hv.nd
 simp only[R3,Sz,uR,not_or]at nd
 obtain⟨⟨nab,na⟩,nb,n2⟩:=nd
 have naL:∀x∈b::l2,(tr x).1≠s.a:=fun x hx e=>by
  have e':(tr x).1=(tr a).1:=by rw[e,ea];rfl
  rcases uR.1 hx with q|q
  · subst q;exact nab e'.symm
  · exact na (R4.2 ⟨tr x,R4.2 ⟨x,q,rfl⟩,e'⟩)
 obtain⟨eb,l2',mB⟩:=Gf (F:=s.F1) (W:=s.W) v.so (by show(s.F.set s.a false).length=_;rw[Sg];exact v.hv.lf) (by omega) hn hN (tr:=tr) (rc:=rc) (l:=b::l2) (fun i hi=>by
  have hne:s.a≠i:=fun e=>by
   subst e
   have:(s.F.set s.a false).getD s.a false=true:=hi
   rw[yT]at this;cases this
  have hi':s.F.getD i false=true:=by
   have:(s.F.set s.a false).getD i false=true:=hi
   rwa [getD_set_ne hne]at this
  obtain⟨x,hx,e⟩:=v.hv.free i hi'
  obtain⟨y,hy,rfl⟩:=R4.1 hx
  rcases uR.1 hy with q|q
  · subst q;exact absurd (ea.symm.trans e) hne
  · exact⟨y,q,e⟩) (fun x hx=>by
    show(s.F.set s.a false).getD (tr x).1 false=true
    rw[getD_set_ne (fun e=>naL x hx e.symm)]
    exact(v.hv.root _ (R4.2 ⟨x,by simp only[uR]at hx ⊢;exact .inr hx,rfl⟩)).1) (fun x hx=>by
     have hx':x∈a::b::l2:=Sw _ hx
     exact⟨(v.rel x hx').1,(v.rel x hx').2.1⟩) (t0:=b) (by simp) (fun x hx=>by
    rcases uR.1 hx with q|q
    · subst q;exact Ss _
    · exact hb x q)
 have ea':(tr a).1=s.a:=ea
 have eb':(tr b).1=s.b:=eb
 obtain⟨ok,hv⟩:=v.hv.KG (T2:=l2.map tr) (ta:=tr a) (tb:=tr b) (Sy _) ea' eb' l1 l2' (by have:=mA b (by simp);rw[ea',eb']at this;exact this) (fun x hx=>by
  obtain⟨y,hy,rfl⟩:=R4.1 hx
  have:=mB y (by simp [hy]);rw[eb']at this;exact this) ht
 have tm:∀x∈l2,(if x=t then((s.U.length,xq ((tr a).2++(tr b).2)):Tr)else tr x)=tr x:=fun x hx=>if_neg (fr x hx)
 have em:(t::l2).map (fun x=>if x=t then((s.U.length,xq ((tr a).2++(tr b).2)):Tr)else tr x)=(s.U.length,xq ((tr a).2++(tr b).2))::l2.map tr:=by
  rw[R3,if_pos rfl]
  congr 1
  exact Sp tm
 have lv:=v.hv.leaves
 have lnd:(((a::b::l2).map tr).flatMap fun t=>t.2.map (·.1)).Nodup:=lv.nodup_iff.2 List.nodup_range
 have llt:∀x∈a::b::l2,∀p∈(tr x).2,p.1<n:=fun x hx p hp=>List.mem_range.1 (lv.mem_iff.1 (List.mem_flatMap.2 ⟨tr x,R4.2 ⟨x,hx,rfl⟩,R4.2 ⟨p,hp,rfl⟩⟩))
 have eL:(rc a).L++(rc b).L=((tr a).2++(tr b).2).map fun p=>S.getD p.1 0:=by
  rw[(v.rel a (by simp)).2.2,(v.rel b (by simp)).2.2,List.map_append]
 have ltab:∀p∈(tr a).2++(tr b).2,p.1<n:=fun p hp=>by
  rcases Sj.1 hp with q|q
  · exact llt a (by simp) p q
  · exact llt b (by simp) p q
 have rL:∀q∈(rc a).L++(rc b).L,0≤q∧q<N:=fun q hq=>by
  rw[eL]at hq
  obtain⟨p,hp,rfl⟩:=R4.1 hq
  exact v.so.at (ltab p hp)
 have rL2:∀q∈(rc a).L++(rc b).L,q.toNat<O.length:=fun q hq=>by have:=rL q hq;rw[v.len];omega
 have cnt1:∀k:Nat,k<n→(((rc a).L++(rc b).L).map Int.toNat).count (S.getD k 0).toNat=(((tr a).2++(tr b).2).map (·.1)).count k:=fun k hk=>by
  rw[eL,List.map_map]
  have:∀q:List (Nat×Nat),(∀p∈q,p.1<n)→(q.map (Int.toNat∘fun p=>S.getD p.1 0)).count (S.getD k 0).toNat=(q.map (·.1)).count k:=by
   intro q
   induction q with
   |nil=>intro _;rfl
   | cons p q ih =>
     intro h
     rw[R3,R3,List.count_cons,List.count_cons,ih fun p hp=>h p (by simp [hp])]
     have hp:=h p (by simp)
     have a1:=v.so.at hp
     have a2:=v.so.at hk
     congr 1
     by_cases c:p.1=k
     · simp [c]
     · have:¬(S.getD p.1 0).toNat=(S.getD k 0).toNat:=fun e=>c (v.so.inj hp hk (by omega))
       simp only[Function.comp_apply,beq_iff_eq,this,c,uV]
  exact this _ ltab
 rw[R3,R3,R1,R1,←R7,←List.map_append]at lnd
 have lnd1:=(List.nodup_append.1 lnd)
 refine⟨⟨by rw[em];exact hv,by rw[FS.H7];simp only[RU];omega,by simp only[RU];omega, ?_,v.so, ?_, ?_, ?_,by rw[CS];exact v.len⟩,rL, ?_, ?_⟩
 · have:=v.fin
   simpa [FS.ya]using this
 · intro x hx
   rcases uR.1 hx with q|q
   · subst q
     rw[if_pos rfl,et]
     refine⟨?_, ?_, ?_⟩
     · show(rc a).w+(rc b).w=s.E0.W.getD s.U.length 0
       rw[(v.rel a (by simp)).1,(v.rel b (by simp)).1,ea',eb']
       show _=(s.W++[s.sum]).getD s.U.length 0
       have e:(s.W++[s.sum]).getD s.U.length 0=s.sum:=by rw[v.hv.lu,RT,R6 (uy _)];simp
       rw[e];rfl
     · show _=KT n N S s.U.length
       have lu:=v.hv.lu
       unfold KT
       rw[if_neg (by omega)]
       show((N+(n-(l2.length+2)):Nat):Int)=(N:Int)+((s.U.length-n:Nat):Int)
       have:s.U.length-n=n-(l2.length+2):=by omega
       rw[this];omega
     · show(rc a).L++(rc b).L=_
       rw[eL];unfold xq;rw[List.map_map];rfl
   · rw[tm x q,er x q]
     have:=v.rel x (by simp [q])
     refine⟨?_,this.2⟩
     have rr:=v.hv.root _ (R4.2 ⟨x,Sw _ (Sw _ q),rfl⟩)
     have lt:=(uu.1 rr.2).1
     rw[this.1]
     show _=(s.W++[s.sum]).getD (tr x).1 0
     rw[RT,RT,R5 (by rw[←v.hv.lu];exact lt)]
 · intro x hx p hp
   rcases uR.1 hx with q|q
   · subst q
     rw[if_pos rfl]at hp
     obtain⟨p0,hp0,rfl⟩:=R4.1 hp
     have hlt:=ltab p0 hp0
     show(Bv O _).getD (S.getD p0.1 0).toNat 0=((p0.2+1:Nat):Int)
     rw[EX _ _ _ rL2,cnt1 _ hlt]
     have c1:(((tr a).2++(tr b).2).map (·.1)).count p0.1=1:=by rw[lnd1.1.count,if_pos (R4.2 ⟨p0,hp0,rfl⟩)]
     rw[c1]
     have o1:O.getD (S.getD p0.1 0).toNat 0=((p0.2:Nat):Int):=by
      rcases Sj.1 hp0 with z|z
      · exact v.out a (by simp) p0 z
      · exact v.out b (by simp) p0 z
     rw[o1];omega
   · rw[tm x q]at hp
     have hlt:=llt x (by simp [q]) p hp
     rw[EX _ _ _ rL2,cnt1 _ hlt]
     have c0:(((tr a).2++(tr b).2).map (·.1)).count p.1=0:=List.count_eq_zero.2 fun hm=>
      lnd1.2.2 _ hm p.1 (List.mem_flatMap.2 ⟨tr x,R4.2 ⟨x,q,rfl⟩,R4.2 ⟨p,hp,rfl⟩⟩) rfl
     rw[c0,v.out x (by simp [q]) p hp];omega
 · intro q hq
   rw[EX _ _ _ rL2,v.zero q hq]
   have:(((rc a).L++(rc b).L).map Int.toNat).count q=0:=List.count_eq_zero.2 fun hm=>by
    obtain⟨y,hy,rfl⟩:=R4.1 hm
    rw[eL]at hy
    obtain⟨p,hp,rfl⟩:=R4.1 hy
    have hp':=ltab p hp
    refine hq (S.getD p.1 0) ?_ rfl
    rw[RT,RW (by rw[v.so.len];exact hp')]
    exact Sb _
   rw[this];rfl
 · have ln:=lv.length_eq
   rw[R3,R3,R1,R1,uU,uU,List.length_map,List.length_map,List.length_range]at ln
   rw[eL,List.length_map,uU];omega
 · have:=v.hv.ne (tr a) (by simp)
   rw[eL,List.length_map,uU]
   have:=List.length_pos_iff.2 this
   omega
theorem Fu.init {N:Nat} {S ws:List Int} {rc:Nat→Tz} {l:List Nat} (so:AA ws.length N S) (pos:∀y∈ws,1≤y) (tr:Nat→Tr) (htr:l.map tr=T0 ws.length)
 (rel:∀t∈l,∃i,i<ws.length∧tr t=(i,[(i,0)])∧rc t=⟨ws.getD i 0,S.getD i 0,[S.getD i 0]⟩):
 Fu ws.length N ws.sum S (FS.ya (ws.length-1) (Cg ws)) (Cg ws) rc tr l (List.replicate N 0) where
 hv:=by rw[htr];exact yq.init ws false pos (fun h=>by cases h)
 lw:=by
  have:l.length=ws.length:=by have:=Sn List.length htr;simpa [T0]using this
  rw[this];show ws.length+ws.length=_;omega
 ll:=by
  have:l.length=ws.length:=by have:=Sn List.length htr;simpa [T0]using this
  omega
 fin:=by
  have:l.length=ws.length:=by have:=Sn List.length htr;simpa [T0]using this
  rw[this]
 so:=so
 rel t ht:=by
  obtain⟨i,hi,e1,e2⟩:=rel t ht
  rw[e1,e2]
  refine⟨rfl, ?_,rfl⟩
  show S.getD i 0=KT _ _ _ i
  unfold KT;rw[if_pos hi]
 out t ht p hp:=by
  obtain⟨i,hi,e1,e2⟩:=rel t ht
  rw[e1]at hp
  simp at hp
  subst hp
  have:=so.at hi
  show(List.replicate N (0:Int)).getD (S.getD i 0).toNat 0=_
  rw[RT,Sk,if_pos (by omega)];rfl
 zero q _:=by
  rw[RT,Sk];split<;>rfl
 len:=by simp
theorem Fu.QD {N : Nat} {S ws : List Int} {G : FS} {rc : Nat → Tz} {tr : Nat → Tr} {t : Nat} {O : List Int} {tot : Int} {s : FS} (hG : G = FS.ya (ws.length - 1) (Cg ws)) (v : Fu ws.length N tot S G s rc tr [t] O) : O = vI S (vi ws) (List.replicate N 0) := by
 have es:s=G:=v.fin
 have up:=v.hv.up
 have rt:=(v.hv.root (tr t) (by simp)).2
 have rtD:s.U.getD (tr t).1 (-1)= -1:=by rw[RT,rt];rfl
 have rl:=(uu.1 rt).1
 have lv:=v.hv.leaves
 simp only[R3,SA,R1,List.flatMap_nil,Sd]at lv
 have dep:∀q∈(tr t).2,BJ s.U s.U.length (s.U.getD q.1 (-1))=q.2:=fun q hq=>by
  have:=v.hv.pt (tr t) (by simp) q hq
  have l:=Fh up this
  exact Fi up this rtD _ (by omega)
 have eD:vi ws=ES s.U ws.length:=by rw[es,hG];rfl
 have dl:(vi ws).length=ws.length:=wm ws
 have nd:=v.so.nd
 have ol:=v.len
 apply List.ext_getElem?
 intro q
 by_cases hq:q<N
 · have e0:O[q]?=some (O.getD q 0):=by rw[RT,RW (by omega)];rfl
   rw[e0]
   by_cases c:∃s∈S,s.toNat=q
   · obtain⟨y,hy,rfl⟩:=c
     obtain⟨j,hj,ej⟩:=Sv.1 hy
     have hj':j<ws.length:=by rw[v.so.len]at hj;exact hj
     have h1:S[j]?=some y:=by rw[RW hj,ej]
     have eyD:S.getD j 0=y:=by rw[RT,h1];rfl
     obtain⟨p,hp,ep⟩:=R4.1 (lv.mem_iff.2 (List.mem_range.2 hj'))
     have o1:=v.out t (by simp) p hp
     rw[ep,eyD]at o1
     have h2:(vi ws)[j]?=some ((p.2:Nat):Int):=by
      rw[eD];unfold ES
      rw[uJ,So hj']
      rw[←ep]
      show some ((BJ s.U s.U.length (s.U.getD p.1 (-1)):Nat):Int)=_
      rw[dep p hp]
     rw[xB S _ _ j y _ nd h1 h2 (by simpa using hq),o1]
   · have c':∀s∈S,s.toNat≠q:=fun s hs e=>c ⟨s,hs,e⟩
     rw[wI _ _ _ _ c',v.zero q c',Sk,if_pos hq]
 · rw[R8 (by omega),R8 (by rw[wx];simp;omega)]
def yU:List Int→Nat
 |[]=>0
 |c::r=>if c=0 then 0 else yU r+1
def yg (C:List Int):Nat:=(u9 C).length
def Df (C:List Int):List Int:=if yg C=1 then C.set (yU C) 1 else C
theorem Gy (C:List Int):(Df C).length=C.length:=by unfold Df;split<;>simp
theorem EG:∀(C:List Int),(∀y∈C,0≤y)→u9 C=[]→∀y∈C,y=0
 |[],_,_,y,hy=>by simp at hy
 | c :: r, hp, h, y, hy => by
   rw[u9]at h
   by_cases q:0<c
   · rw[if_pos q]at h;cases h
   · rw[if_neg q]at h
     rcases uR.1 hy with z|z
     · have:=hp c (by simp);omega
     · exact EG r (fun y h=>hp y (by simp [h])) h y z
theorem Ow {C : List Int} (hC : ∀ y ∈ C, 0 ≤ y) (h2 : 2 ≤ C.length) : u6 0 (Df C) = wo C ∧ u9 (Df C) = wG C := by
 unfold wo wG A8 Hu Df yg
 rw[vD]
 by_cases c:(u9 C).length=1
 · rw [if_pos c, if_pos c, if_pos c]
   match C,h2 with
   | c0 :: c1 :: r, _ =>
     have p0:=hC c0 (by simp)
     have p1:=hC c1 (by simp)
     by_cases q:0<c0
     · have w1:(u9 (c1::r)).length=0:=by rw[u9,if_pos q]at c;simpa using c
       have wn:=Si w1
       have s1:u6 1 (c1::r)=[]:=Si (by rw[vD,w1])
       have z1:=EG (c1::r) (fun y h=>hC y (by simp [h])) wn c1 (by simp)
       have i0:yU (c0::c1::r)=1:=by rw[yU,if_neg (by omega),yU,if_pos z1]
       have s2:u6 2 r=[]:=by rw[u6,if_neg (by omega)]at s1;exact s1
       have w2:u9 r=[]:=by rw[u9,if_neg (by omega)]at wn;exact wn
       rw[i0]
       have eS:u6 0 (c0::c1::r)=[0]:=by rw[u6,if_pos q,s1];rfl
       have eW:u9 (c0::c1::r)=[c0]:=by rw[u9,if_pos q,wn]
       rw[eS,eW]
       have e1:u6 0 (c0::1::r)=[0,1]:=by rw[u6,if_pos q,u6,if_pos (by omega),s2];rfl
       have e2:u9 (c0::1::r)=[c0,1]:=by rw[u9,if_pos q,u9,if_pos (by omega),w2]
       exact⟨e1,e2⟩
     · have z0:c0=0:=by omega
       have i0:yU (c0::c1::r)=0:=by rw[yU,if_pos z0]
       rw[i0]
       have eS:u6 0 (c0::c1::r)=u6 1 (c1::r):=by rw[u6,if_neg q]
       have eW:u9 (c0::c1::r)=u9 (c1::r):=by rw[u9,if_neg q]
       rw[eS,eW]
       rw[eW]at c
       have cS:(u6 1 (c1::r)).length=1:=by rw[vD];exact c
       obtain⟨s,es⟩:=List.length_eq_one_iff.1 cS
       obtain⟨w,ew⟩:=List.length_eq_one_iff.1 c
       have sr:=wT 1 (c1::r) s (by rw[es];simp)
       have e1:u6 0 (1::c1::r)=0::u6 1 (c1::r):=by rw[u6,if_pos (by omega)];rfl
       have e2:u9 (1::c1::r)=1::u9 (c1::r):=by rw[u9,if_pos (by omega)]
       have e3:(c0::c1::r).set 0 1=1::c1::r:=rfl
       rw[e3,e1,e2,es,ew]
       have g:[s].getD 0 0=s:=rfl
       rw[g,if_pos (by omega),if_pos (by omega)]
       exact⟨rfl,rfl⟩
 · rw[if_neg c,if_neg c,if_neg c];exact⟨rfl,rfl⟩
theorem Cc:∀(i:Nat) (C:List Int),(∀y∈C,0≤y)→u6 i (v8 C)=u6 i C∧u9 (v8 C)=v8 (u9 C)
 |i,[],_=>⟨rfl,rfl⟩
 | i, c :: r, h => by
   have hc:=h c (by simp)
   obtain⟨a,b⟩:=Cc (i+1) r fun y hy=>h y (by simp [hy])
   show u6 i (yl c::v8 r)=_∧u9 (yl c::v8 r)=_
   rw[u6,u6,u9,u9,a,b]
   have e:0<yl c↔0<c:=by unfold yl;omega
   by_cases q:0<c
   · rw[if_pos (e.2 q),if_pos (e.2 q),if_pos q,if_pos q];exact⟨rfl,rfl⟩
   · rw[if_neg (fun z=>q (e.1 z)),if_neg (fun z=>q (e.1 z)),if_neg q,if_neg q];exact⟨rfl,rfl⟩
theorem Av : ∀ (i : Nat) (C : List Int) (j k : Nat), j < k → k < (u6 i C).length → (u6 i C).getD j 0 < (u6 i C).getD k 0
 |i,[],j,k,h,hk=>by simp [u6]at hk
 | i, c :: r, j, k, h, hk => by
   rw[u6]at hk ⊢
   split
   · rename_i q
     rw[if_pos q]at hk
     obtain⟨k,rfl⟩:∃m,k=m+1:=⟨k-1,by omega⟩
     simp only[RU]at hk
     cases j with
     | zero =>
       have hm:(u6 (i+1) r).getD k 0∈u6 (i+1) r:=by rw[RT,RW (by omega)];exact Sb _
       have:=wT (i+1) r _ hm
       show(i:Int)<(u6 (i+1) r).getD k 0
       omega
     |succ j=>exact Av (i+1) r j k (by omega) (by omega)
   · rename_i q
     rw[if_neg q]at hk
     exact Av (i+1) r j k h hk
theorem EA (C:List Int):AA (u9 C).length C.length (u6 0 C):=
 ⟨vD 0 C,fun s hs=>by have:=wT 0 C s hs;omega,fun i j h1 h2=>Av 0 C i j h1 (by rw[vD];exact h2),BI C 0⟩
theorem Dp {S D:List Int} {n:Nat} (hl:D.length=S.length) (nd:(S.map Int.toNat).Nodup) (hr:∀s∈S,s.toNat<n) {m:Int} (hm:0≤m):(∀y∈vI S D (List.replicate n 0),y≤m)↔Ag D 0≤m:=by
 constructor
 · intro h
   refine AZ D 0 m (fun d hd=> ?_) hm
   obtain⟨j,hj,ej⟩:=Sv.1 hd
   have h1:S[j]?=some (S[j]'(by omega)):=RW (by omega)
   have h2:D[j]?=some d:=by rw[RW hj,ej]
   exact h d (uE (xB S D (List.replicate n 0) j _ d nd h1 h2 (by simpa using hr _ (Sb _))))
 · intro h y hy
   obtain⟨p,hp,ep⟩:=Sv.1 hy
   have e:(vI S D (List.replicate n 0))[p]?=some y:=by rw[RW hp,ep]
   by_cases c:∃s∈S,s.toNat=p
   · obtain⟨s,hs,rfl⟩:=c
     obtain⟨j,hj,ej⟩:=Sv.1 hs
     have h1:S[j]?=some s:=by rw[RW hj,ej]
     have h2:D[j]?=some (D[j]'(by omega)):=RW (by omega)
     rw[xB S D _ j s _ nd h1 h2 (by simpa using hr s hs)]at e
     have e:=uh e
     have:=(Cq D 0).2 _ (Sb (show j<D.length by omega))
     omega
   · have c':∀s∈S,s.toNat≠p:=fun s hs q=>c ⟨s,hs,q⟩
     rw[wI _ _ _ _ c',Sk]at e
     split at e
     · obtain rfl:=uh e;exact hm
     · cases e
def wq (l:List Nat):List AV:=l.map fun t=>AV.aD t 0
theorem xF (l:List Nat):(wq l).length=l.length:=by simp [wq]
theorem zC {l:List Nat} {J:List AV} {i:Nat} (h:i<l.length):(wq l++J)[i]?=some (.aD (l.getD i 0) 0):=by
 rw[R5 (by rw[xF];exact h),wq,uJ,RT,RW h];rfl
theorem zj {l:List Nat} {i:Nat} (h:i<l.length):l.getD i 0∈l:=by
 rw[RT,RW h];exact Sb h
structure Hz (h:H) (a id:Nat) (l:List Nat) (J:List AV) (rc:Nat→Tz):Prop where
 ga:h.get a=some [.aE id 0 l.length 1]
 gi:h.get id=some (wq l++J)
 fa:h.floor≤a
 fi:h.floor≤id
 ne:a≠id
 tr:∀t∈l,t≠a∧t≠id∧(0≤(rc t).m∧(rc t).m<1000000)∧∃sv,h.get t=some [.int .i64 (rc t).w,.int .i64 (rc t).m,sv]
 lb:l.length<100000
theorem Hz.set {h:H} {a id:Nat} {l l':List Nat} {J:List AV} {rc:Nat→Tz} (z:Hz h a id l J rc) (p:l'.Perm l):Hz (h.set id (wq l'++J)) a id l' J rc where
 ga:=by rw[uY z.ne,z.ga,p.length_eq]
 gi:=by rw[vq rfl,z.gi];rfl
 fa:=by simpa using z.fa
 fi:=by simpa using z.fi
 ne:=z.ne
 tr t ht:=by
  obtain⟨a1,a2,a3,sv,a4⟩:=z.tr t (p.mem_iff.1 ht)
  exact⟨a1,a2,a3,sv,by rw[uY a2];exact a4⟩
 lb:=by rw[p.length_eq];exact z.lb
theorem CP (h:H) (id n:Nat):aR AP.A 363 [.aE id 0 n 1] h=some (.int .i64 n,h):=by
 refine s7 (fn:=AP.f363) (e:=[(2,.int .i64 n)]) (vs:=[.int .i64 n]) rfl rfl rfl (by simp (disch:=omega)only[go_sem,vr,AP.f363,zc]) rfl
theorem Oo {h:H} {a id:Nat} {l:List Nat} {J:List AV} {rc:Nat→Tz} (z:Hz h a id l J rc) {i j:Nat} (hi:i<l.length) (hj:j<l.length):
 aR AP.A 368 [.aE id 0 l.length 1,.int .i64 i,.int .i64 j] h=some (.bool (decide (wX rc (l.getD i 0)<wX rc (l.getD j 0))),h):=by
 obtain⟨_,_,mi,si,gi⟩:=z.tr _ (zj hi)
 obtain⟨_,_,mj,sj,gj⟩:=z.tr _ (zj hj)
 have pi:=zC (J:=J) hi
 have pj:=zC (J:=J) hj
 have gid:=z.gi
 unfold wX
 generalize wq l++J=P at *
 generalize l.getD i 0=ti at *
 generalize l.getD j 0=tj at *
 generalize (rc ti).w=wi at *
 generalize (rc ti).m=mmi at *
 generalize (rc tj).w=wj at *
 generalize (rc tj).m=mmj at *
 generalize l.length=n at *
 clear z
 have i1:fE 1 (.aE id 0 n 1) (.int .i64 i)=some (.aD id i):=by
  simp [fE,cH,nk,hi]
 have j1:fE 1 (.aE id 0 n 1) (.int .i64 j)=some (.aD id j):=by
  simp [fE,cH,nk,hj]
 by_cases c:wi=wj
 · have e:decide (wi* 1000000+mmi<wj* 1000000+mmj)=decide (mmi<mmj):=decide_eq_decide.2 (by omega)
   rw[e]
   have cb:(wi !=wj)=false:=by simp [c]
   refine s7 (fn:=AP.f368) (e:=[(6,.bool (decide (mmi<mmj)))]) (vs:=[.bool (decide (mmi<mmj))]) rfl rfl rfl ?_ rfl
   simp (disch:=omega)only[go_sem,vr,AP.f368,i1,j1,gid,pi,pj,gi,gj,cb]
 · have e:decide (wi* 1000000+mmi<wj* 1000000+mmj)=decide (wi<wj):=decide_eq_decide.2 (by omega)
   rw[e]
   have cb:(wi !=wj)=true:=by simp [c]
   refine s7 (fn:=AP.f368) (e:=[(6,.bool (decide (wi<wj)))]) (vs:=[.bool (decide (wi<wj))]) rfl rfl rfl ?_ rfl
   simp (disch:=omega)only[go_sem,vr,AP.f368,i1,j1,gid,pi,pj,gi,gj,cb]
theorem Kj {l:List Nat} {J:List AV} {i j:Nat} (hi:i<l.length) (hj:j<l.length):((wq l++J).set i (.aD (l.getD j 0) 0)).set j (.aD (l.getD i 0) 0)=wq (Be l i j)++J:=by
 rw[List.set_append_left _ _ (by rw[xF];exact hi),List.set_append_left _ _ (by rw[Sg,xF];exact hj)]
 unfold wq Be
 rw[List.map_set,List.map_set]
theorem OI {h:H} {a id:Nat} {l:List Nat} {J:List AV} {rc:Nat→Tz} (z:Hz h a id l J rc) {i j:Nat} (hi:i<l.length) (hj:j<l.length):
 aR AP.A 369 [.aE id 0 l.length 1,.int .i64 i,.int .i64 j] h=some (.bK [],h.set id (wq (Be l i j)++J)):=by
 have pi:=zC (J:=J) hi
 have pj:=zC (J:=J) hj
 have gid:=z.gi
 have fi:=z.fi
 have e:=Kj (J:=J) hi hj
 have pl:l.length≤(wq l++J).length:=by rw[uU,xF];omega
 rw[←e]
 generalize wq l++J=P at *
 generalize l.getD i 0=ti at *
 generalize l.getD j 0=tj at *
 generalize l.length=n at *
 clear z e
 have i1:fE 1 (.aE id 0 n 1) (.int .i64 i)=some (.aD id i):=by
  simp [fE,cH,nk,hi]
 have j1:fE 1 (.aE id 0 n 1) (.int .i64 j)=some (.aD id j):=by
  simp [fE,cH,nk,hj]
 have e2:(h.set id (P.set i (.aD tj 0))).set id ((P.set i (.aD tj 0)).set j (.aD ti 0))=h.set id ((P.set i (.aD tj 0)).set j (.aD ti 0)):=H.set_set _ _ _ _
 rw[←e2]
 have g2:(h.set id (P.set i (.aD tj 0))).get id=some (P.set i (.aD tj 0)):=by rw[vq rfl,gid];rfl
 refine vT (fn:=AP.f369) (e:=[]) (vs:=[]) rfl rfl rfl ?_ rfl
 simp (disch:=omega)only[go_sem,vr,AP.f369,i1,j1,gid,pi,pj,g2]
theorem Hn {h:H} {a id:Nat} {l:List Nat} {J:List AV} {rc:Nat→Tz} (z:Hz h a id l J rc) {i j:Nat} {x y:Int} (hx:x=i) (hy:y=j) (hi:i<l.length) (hj:j<l.length):
 aR AP.A 368 [.aE id 0 l.length 1,.int .i64 x,.int .i64 y] h=some (.bool (decide (wX rc (l.getD i 0)<wX rc (l.getD j 0))),h):=by subst hx;subst hy;exact Oo z hi hj
theorem HC {h:H} {a id:Nat} {l:List Nat} {J:List AV} {rc:Nat→Tz} (z:Hz h a id l J rc) {i j:Nat} {x y:Int} (hx:x=i) (hy:y=j) (hi:i<l.length) (hj:j<l.length):
 aR AP.A 369 [.aE id 0 l.length 1,.int .i64 x,.int .i64 y] h=some (.bK [],h.set id (wq (Be l i j)++J)):=by subst hx;subst hy;exact OI z hi hj
abbrev Bu (a:Nat):AV:=.iface 1 (.aD a 0)
theorem DW {h:H} {a n i:Nat} {i0:Int} (hn:n<100000) (hi:n≤2* i+1) (hi2:i<100000):
 aL (aR AP.A) bp AP.f366L0 [(0,Bu a),(1,.int .i64 i0),(2,.int .i64 n),(7,.int .i64 i)] h=some (.exit 0,[(0,Bu a),(1,.int .i64 i0),(2,.int .i64 n),(7,.int .i64 i),(8,.int .i64 (2* (i:Int)+1)),(21,.bool true)],h):=by
 have c:(n:Int)≤2* (i:Int)+1:=by omega
 simp (disch:=omega)only[go_sem,vr,AP.f366L0,c]
theorem He {h : H} {a id : Nat} {l : List Nat} {J : List AV} {rc : Nat → Tz} (z : Hz h a id l J rc) {n i : Nat} {i0 : Int} (hn : n ≤ l.length) (hi : 2 * i + 1 < n) :
 (wX rc (l.getD (DF (wX rc) n i l) 0)<wX rc (l.getD i 0)→aL (aR AP.A) bp AP.f366L0 [(0,Bu a),(1,.int .i64 i0),(2,.int .i64 n),(7,.int .i64 i)] h=some (.normal,[(0,Bu a),(1,.int .i64 i0),(2,.int .i64 n),(7,.int .i64 (DF (wX rc) n i l:Nat))],h.set id (wq (Be l i (DF (wX rc) n i l))++J)))∧
 (¬wX rc (l.getD (DF (wX rc) n i l) 0)<wX rc (l.getD i 0)→aL (aR AP.A) bp AP.f366L0 [(0,Bu a),(1,.int .i64 i0),(2,.int .i64 n),(7,.int .i64 i)] h=some (.exit 0,[(0,Bu a),(1,.int .i64 i0),(2,.int .i64 n),(7,.int .i64 i),(9,.int .i64 (DF (wX rc) n i l:Nat)),(39,.bool true)],h)):=by
 obtain⟨kr,kn⟩:=Cp (ky:=wX rc) (n:=n) (i:=i) (l:=l) hi
 have lb:=z.lb
 have c0:¬(n:Int)≤2* (i:Int)+1:=by omega
 have ga:=z.ga
 have key:∀x:Int,x=(DF (wX rc) n i l:Nat)→x<1000000→(2* (i:Int)+1+1<n→aR AP.A 368 [.aE id 0 l.length 1,.int .i64 (2* (i:Int)+1+1),.int .i64 (2* (i:Int)+1)] h=some (.bool (decide (x=2* (i:Int)+1+1)),h))∧(¬2* (i:Int)+1+1<n→x=2* (i:Int)+1)∧(x=2* (i:Int)+1∨x=2* (i:Int)+1+1):=by
  intro x hx hx2
  refine⟨fun c=> ?_,fun c=>by omega,by omega⟩
  rw[Hn z (i:=2* i+2) (j:=2* i+1) (by omega) (by omega) (by omega) (by omega)]
  congr 3
  have:DF (wX rc) n i l=2* i+2↔wX rc (l.getD (2* i+2) 0)<wX rc (l.getD (2* i+1) 0):=by
   unfold DF
   by_cases q:wX rc (l.getD (2* i+2) 0)<wX rc (l.getD (2* i+1) 0)
   · rw[if_pos ⟨by omega,q⟩];exact⟨fun _=>q,fun _=>rfl⟩
   · rw[if_neg (fun z=>q z.2)];exact⟨fun z=>by omega,fun z=>absurd z q⟩
  exact decide_eq_decide.2 (by rw[←this];omega)
 generalize hk:DF (wX rc) n i l=k at *
 obtain⟨k1,k2,k3⟩:=key k rfl (by omega)
 have lk:=Hn z (x:=k) (y:=i) rfl rfl (by omega) (by omega)
 have sk:=HC z (x:=i) (y:=k) rfl rfl (by omega) (by omega)
 constructor
 · intro c
   rw[R0 c]at lk
   by_cases c1:2* (i:Int)+1+1<n
   · have k1':=k1 c1
     rcases k3 with e|e
     · have e2:decide ((k:Int)=2* (i:Int)+1+1)=false:=RY (by omega)
       rw[e2]at k1'
       rw[e]at lk sk ⊢
       clear z key k1 k2
       simp (disch:=omega)only[go_sem,vr,AP.f366L0,c0,c1,ga,k1',lk,sk]
     · have e2:decide ((k:Int)=2* (i:Int)+1+1)=true:=R0 (by omega)
       rw[e2]at k1'
       rw[e]at lk sk ⊢
       clear z key k1 k2
       simp (disch:=omega)only[go_sem,vr,AP.f366L0,c0,c1,ga,k1',lk,sk]
   · rw[k2 c1]at lk sk ⊢
     clear z key k1 k2
     simp (disch:=omega)only[go_sem,vr,AP.f366L0,c0,c1,ga,lk,sk]
 · intro c
   rw[RY c]at lk
   by_cases c1:2* (i:Int)+1+1<n
   · have k1':=k1 c1
     rcases k3 with e|e
     · have e2:decide ((k:Int)=2* (i:Int)+1+1)=false:=RY (by omega)
       rw[e2]at k1'
       rw[e]at lk ⊢
       clear z key k1 k2 sk
       simp (disch:=omega)only[go_sem,vr,AP.f366L0,c0,c1,ga,k1',lk]
     · have e2:decide ((k:Int)=2* (i:Int)+1+1)=true:=R0 (by omega)
       rw[e2]at k1'
       rw[e]at lk ⊢
       clear z key k1 k2 sk
       simp (disch:=omega)only[go_sem,vr,AP.f366L0,c0,c1,ga,k1',lk]
   · rw[k2 c1]at lk ⊢
     clear z key k1 k2 sk
     simp (disch:=omega)only[go_sem,vr,AP.f366L0,c0,c1,ga,lk]
theorem DX {a id : Nat} {J : List AV} {rc : Nat → Tz} {n : Nat} {i0 : Int} : ∀ (f i : Nat) (l : List Nat) (h : H), Hz h a id l J rc → n ≤ l.length → n ≤ i + f → i < 100000 →
 ∃e' k,Lp AP.A [0,1,2,7] AP.f366L0 [(0,Bu a),(1,.int .i64 i0),(2,.int .i64 n),(7,.int .i64 i)] h=some (.exit 0,e',h.set id (wq (sink (wX rc) n f i l)++J))∧look e' 1=.int .i64 i0∧look e' 7=.int .i64 k
 | 0, i, l, h, z, hn, hf, hi => by
   rw[sink,H.jm z.gi]
   exact⟨_,i,sM (DW (by have:=z.lb;omega) (by omega) hi),rfl,rfl⟩
 | f + 1, i, l, h, z, hn, hf, hi => by
   have lb:=z.lb
   rw[sink]
   by_cases c0:n≤2* i+1
   · rw[if_pos c0,H.jm z.gi]
     exact⟨_,i,sM (DW (by omega) c0 hi),rfl,rfl⟩
   · rw[if_neg c0]
     obtain⟨r1,r2⟩:=He z (i0:=i0) hn (show 2* i+1<n by omega)
     obtain⟨kr,kn⟩:=Cp (ky:=wX rc) (n:=n) (i:=i) (l:=l) (by omega)
     by_cases c1:wX rc (l.getD (DF (wX rc) n i l) 0)<wX rc (l.getD i 0)
     · rw[if_pos c1]
       have r1:=r1 c1
       generalize DF (wX rc) n i l=k at *
       have zs:=z.set (yI (l:=l) (i:=i) (j:=k) (by omega) (by omega))
       obtain⟨e',m,k1,k2,k3⟩:=DX f k _ _ zs (by rw[xO];exact hn) (by omega) (by omega)
       rw[H.set_set]at k1
       exact⟨e',m,sN r1 k1,k2,k3⟩
     · rw[if_neg c1,H.jm z.gi]
       exact⟨_,i,sM (r2 c1),rfl,rfl⟩
theorem JJ {h:H} {a id:Nat} {l:List Nat} {J:List AV} {rc:Nat→Tz} (z:Hz h a id l J rc) {n i:Nat} (hn:n≤l.length) (hi:i<100000):
 ∃b,aR AP.A 366 [Bu a,.int .i64 i,.int .i64 n] h=some (.bool b,h.set id (wq (sink (wX rc) n n i l)++J)):=by
 obtain⟨e',k,L,e1,e7⟩:=DX (i0:=i) n i l h z hn (by omega) hi
 refine⟨decide ((i:Int)<k),s7 (fn:=AP.f366) (e:=[(6,.bool (decide ((i:Int)<k)))]) (vs:=[.bool (decide ((i:Int)<k))]) rfl rfl rfl ?_ rfl⟩
 simp (disch:=omega)only[go_sem,vr,AP.f366,rK,L,qM,rh,e1,e7]
theorem D7 {a id:Nat} {J:List AV} {rc:Nat→Tz} {n:Nat}:∀(i:Nat) (l:List Nat) (h:H),Hz h a id l J rc→l.length=n→i<100000→
 ∃e',Lp AP.A [0,2,3] AP.f362L0 [(0,Bu a),(2,.int .i64 n),(3,.int .i64 ((i:Int)-1))] h=some (.exit 0,e',h.set id (wq (zk (ky:=wX rc) n i l)++J))
 | 0, l, h, z, hn, hi => by
   rw[zk,H.jm z.gi]
   refine⟨[(0,Bu a),(2,.int .i64 n),(3,.int .i64 (-1)),(10,.bool false)],sM ?_⟩
   have c:¬(0:Int)≤-1:=by omega
   show aL (aR AP.A) bp AP.f362L0 [(0,Bu a),(2,.int .i64 n),(3,.int .i64 (-1))] h=_
   simp (disch:=omega)only[go_sem,vr,AP.f362L0,c]
 | i + 1, l, h, z, hn, hi => by
   have lb:=z.lb
   obtain⟨b,k⟩:=JJ z (n:=n) (i:=i) (by omega) (by omega)
   have e0:((i+1:Nat):Int)-1=(i:Int):=by omega
   have c:(0:Int)≤(i:Int):=by omega
   have zs:=z.set (l':=sink (wX rc) n n i l) (Ev (by omega))
   obtain⟨e',L⟩:=D7 (n:=n) i _ _ zs (by rw[Bc];exact hn) (by omega)
   rw[H.set_set]at L
   refine⟨e',sN (e':=[(0,Bu a),(2,.int .i64 n),(3,.int .i64 ((i:Int)-1))]) ?_ (by rw[zk];exact L)⟩
   rw[e0]
   simp (disch:=omega)only[go_sem,vr,AP.f362L0,c,k]
theorem Hj {n:Nat} (h:n<100000):bj .quo (.int .i64 (n:Int)) (.int .i64 2)=some (.int .i64 ((n/2:Nat):Int)):=by
 have e:=ry (k:=.i64) (a:=(n:Int)) (b:=2) (by omega)
 have:Int.tdiv (n:Int) 2=((n/2:Nat):Int):=yJ n 2
 rw[e,this,wi (by omega)]
theorem Lr {h:H} {a id:Nat} {l:List Nat} {J:List AV} {rc:Nat→Tz} (z:Hz h a id l J rc):
 aR AP.A 362 [Bu a] h=some (.bK [],h.set id (wq (zk (ky:=wX rc) l.length (l.length/2) l)++J)):=by
 have lb:=z.lb
 have ga:=z.ga
 have k:∀g:H,aR AP.A 363 [.aE id 0 l.length 1] g=_:=fun g=>CP g id l.length
 obtain⟨e',L⟩:=D7 (n:=l.length) (l.length/2) l h z rfl (by omega)
 have q:=Hj lb
 refine vT (fn:=AP.f362) (e:=[]) (vs:=[]) rfl rfl rfl ?_ rfl
 generalize wq (zk (ky:=wX rc) l.length (l.length/2) l)=P at *
 generalize l.length=n at *
 clear z
 simp (disch:=omega)only[go_sem,vr,AP.f362,ga,k,q,rK,L]
theorem Qp {h:H} {a id:Nat} {l:List Nat} {t:Nat} {J:List AV} {rc:Nat→Tz} (z:Hz h a id (l++[t]) J rc):
 aR AP.A 370 [.aD a 0] h=some (.iface 2 (.aD t 0),h.set a [.aE id 0 l.length 1])∧Hz (h.set a [.aE id 0 l.length 1]) a id l (.aD t 0::J) rc:=by
 have lb:=z.lb
 have ga:=z.ga
 have gi:=z.gi
 have fa:=z.fa
 have pt:=zC (J:=J) (show l.length<(l++[t]).length by simp)
 have gt:(l++[t]).getD l.length 0=t:=by simp
 rw[gt]at pt
 have eP:wq (l++[t])++J=wq l++(.aD t 0::J):=by simp [wq]
 constructor
 · have lP:l.length+1≤(wq (l++[t])++J).length:=by rw[uU,xF];simp
   rw[uU,Sr]at lb ga
   generalize wq (l++[t])++J=P at *
   generalize l.length=n at *
   clear z eP gt
   have i1:fE 1 (.aE id 0 (n+1) 1) (.int .i64 n)=some (.aD id n):=by simp [fE,cH,nk,show(n:Int)<(n:Int)+1 by omega]
   have s1:rF h 1 (.aE id 0 (n+1) 1) none (some (.int .i64 n)) none=some (.aE id 0 n 1):=by
    have:=L6 (m:=n) (p:=id) (o:=0) (k:=n+1) gi (n:=1) (by omega) (by omega) ⟨by omega,by simp;omega⟩
    rw[show((n:Int)).toNat=n by omega]at this
    exact this
   have n1:((n+1:Nat):Int)-1=n:=by omega
   refine s7 (fn:=AP.f370) (e:=[(2,.iface 2 (.aD t 0))]) (vs:=[.iface 2 (.aD t 0)]) rfl rfl rfl ?_ rfl
   simp (disch:=omega)only[go_sem,vr,AP.f370,ga,zc,n1,i1,gi,pt,s1]
 · refine⟨by rw[vq rfl,ga];rfl,by rw[uY (fun q=>z.ne q.symm),gi,eP],by simpa using fa,by simpa using z.fi,z.ne,fun x hx=> ?_,by simp at lb;omega⟩
   obtain⟨a1,a2,a3,sv,a4⟩:=z.tr x (by simp [hx])
   exact⟨a1,a2,a3,sv,by rw[uY a1];exact a4⟩
theorem JY {h:H} {a id:Nat} {l:List Nat} {J:List AV} {rc:Nat→Tz} (z:Hz h a id l J rc) (h1:1≤l.length) (ho:G2 (wX rc) 0 l.length l):
 ∃t l' h',aR AP.A 364 [Bu a] h=some (.iface 2 (.aD t 0),h')∧Hz h' a id l' (.aD t 0::J) rc∧l.Perm (t::l')∧G2 (wX rc) 0 l'.length l'∧(∀x∈l',wX rc t≤wX rc x)∧h'.next=h.next∧h'.floor=h.floor∧∀i,i≠a→i≠id→h'.get i=h.get i:=by
 have lb:=z.lb
 have ga:=z.ga
 obtain⟨n,hn⟩:∃n,l.length=n+1:=⟨l.length-1,by omega⟩
 have k0:∀g:H,aR AP.A 363 [.aE id 0 l.length 1] g=_:=fun g=>CP g id l.length
 have k1:=HC z (i:=0) (j:=n) (x:=0) (y:=n) rfl rfl (by omega) (by omega)
 have p1:=yI (l:=l) (i:=0) (j:=n) (by omega) (by omega)
 have z1:=z.set p1
 have z1a:=z1.ga
 have g:∀k,(Be l 0 n).getD k 0=if k=n then l.getD 0 0 else if k=0 then l.getD n 0 else l.getD k 0:=fun k=>Fq (by omega) (by omega)
 have sl1:(Be l 0 n).length=n+1:=by rw[xO];exact hn
 obtain⟨b,k2⟩:=JJ z1 (n:=n) (i:=0) (by omega) (by omega)
 obtain⟨s1,s2,s3⟩:=Fm (ky:=wX rc) (lo:=0) (n:=n) n 0 (Be l 0 n) (by omega) (by omega) (by omega) ⟨fun c h0 hc hp hne=>by
  rw[g,g,if_neg (by omega),if_neg hne,if_neg (by omega),if_neg (by omega)]
  exact ho c h0 (by omega) (by omega),fun c h0 hc hp h1 h2=>by omega⟩
 have z2:=z1.set s2
 have sl2:(sink (wX rc) n n 0 (Be l 0 n)).length=n+1:=by rw[Bc];exact sl1
 have e3:=s3 n (uy _)
 rw[g,if_pos rfl]at e3
 obtain⟨l',hl'⟩:∃l',l'=(sink (wX rc) n n 0 (Be l 0 n)).take n:=⟨_,rfl⟩
 have ll':l'.length=n:=by rw[hl',Su,sl2];omega
 have eS:sink (wX rc) n n 0 (Be l 0 n)=l'++[l.getD 0 0]:=by
  rw[hl',←e3]
  have:=List.take_append_drop n (sink (wX rc) n n 0 (Be l 0 n))
  have e4:(sink (wX rc) n n 0 (Be l 0 n)).drop n=[(sink (wX rc) n n 0 (Be l 0 n)).getD n 0]:=by
   rw[List.drop_eq_getElem_cons (by omega),List.drop_eq_nil_of_le (by omega),RT,RW (by omega)];rfl
  rw[←e4,this]
 have gl:∀k,k<n→(l'++[l.getD 0 0]).getD k 0=l'.getD k 0:=fun k hk=>by
  rw[RT,R5 (by omega),←RT]
 rw[H.set_set]at k2 z2
 rw[eS]at s1 s2 z2 k2
 obtain⟨k3,z3⟩:=Qp z2
 have pm:l.Perm (l.getD 0 0::l'):=(s2.trans p1).symm.trans List.perm_append_comm
 refine⟨l.getD 0 0,l',_, ?_,z3,pm, ?_, ?_,by simp,by simp,fun i h1 h2=>by rw[uY h1,uY h2]⟩
 · rw[xO]at z1a
   have gS:((h.set id (wq (Be l 0 n)++J)).get a)=some [.aE id 0 l.length 1]:=by rw[z1a]
   have k2':aR AP.A 366 [Bu a,.int .i64 0,.int .i64 n] (h.set id (wq (Be l 0 n)++J))=_:=k2
   have n1:(l.length:Int)-1=n:=by omega
   refine s7 (fn:=AP.f364) (e:=[(2,.iface 2 (.aD (l.getD 0 0) 0))]) (vs:=[.iface 2 (.aD (l.getD 0 0) 0)]) rfl rfl rfl ?_ rfl
   generalize wq (Be l 0 n)++J=P1 at *
   generalize wq (l'++[l.getD 0 0])++J=P2 at *
   generalize l.getD 0 0=t at *
   generalize l'.length=m at *
   generalize l.length=N at *
   clear z z1 z2 z3 g s1 s2 s3 ho
   simp (disch:=omega)only[go_sem,vr,AP.f364,ga,k0,n1,k1,k2',k3]
 · intro c h0 hc hp
   have:=s1 c h0 (by omega) (by omega)
   rw[gl _ (by omega),gl _ (by omega)]at this
   exact this
 · intro x hx
   have:x∈l:=pm.mem_iff.2 (Sw _ hx)
   obtain⟨j,hj,ej⟩:=Sv.1 this
   have:=JX ho j hj
   rw[show l.getD j 0=x by rw[RT,RW hj,←ej];rfl]at this
   exact this
theorem H0:bj .quo (.int .i64 (-1)) (.int .i64 2)=some (.int .i64 0):=by
 have e:=ry (k:=.i64) (a:= -1) (b:=2) (by omega)
 rw[e];rfl
theorem LK {a id : Nat} {J : List AV} {rc : Nat → Tz} : ∀ (f j : Nat) (l : List Nat) (h : H), Hz h a id l J rc → j < l.length → j ≤ f →
 ∃e',Lp AP.A [0,1] AP.f367L0 [(0,Bu a),(1,.int .i64 j)] h=some (.exit 0,e',h.set id (wq (Dm (wX rc) f j l)++J)):=by
 intro f
 induction f with
 | zero =>
   intro j l h z hj hf
   obtain rfl:j=0:=by omega
   rw[Dm,H.jm z.gi]
   refine⟨[(0,Bu a),(1,.int .i64 0),(4,.int .i64 0),(17,.bool true)],sM ?_⟩
   show aL (aR AP.A) bp AP.f367L0 [(0,Bu a),(1,.int .i64 0)] h=_
   simp (disch:=omega)only[go_sem,vr,AP.f367L0,H0]
 | succ f ih =>
   intro j l h z hj hf
   have lb:=z.lb
   have ga:=z.ga
   rw[Dm]
   by_cases c0:j=0
   · subst c0
     rw[if_pos rfl,H.jm z.gi]
     refine⟨[(0,Bu a),(1,.int .i64 0),(4,.int .i64 0),(17,.bool true)],sM ?_⟩
     show aL (aR AP.A) bp AP.f367L0 [(0,Bu a),(1,.int .i64 0)] h=_
     simp (disch:=omega)only[go_sem,vr,AP.f367L0,H0]
   · rw[if_neg c0]
     obtain⟨p,hp⟩:∃p,p=(j-1)/2:=⟨_,rfl⟩
     have n1:(j:Int)-1=((j-1:Nat):Int):=by omega
     have q:=Hj (n:=j-1) (by omega)
     rw[←hp]at q ⊢
     have ls:=Hn z (x:=j) (y:=p) rfl rfl (by omega) (by omega)
     have sw:=HC z (x:=p) (y:=j) rfl rfl (by omega) (by omega)
     have cb:((p:Int)==(j:Int))=false:=by simp;omega
     by_cases c1:wX rc (l.getD j 0)<wX rc (l.getD p 0)
     · rw[if_pos c1]
       rw[R0 c1]at ls
       have zs:=z.set (yI (l:=l) (i:=p) (j:=j) (by omega) (by omega))
       obtain⟨e',L⟩:=ih p _ _ zs (by rw[xO];omega) (by omega)
       rw[H.set_set]at L
       refine⟨e',sN (e':=[(0,Bu a),(1,.int .i64 p)]) ?_ L⟩
       clear z zs ih
       simp (disch:=omega)only[go_sem,vr,AP.f367L0,n1,q,ga,ls,sw,cb]
     · rw[if_neg c1,H.jm z.gi]
       rw[RY c1]at ls
       refine⟨[(0,Bu a),(1,.int .i64 j),(4,.int .i64 p),(17,.bool true)],sM ?_⟩
       clear z ih
       simp (disch:=omega)only[go_sem,vr,AP.f367L0,n1,q,ga,ls,cb]
theorem QM {h:H} {a id:Nat} {l:List Nat} {J:List AV} {rc:Nat→Tz} (z:Hz h a id l J rc) {j:Nat} (hj:j<l.length):
 aR AP.A 367 [Bu a,.int .i64 j] h=some (.bK [],h.set id (wq (Dm (wX rc) j j l)++J)):=by
 obtain⟨e',L⟩:=LK j j l h z hj (uy _)
 refine vT (fn:=AP.f367) (e:=[]) (vs:=[]) rfl rfl rfl ?_ rfl
 simp (disch:=omega)only[go_sem,vr,AP.f367,rK,L]
theorem Ls {h:H} {a id:Nat} {l:List Nat} {c:AV} {J:List AV} {rc:Nat→Tz} (z:Hz h a id l (c::J) rc) (ho:G2 (wX rc) 0 l.length l) {t:Nat} {sv:AV} (ht:t≠a∧t≠id) (hm:0≤(rc t).m∧(rc t).m<1000000) (gt:h.get t=some [.int .i64 (rc t).w,.int .i64 (rc t).m,sv]) (hlb:l.length+1<100000) (hfl:h.floor≤h.next):
 ∃l' h',aR AP.A 365 [Bu a,.iface 2 (.aD t 0)] h=some (.bK [],h')∧Hz h' a id l' J rc∧l'.Perm (t::l)∧G2 (wX rc) 0 l'.length l'∧h'.next=h.next+1∧h'.floor=h.floor∧∀i,i<h.next→i≠a→i≠id→h'.get i=h.get i:=by
 have lb:=z.lb
 have ga:=z.ga
 have gi:=z.gi
 have fa:=z.fa
 have fi:=z.fi
 have ne:=z.ne
 have la:=h.lt _ _ ga
 have li:=h.lt _ _ gi
 have lt:=h.lt _ _ gt
 have eP:(wq l++c::J).set l.length (.aD t 0)=wq (l++[t])++J:=by
  rw[List.set_append_right _ _ (by rw[xF];exact uy _),xF,Nat.sub_self];simp [wq]
 have lP:l.length+1≤(wq l++c::J).length:=by rw[uU,xF];simp
 obtain⟨h1,eh1⟩:∃g,g=((h.alloc [.aD t 0]).set id (wq (l++[t])++J)).set a [.aE id 0 (l.length+1) 1]:=⟨_,rfl⟩
 have k1:aR AP.A 371 [.aD a 0,.iface 2 (.aD t 0)] h=some (.bK [],h1):=by
  rw[eh1,←eP]
  refine vT (fn:=AP.f371) (e:=[]) (vs:=[]) rfl rfl rfl ?_ rfl
  have gi1:(h.alloc [.aD t 0]).get id=some (wq l++c::J):=by rw[vg (by omega),gi]
  generalize wq l++c::J=P at *
  generalize l.length=n at *
  clear z ho eP eh1
  simp (disch:=first|omega|(simp only[wM,RU,RX,uF,Nat.reduceAdd];first|done|omega|fail)|(simp (disch:=first|omega|(simp only[wM,RU,RX,uF,Nat.reduceAdd];first|done|omega|fail)|fail)only[wM,Cj,RZ,RU,RX,uF,Nat.reduceAdd];done)|fail)only[go_sem,vr,Ci,AP.f371,ga,gi,lP]
 have z1:Hz h1 a id (l++[t]) J rc:=by
  rw[eh1]
  refine⟨by rw[vq rfl,uY ne,vg (by omega),ga];simp,by rw[uY (Ne.symm ne),vq rfl,vg (by omega),gi];rfl,by simpa using fa,by simpa using fi,ne,fun x hx=> ?_,by simp;omega⟩
  rcases Sj.1 hx with q|q
  · obtain⟨a1,a2,a3,s,a4⟩:=z.tr x q
    have:=h.lt _ _ a4
    exact⟨a1,a2,a3,s,by rw[uY a1,uY a2,vg (by omega),a4]⟩
  · obtain rfl:=List.mem_singleton.1 q
    exact⟨ht.1,ht.2,hm,sv,by rw[uY ht.1,uY ht.2,vg (by omega),gt]⟩
 have k2:=CP h1 id (l.length+1)
 have k3:=QM z1 (j:=l.length) (by simp)
 obtain⟨r1,r2⟩:=Ik (ky:=wX rc) (n:=l.length+1) l.length l.length (l++[t]) (uy _) (by omega) (by simp) ⟨fun x h0 hx hne=>by
  have hl:x<l.length:=by omega
  have:=ho x h0 hl (by omega)
  rw[RT,RT,R5 (by omega),R5 hl,←RT,←RT]
  exact this,fun x h0 hx hp h1=>by omega⟩
 have z2:=z1.set r2
 have g1:=z1.ga
 rw[uU,Sr]at g1
 refine⟨_,_, ?_,z2,r2.trans List.perm_append_comm,by rw[GG];simpa using r1,by rw[eh1];simp,by rw[eh1];simp,fun i hi h2 h3=>by rw[uY h3,eh1,uY h2,uY h3,vg (by omega)]⟩
 refine vT (fn:=AP.f365) (e:=[]) (vs:=[]) rfl rfl rfl ?_ rfl
 have n1:((l.length+1:Nat):Int)-1=l.length:=by omega
 generalize wq (Dm (wX rc) l.length l.length (l++[t]))++J=P2 at *
 generalize l.length=n at *
 clear z z1 z2 ho r1 r2 eP
 simp (disch:=omega)only[go_sem,vr,AP.f365,k1,g1,k2,n1,k3]
theorem Au:∀(p q:List Int) (i:Nat),u6 i (p++q)=u6 i p++u6 (i+p.length) q
 |[],q,i=>by simp [u6]
 | c :: p, q, i => by
   rw[List.cons_append,u6,u6,Au p q (i+1),RU,show i+1+p.length=i+(p.length+1)by omega]
   split<;>rfl
theorem BL:∀(p q:List Int),u9 (p++q)=u9 p++u9 q
 |[],q=>by simp [u9]
 | c :: p, q => by
   rw[List.cons_append,u9,u9,BL p q]
   split<;>rfl
structure Bt (hb h:H) (a o N:Nat) (p:List Int) (l:List Nat) (av:AV):Prop where
 ext:Ext hb h
 fl:h.floor=hb.next
 Jn:h.floor≤h.next
 ga:h.get a=some [av]
 fa:hb.next≤a
 go:h.get o=some (ints (List.replicate N 0))
 fo:hb.next≤o
 Qv:a≠o
 own:vY 1 h av l.length (wq l)
 nv:∀j,av.id?=some j→j≠a∧j≠o
 ll:l.length=(u9 p).length
 nd:l.Nodup
 tr:∀i,i<l.length→∃sid,h.get (l.getD i 0)=some [.int .i64 ((u9 p).getD i 0),.int .i64 ((u6 0 p).getD i 0),.aE sid 0 1 1]∧h.get sid=some [.int .i64 ((u6 0 p).getD i 0)]∧(l.getD i 0≠a∧l.getD i 0≠o∧av.id?≠some (l.getD i 0))∧(sid≠a∧sid≠o∧av.id?≠some sid)
theorem Br {α:Type} {l m:List α} {i:Nat} {d:α} (h:i<l.length):(l++m).getD i d=l.getD i d:=by
 rw[RT,R5 h,←RT]
theorem Bq {α:Type} {l:List α} {x d:α}:(l++[x]).getD l.length d=x:=by
 rw[RT,R6 (uy _)];simp
theorem zZ {hb : H} {x : AV} {C : List Int} {a o : Nat} (hC : C.length < 1000) (rd : Rd hb x (ints C)) (pos : ∀ y ∈ C, 0 ≤ y) : ∀ (q p : List Int) (l : List Nat) (av : AV) (h : H), C = p ++ q → Bt hb h a o C.length p l av →
 ∃l' av' h',Lp AP.A [0,3,4,16,17,18] AP.f359L2 [(0,x),(3,.aE o 0 C.length 1),(4,.aD a 0),(16,x),(17,.int .i64 C.length),(18,.int .i64 p.length)] h=some (.exit 0,[(0,x),(3,.aE o 0 C.length 1),(4,.aD a 0),(16,x),(17,.int .i64 C.length),(18,.int .i64 C.length),(19,.bool false)],h')∧Bt hb h' a o C.length C l' av'
 | [], p, l, av, h, hp, b => by
   rw[Sd]at hp;subst hp
   refine⟨l,av,h,sM ?_,b⟩
   simp (disch:=omega)only[go_sem,vr,AP.f359L2]
 | y :: q, p, l, av, h, hp, b => by
   have hl:C.length=p.length+(q.length+1):=by rw[hp];simp
   obtain⟨ad,a1,a2⟩:=rd.xh
   have b1:=a1 p.length ⟨by omega,by omega⟩
   have hyC:C[p.length]?=some y:=by rw[hp];simp
   have b2:=a2 h b.ext p.length y hyC
   have yr:=pos y (uE hyC)
   have n2:(p++[y]).length=p.length+1:=by simp
   have c1:((p.length:Nat):Int)<C.length:=by omega
   by_cases c:0<y
   · have ga:=b.ga
     have la:=h.lt _ _ ga
     have lo:=h.lt _ _ b.go
     have fl:=b.fl
     have fa:=b.fa
     have fo:=b.fo
     obtain⟨g,eg⟩:∃g,g=(h.alloc [.int .i64 p.length]).alloc [.int .i64 y,.int .i64 p.length,.aE h.next 0 1 1]:=⟨_,rfl⟩
     have gl:∀i,i<h.next→g.get i=h.get i:=fun i hi=>by rw[eg,vg (by simp;omega),vg (by omega)]
     have gn:g.next=h.next+2:=by rw[eg];simp
     have gf:g.floor=h.floor:=by rw[eg];simp
     have owng:vY 1 g av l.length (wq l):=b.own.mono gf fun i hi=>gl i (b.own.lt hi).2
     have bfl:=b.Jn
     have ll:=b.ll
     have wl:(u9 p).length≤p.length:=by rw[←vD 0 p];exact wy 0 p
     obtain⟨v1,h1,p1,p2,p3,p4,p5,p6⟩:=owng.push (by omega) (z:=8) (m:=1) (by omega) (by omega) [.aD (h.next+1) 0] rfl rfl (zP (by omega))
     rw[gn]at p1 p4 p5 p6
     have avlt:∀j,av.id?=some j→j<h.next:=fun j hj=>(b.own.lt hj).2
     have hav:∀i,h.next≤i→av.id?≠some i:=fun i hi q=>by have:=avlt i q;omega
     have k1:∀i,i<h.next+2→av.id?≠some i→h1.get i=g.get i:=fun i hi hne=>p5 i hne hi
     have ga1:h1.get a=some [av]:=by rw[k1 a (by omega) (fun q=>(b.nv _ q).1 rfl),gl a la,ga]
     have gt1:h1.get (h.next+1)=some [.int .i64 y,.int .i64 p.length,.aE h.next 0 1 1]:=by
      rw[k1 _ (by omega) (hav _ (by omega)),eg,vk (by simp)]
     have gs1:h1.get h.next=some [.int .i64 p.length]:=by
      rw[k1 _ (by omega) (hav _ (by omega)),eg,vg (by simp),vk rfl]
     have S1:u6 0 (p++[y])=u6 0 p++[((p.length:Nat):Int)]:=by rw[Au,uF,u6,if_pos c];rfl
     have W1:u9 (p++[y])=u9 p++[y]:=by rw[BL,u9,if_pos c];rfl
     have sl:=vD 0 p
     have vid:v1.id?=some (h.next+3):=p6
     have nb:Bt hb (h1.set a [v1]) a o C.length (p++[y]) (l++[h.next+1]) v1:=by
      refine⟨fun i d hi=> ?_,by simp;omega,by simp;omega,by rw[vq rfl,ga1];rfl,fa, ?_,fo,b.Qv, ?_,fun j hj=> ?_, ?_, ?_,fun i hi=> ?_⟩
      · have:=hb.lt _ _ hi
        have hi2:=b.ext i d hi
        have:=h.lt _ _ hi2
        rw[uY (by omega),k1 i (by omega) (fun q=>by have:=(b.own.lt q).1;omega),gl i (by omega),hi2]
      · rw[uY (Ne.symm b.Qv),k1 o (by omega) (fun q=>(b.nv _ q).2 rfl),gl o lo,b.go]
      · have:vY 1 (h1.set a [v1]) v1 (l.length+1) (wq l++[.aD (h.next+1) 0]):=p2.mono (by simp) fun j hj=>by
         rw[vid]at hj
         have:=uh hj
         rw[uY (by omega)]
        simpa [wq]using this
      · rw[vid]at hj
        have:=uh hj
        exact⟨by omega,by omega⟩
      · rw[W1];simp [ll]
      · rw[List.nodup_append]
        refine⟨b.nd,by simp,fun u hu w hw=> ?_⟩
        obtain rfl:=List.mem_singleton.1 hw
        obtain⟨j,hj,ej⟩:=Sv.1 hu
        obtain⟨sid,t1,_⟩:=b.tr j hj
        rw[show l.getD j 0=u by rw[RT,RW hj,←ej];rfl]at t1
        have:=h.lt _ _ t1
        omega
      · rw[uU,Sr]at hi
        by_cases e:i<l.length
        · obtain⟨sid,t1,t2,⟨t3,t4,t5⟩,t6,t7,t8⟩:=b.tr i e
          have l1:=h.lt _ _ t1
          have l2:=h.lt _ _ t2
          rw[Br e,W1,S1,Br (by omega),Br (by omega)]
          refine⟨sid,by rw[uY t3,k1 _ (by omega) t5,gl _ l1,t1],by rw[uY t6,k1 _ (by omega) t8,gl _ l2,t2],⟨t3,t4,fun z=> ?_⟩,t6,t7,fun z=> ?_⟩
          · rw[vid]at z;have:=uh z;omega
          · rw[vid]at z;have:=uh z;omega
        · obtain rfl:i=l.length:=by omega
          rw[Bq,W1,S1]
          have e1:(u9 p++[y]).getD l.length 0=y:=by rw[ll];exact Bq
          have e2:(u6 0 p++[((p.length:Nat):Int)]).getD l.length 0=p.length:=by rw[ll,←sl];exact Bq
          rw[e1,e2]
          refine⟨h.next,by rw[uY (by omega),gt1],by rw[uY (by omega),gs1],⟨by omega,by omega,fun z=> ?_⟩,by omega,by omega,fun z=> ?_⟩
          · rw[vid]at z;have:=uh z;omega
          · rw[vid]at z;have:=uh z;omega
     obtain⟨l',av',h',L,nb'⟩:=zZ hC rd pos q (p++[y]) _ _ _ (by rw[hp];simp) nb
     refine⟨l',av',h',sN ?_ L,nb'⟩
     have hfa:h1.floor≤a:=by omega
     have e3:(((p++[y]).length:Nat):Int)=(p.length:Int)+1:=by simp
     rw[e3]
     have vs:v1.sc=true:=p2.sc
     have vc:v1.cells=[v1]:=p2.cells
     rw[eg]at p1
     clear nb nb' rd b owng p2 L k1 gl gn gf eg S1 W1 hyC
     simp (disch:=omega)only[go_sem,vr,AP.f359L2,c1,b1,b2,c,ga,vk,vg,p1,ga1,hfa,vs,vc]
   · have S1:u6 0 (p++[y])=u6 0 p:=by rw[Au,u6,if_neg c];simp [u6]
     have W1:u9 (p++[y])=u9 p:=by rw[BL,u9,if_neg c];simp [u9]
     have nb:Bt hb h a o C.length (p++[y]) l av:=⟨b.ext,b.fl,b.Jn,b.ga,b.fa,b.go,b.fo,b.Qv,b.own,b.nv,by rw[W1];exact b.ll,b.nd,fun i hi=>by rw[W1,S1];exact b.tr i hi⟩
     obtain⟨l',av',h',L,nb'⟩:=zZ hC rd pos q (p++[y]) _ _ _ (by rw[hp];simp) nb
     refine⟨l',av',h',sN ?_ L,nb'⟩
     have e3:(((p++[y]).length:Nat):Int)=(p.length:Int)+1:=by simp
     rw[e3]
     clear nb nb' rd b L S1 W1 hyC
     simp (disch:=omega)only[go_sem,vr,AP.f359L2,c1,b1,b2,c]
theorem Hz.congr {h:H} {a id:Nat} {l:List Nat} {J:List AV} {rc rc':Nat→Tz} (z:Hz h a id l J rc) (e:∀x∈l,rc' x=rc x):Hz h a id l J rc':=
 ⟨z.ga,z.gi,z.fa,z.fi,z.ne,fun t ht=>by rw[e t ht];exact z.tr t ht,z.lb⟩
theorem Hz.mono {h g:H} {a id:Nat} {l:List Nat} {J:List AV} {rc:Nat→Tz} (z:Hz h a id l J rc) (hf:g.floor=h.floor) (hg:∀i,(i=a∨i=id∨i∈l)→g.get i=h.get i):Hz g a id l J rc:=
 ⟨by rw[hg a (.inl rfl)];exact z.ga,by rw[hg id (.inr (.inl rfl))];exact z.gi,by rw[hf];exact z.fa,by rw[hf];exact z.fi,z.ne,fun t ht=>by rw[hg t (.inr (.inr ht))];exact z.tr t ht,z.lb⟩
theorem G2.congr {rc rc':Nat→Tz} {l:List Nat} (o:G2 (wX rc) 0 l.length l) (e:∀x∈l,rc' x=rc x):G2 (wX rc') 0 l.length l:=fun c h0 hc hp=>by
 have:=o c h0 hc hp
 have m1:=e _ (zj (l:=l) (i:=c) hc)
 have m2:=e _ (zj (l:=l) (i:=(c-1)/2) (by omega))
 unfold wX at this ⊢
 rw[m1,m2];exact this
theorem Rd.vP {h g:H} {v:AV} {cs:List AV} (r:Rd h v cs) (hg:∀j,v.id?=some j→g.get j=h.get j):Rd g v cs:=by
 refine⟨?_,r.2⟩
 have:=r.1
 cases v with
 | aE id off len s =>
   simp only[aS]at this ⊢
   rw[hg id rfl];exact this
 |_=>exact this
structure Mz (hb h:H) (a id o n N:Nat) (J:List AV) (l:List Nat) (rc:Nat→Tz) (O:List Int):Prop where
 z:Hz h a id l J rc
 ext:Ext hb h
 fl:h.floor=hb.next
 Jn:h.floor≤h.next
 la:hb.next≤a
 li:hb.next≤id
 lo:hb.next≤o
 go:h.get o=some (ints O)
 no:o≠a∧o≠id
 ol:O.length=N
 ob:∀y∈O,0≤y∧y≤((1000* (n-l.length):Nat):Int)
 tr:∀t∈l,t≠o∧∃sv,h.get t=some [.int .i64 (rc t).w,.int .i64 (rc t).m,sv]∧Rd h sv (ints (rc t).L)∧sv.sc=true∧sv.cells=[sv]∧∀j,sv.id?=some j→j≠a∧j≠id∧j≠o
 wb:∀t∈l,0≤(rc t).w∧(rc t).w<1000000000000000
theorem F9:∀(L O:List Int) (B:Int),(∀y∈O,0≤y∧y≤B)→0≤B→∀y∈Bv O L,0≤y∧y≤B+L.length
 |[],O,B,h,hB,y,hy=>by have:=h y hy;simp;exact this
 | s :: r, O, B, h, hB, y, hy => by
   rw[Bv]at hy
   have:=F9 r _ (B+1) (yD h hB) (by omega) y hy
   rw[RU];omega
theorem F8 {a o t N:Nat} {made:Int} {sv:AV} {L:List Int} (h0:H) (rd:Rd h0 sv (ints L)) (hL:L.length<100000) (hr:∀s∈L,0≤s∧s<N) (hN:N<100000):∀(q p:List Int) (O:List Int) (B:Int) (h:H),L=p++q→Ext h0 h→h0.get o=none→h.get o=some (ints O)→h.floor≤o→O.length=N→(∀y∈O,0≤y∧y≤B)→0≤B→B+q.length<1000000000→
 ∃h',Lp AP.A [3,4,7,10,75,76,77] AP.f359L0 [(3,.aE o 0 N 1),(4,.aD a 0),(7,.int .i64 made),(10,.aD t 0),(75,sv),(76,.int .i64 L.length),(77,.int .i64 p.length)] h=some (.exit 4,[(3,.aE o 0 N 1),(4,.aD a 0),(7,.int .i64 made),(10,.aD t 0),(75,sv),(76,.int .i64 L.length),(77,.int .i64 L.length),(78,.bool false)],h')∧h'.get o=some (ints (Bv O q))∧h'.floor=h.floor∧h'.next=h.next∧∀i,i≠o→h'.get i=h.get i
 | [], p, O, B, h, hp, hx, hn, go, fo, hO, ob, hB, hb => by
   rw[Sd]at hp;subst hp
   refine⟨h,sM ?_,go,rfl,rfl,fun _ _=>rfl⟩
   simp (disch:=omega)only[go_sem,vr,AP.f359L0]
 | s :: q, p, O, B, h, hp, hx, hn, go, fo, hO, ob, hB, hb => by
   have hl:L.length=p.length+(q.length+1):=by rw[hp];simp
   obtain⟨ad,a1,a2⟩:=rd.xh
   have b1:=a1 p.length ⟨by omega,by omega⟩
   have hyC:L[p.length]?=some s:=by rw[hp];simp
   have b2:=a2 h hx p.length s hyC
   have sr:=hr s (uE hyC)
   have c1:((p.length:Nat):Int)<L.length:=by omega
   have sO:s.toNat<O.length:=by omega
   have gs:=AO sO
   have ib:cH (.int .i64 s) N=some s.toNat:=by
    simp [cH,nk,sr]
   have yb:=ob (O.getD s.toNat 0) (by rw[RT,RW sO];exact Sb _)
   have st:=xY O s.toNat (O.getD s.toNat 0+1)
   have lO:(ints O).length=O.length:=by rw[pk]
   obtain⟨h',L1,g1,f1,n1,k1⟩:=F8 h0 rd hL hr hN q (p++[s]) (wR O s.toNat) (B+1) (h.set o (ints (wR O s.toNat))) (by rw[hp];simp) (hx.Im hn _) hn (by rw[vq rfl,go];rfl) (by simpa using fo) (by rw[xf];exact hO) (yD ob hB) (by omega) (by simp at hb;omega)
   refine⟨h',sN ?_ L1,by rw[Bv];exact g1,by rw[f1];simp,by rw[n1];simp,fun i hi=>by rw[k1 i hi,uY hi]⟩
   have e3:(((p++[s]).length:Nat):Int)=(p.length:Int)+1:=by simp
   rw[e3]
   unfold wR
   rw[←st]
   rw[hO]at lO sO
   generalize ints O=P at *
   generalize O.getD s.toNat 0=y at *
   generalize s.toNat=k at *
   clear rd L1 ob hr a1 a2 hyC st g1 k1 hx
   simp (disch:=omega)only[go_sem,vr,AP.f359L0,c1,b1,b2,ib,go,gs,fo]
theorem Hp {hb h : H} {a id o n N : Nat} {J : List AV} {l : List Nat} {rc : Nat → Tz} {O : List Int} {tr : Nat → Tr} {tot : Int} {S : List Int} {G s : FS} (v : Mz hb h a id o n N J l rc O) (sm : Fu n N tot S G s rc tr l O) (ho : G2 (wX rc) 0 l.length l) (h2 : 2 ≤ l.length) (hn : n ≤ 1000) (hN : N ≤ 1000) (ht : tot < 1000000000000000) :
 ∃h' J' l' rc' tr' s' O',aL (aR AP.A) bp AP.f359L1 [(3,.aE o 0 N 1),(4,.aD a 0),(7,.int .i64 (N+(n-l.length):Nat))] h=some (.normal,[(3,.aE o 0 N 1),(4,.aD a 0),(7,.int .i64 (N+(n-l'.length):Nat))],h')∧Mz hb h' a id o n N J' l' rc' O'∧Fu n N tot S G s' rc' tr' l' O'∧G2 (wX rc') 0 l'.length l'∧l'.length+1=l.length:=by
 have ga:=v.z.ga
 have lb:=v.z.lb
 have ll:=sm.ll
 obtain⟨ta,l1,h1,k1,z1,pm1,ho1,le1,n1,f1,kp1⟩:=JY v.z (by omega) ho
 have pl1:=pm1.length_eq
 rw[RU]at pl1
 obtain⟨tb,l2,h2',k2,z2,pm2,ho2,le2,n2,f2,kp2⟩:=JY z1 (by omega) ho1
 have pl2:=pm2.length_eq
 rw[RU]at pl2
 have pm:l.Perm (ta::tb::l2):=pm1.trans (pm2.cons ta)
 have sm1:=sm.perm pm
 have kp:∀i,i≠a→i≠id→h2'.get i=h.get i:=fun i q1 q2=>by rw[kp2 i q1 q2,kp1 i q1 q2]
 have tm:∀x∈ta::tb::l2,x∈l:=fun x hx=>pm.mem_iff.2 hx
 have T:∀x∈l,x≠a∧x≠id∧x≠o∧x<h.next∧∃sv,h2'.get x=some [.int .i64 (rc x).w,.int .i64 (rc x).m,sv]∧Rd h2' sv (ints (rc x).L)∧sv.sc=true∧sv.cells=[sv]∧∀j,sv.id?=some j→j≠a∧j≠id∧j≠o:=fun x hx=>by
  obtain⟨a1,a2,_,_⟩:=v.z.tr x hx
  obtain⟨a3,sv,g1,g2,g3,g4,g5⟩:=v.tr x hx
  exact⟨a1,a2,a3,h.lt _ _ g1,sv,by rw[kp x a1 a2,g1],g2.vP fun j hj=>kp j (g5 j hj).1 (g5 j hj).2.1,g3,g4,g5⟩
 obtain⟨ta1,ta2,ta3,ta4,sva,ga1,ga2,ga3,ga4,ga5⟩:=T ta (tm _ (by simp))
 obtain⟨tb1,tb2,tb3,tb4,svb,gb1,gb2,gb3,gb4,gb5⟩:=T tb (tm _ (by simp))
 have wa:=v.wb ta (tm _ (by simp))
 have wb:=v.wb tb (tm _ (by simp))
 have nx:h2'.next=h.next:=by rw[n2,n1]
 obtain⟨t,et⟩:∃t,t=h2'.next+1:=⟨_,rfl⟩
 obtain⟨rc',erc⟩:∃r:Nat→Tz,r=fun x=>if x=t then⟨(rc ta).w+(rc tb).w,((N+(n-(l2.length+2)):Nat):Int),(rc ta).L++(rc tb).L⟩else rc x:=⟨_,rfl⟩
 have fr:∀x∈l2,x≠t:=fun x hx=>by
  obtain⟨_,_,_,q,_⟩:=T x (tm x (by simp [hx]))
  omega
 have rct:rc' t=⟨(rc ta).w+(rc tb).w,((N+(n-(l2.length+2)):Nat):Int),(rc ta).L++(rc tb).L⟩:=by rw[erc];exact if_pos rfl
 have rco:∀x∈l2,rc' x=rc x:=fun x hx=>by rw[erc];exact if_neg (fr x hx)
 obtain⟨sm2,rL,cL,pL⟩:=sm1.step hn hN ht (rc':=rc') (t:=t) (fun x hx=>le1 x (pm2.mem_iff.2 hx)) (fun x hx=>le2 x hx) fr rco rct
 obtain⟨L,eL⟩:∃L,L=(rc ta).L++(rc tb).L:=⟨_,rfl⟩
 rw[←eL]at rct sm2 rL cL pL
 have xa:Ext h2' (h2'.alloc [sva,svb]):=(Ext.refl _).alloc _
 have k3:aR AP.A 62 [.aE h2'.next 0 2 1] (h2'.alloc [sva,svb])=some (vU L,h2'.alloc [sva,svb]):=by
  have r1:Rd (h2'.alloc [sva,svb]) (.aE h2'.next 0 2 1) ([(sva,(rc ta).L),(svb,(rc tb).L)].map (·.1)):=⟨by simp [aS,vk],by intro s e;cases e⟩
  have e:cat [(sva,(rc ta).L),(svb,(rc tb).L)]=L:=by rw[eL];simp [cat]
  have:=CG (h2'.alloc [sva,svb]) (.aE h2'.next 0 2 1) [(sva,(rc ta).L),(svb,(rc tb).L)] r1 (fun p hp=>by
   simp at hp
   rcases hp with rfl|rfl
   · exact ga2.mono fun i c q=>xa i c q
   · exact gb2.mono fun i c q=>xa i c q) (by rw[e];omega) (by simp) (by rw[e];exact pL)
  rw[e]at this;exact this
 obtain⟨h4,eh4⟩:∃g,g=(h2'.alloc [sva,svb]).alloc [.int .i64 ((rc ta).w+(rc tb).w),.int .i64 (N+(n-l.length):Nat),vU L]:=⟨_,rfl⟩
 have gt4:h4.get t=some [.int .i64 ((rc ta).w+(rc tb).w),.int .i64 (N+(n-l.length):Nat),vU L]:=by rw[eh4,et,vk (by simp)]
 have n4:h4.next=h.next+2:=by rw[eh4];simp;omega
 have f4:h4.floor=h.floor:=by rw[eh4];simp;omega
 have kp4:∀i,i<h.next→h4.get i=h2'.get i:=fun i hi=>by rw[eh4,vg (by simp;omega),vg (by omega)]
 have lo:=h.lt _ _ v.go
 have la:=h.lt _ _ ga
 have li:=h.lt _ _ v.z.gi
 have go4:h4.get o=some (ints O):=by rw[kp4 o lo,kp o v.no.1 v.no.2,v.go]
 have ln:iJ false (vU L)=some (.int .i64 L.length):=rfl
 have rdL:Rd H.empty (vU L) (ints L):=xK _ _
 have fl:=v.fl
 have vlo:=v.lo
 obtain⟨h5,L5,g5,f5,n5,kp5⟩:=F8 (a:=a) (t:=t) (made:=(N+(n-l.length):Nat)) (N:=N) H.empty rdL (by omega) rL (by omega) L [] O ((1000* (n-l.length):Nat):Int) h4 rfl (fun i c q=>by simp [H.empty,H.get]at q) (by simp [H.empty,H.get]) go4 (by omega) v.ol v.ob (by omega) (by omega)
 have gt5:h5.get t=some [.int .i64 (rc' t).w,.int .i64 (rc' t).m,vU L]:=by
  rw[kp5 t (by omega),gt4,rct,show l.length=l2.length+2 by omega]
 have z2':Hz h5 a id l2 (.aD tb 0:: .aD ta 0::J) rc':=by
  refine(z2.mono (by omega) fun i hi=> ?_).congr rco
  have:i<h.next∧i≠o:=by
   rcases hi with rfl|rfl|hi
   · exact⟨la,v.no.1.symm⟩
   · exact⟨li,v.no.2.symm⟩
   · obtain⟨_,_,q1,q2,_⟩:=T i (tm i (by simp [hi]))
     exact⟨q2,q1⟩
  rw[kp5 i this.2,kp4 i this.1]
 have Jn:=v.Jn
 obtain⟨l',h6,k6,z6,pm6,ho6,n6,f6,kp6⟩:=Ls z2' (ho2.congr rco) (t:=t) (sv:=vU L) ⟨by omega,by omega⟩ (by rw[rct];exact⟨by show(0:Int)≤((_:Nat):Int);omega,by show((_:Nat):Int)<1000000;omega⟩) gt5 (by omega) (by omega)
 have pl6:=pm6.length_eq
 rw[RU]at pl6
 have kpo:∀i,i<h.next→i≠a→i≠id→i≠o→h6.get i=h.get i:=fun i q1 q2 q3 q4=>by rw[kp6 i (by omega) q2 q3,kp5 i q4,kp4 i q1,kp i q2 q3]
 refine⟨h6,_,l',rc',_,_,Bv O L, ?_,⟨z6,fun i c hi=> ?_,by omega,by omega,v.la,v.li,v.lo, ?_,v.no,by rw[CS];exact v.ol, ?_,fun x hx=> ?_,fun x hx=> ?_⟩,sm2.perm pm6.symm,ho6,by omega⟩
 · have c:(1:Int)<l.length:=by omega
   have k0:∀g:H,aR AP.A 363 [.aE id 0 l.length 1] g=_:=fun g=>CP g id l.length
   have em:((N+(n-l'.length):Nat):Int)=((N+(n-l.length):Nat):Int)+1:=by omega
   have lms:((([]:List Int).length:Nat):Int)=0:=rfl
   rw[lms]at L5
   rw[em]
   have mb:((N+(n-l.length):Nat):Int)<1000000:=by omega
   have ga4':=(kp4 ta ta4).trans ga1
   have gb4':=(kp4 tb tb4).trans gb1
   have im1:(vU L).sc=true:=rfl
   have im2:(vU L).cells=[vU L]:=rfl
   generalize ((N+(n-l.length):Nat):Int)=made at *
   generalize (rc ta).w=A1 at *
   generalize (rc ta).m=A2 at *
   generalize (rc tb).w=B1 at *
   generalize (rc tb).m=B2 at *
   generalize vU L=iL at *
   generalize L.length=LL at *
   rw[et]at k6 L5 gt4
   clear v sm z1 z2 z2' z6 pm1 ho ho1 ho2 ho6 le1 le2 pm2 pm sm1 kp tm T fr rco rct sm2 rL xa eL kp4 kp5 kp6 kpo gt5 go4 g5 rdL erc
   simp (disch:=first|omega|(simp only[wM,RU,RX,uF,Nat.reduceAdd,ga1,gb1];first|done|omega|fail)|(simp (disch:=first|omega|(simp only[wM,RU,RX,uF,Nat.reduceAdd,ga1,gb1];first|done|omega|fail)|fail)only[wM,Cj,RZ,RU,RX,uF,Nat.reduceAdd,ga1,gb1];done)|fail)only[go_sem,vr,Ci,AP.f359L1,ga,k0,c,k1,k2,ga1,gb1,k3,←eh4,gt4,ga4',gb4',ln,rK,L5,k6,ga3,ga4,gb3,gb4,im1,im2]
 · have:=hb.lt _ _ hi
   have e:=v.ext i c hi
   have:=h.lt _ _ e
   have:=v.la
   have:=v.li
   rw[kpo i (by omega) (by omega) (by omega) (by omega),e]
 · rw[kp6 o (by omega) v.no.1 v.no.2,g5]
 · intro y hy
   have:=F9 L O _ v.ob (by omega) y hy
   omega
 · rcases uR.1 (pm6.mem_iff.1 hx)with q|q
   · subst q
     exact⟨by omega,vU L,by rw[kp6 _ (by omega) (by omega) (by omega),gt5],by rw[rct];exact rdL.vP fun j hj=>(by cases hj),rfl,rfl,fun j hj=>(by cases hj)⟩
   · obtain⟨a1,a2,a3,a4,sv,q1,q2,q3,q4,q5⟩:=T x (tm x (by simp [q]))
     have kx:h6.get x=h2'.get x:=by rw[kpo x a4 a1 a2 a3,kp x a1 a2]
     refine⟨a3,sv,by rw[kx,rco x q,q1], ?_,q3,q4,q5⟩
     rw[rco x q]
     refine q2.vP fun j hj=> ?_
     obtain⟨b1,b2,b3⟩:=q5 j hj
     have jl:j<h2'.next:=by
      have:=q2.1
      cases sv with
      | aE i2 o2 l2' s2 =>
        obtain rfl:=uh hj
        cases e:h2'.get i2 with
        |none=>simp [aS,e]at this
        |some c=>exact h2'.lt _ _ e
      |aD i2 o2=>cases this
      |_=>cases hj
     rw[kpo j (by omega) b1 b2 b3,kp j b1 b2]
 · rcases uR.1 (pm6.mem_iff.1 hx)with q|q
   · subst q
     rw[rct]
     have e:=(sm2.rel _ (List.mem_cons_self)).1
     rw[rct]at e
     have ws:=sm2.hv.sum
     have wp:=sm2.hv.HJ
     refine⟨by show 0≤(rc ta).w+(rc tb).w;omega, ?_⟩
     rw[R3,R3,Sl]at ws
     have nn:∀q:List Tr,(∀t∈q,1≤s.E0.W.getD t.1 0)→0≤(q.map fun t=>s.E0.W.getD t.1 0).sum:=by
      intro q
      induction q with
      |nil=>intro _;simp
      |cons x q ih=>intro h;have:=ih fun t ht=>h t (by simp [ht]);have:=h x (by simp);simp only[R3,Sl];omega
     have:=nn _ (fun t ht=>wp t (Sw _ ht))
     rw[←e]at ws
     show(rc ta).w+(rc tb).w<_
     have ws':(rc ta).w+(rc tb).w+_=tot:=ws
     omega
   · rw[rco x q];exact v.wb x (tm x (by simp [q]))
theorem Db {hb:H} {a id o n N:Nat} {tot:Int} {S:List Int} {G:FS} (hn:n≤1000) (hN:N≤1000) (ht:tot<1000000000000000):∀(m:Nat) (h:H) (J:List AV) (l:List Nat) (rc:Nat→Tz) (tr:Nat→Tr) (s:FS) (O:List Int),l.length=m+1→Mz hb h a id o n N J l rc O→Fu n N tot S G s rc tr l O→G2 (wX rc) 0 l.length l→
 ∃h' t rc' tr' s' O' mv,Lp AP.A [3,4,7] AP.f359L1 [(3,.aE o 0 N 1),(4,.aD a 0),(7,.int .i64 (N+(n-l.length):Nat))] h=some (.exit 2,[(3,.aE o 0 N 1),(4,.aD a 0),(7,mv),(41,.bool false)],h')∧Fu n N tot S G s' rc' tr' [t] O'∧h'.get o=some (ints O')∧h'.floor=hb.next
 | 0, h, J, l, rc, tr, s, O, hl, v, sm, ho => by
   obtain⟨t,rfl⟩:=List.length_eq_one_iff.1 hl
   have ga:=v.z.ga
   have k0:∀g:H,aR AP.A 363 [.aE id 0 1 1] g=_:=fun g=>CP g id 1
   refine⟨h,t,rc,tr,s,O,.int .i64 (N+(n-[t].length):Nat),sM ?_,sm,v.go,v.fl⟩
   rw[Sr]at ga
   have c:¬(1:Int)<((1:Nat):Int):=by omega
   clear v sm ho
   generalize ((N+(n-[t].length):Nat):Int)=made
   simp (disch:=omega)only[go_sem,vr,AP.f359L1,ga,k0,c]
 | m + 1, h, J, l, rc, tr, s, O, hl, v, sm, ho => by
   obtain⟨h1,J1,l1,rc1,tr1,s1,O1,k,v1,sm1,ho1,e⟩:=Hp v sm ho (by omega) hn hN ht
   obtain⟨h',t,rc',tr',s',O',mv,L,r⟩:=Db hn hN ht m h1 J1 l1 rc1 tr1 s1 O1 (by omega) v1 sm1 ho1
   exact⟨h',t,rc',tr',s',O',mv,sN k L,r⟩
theorem F7 {l:List Nat} (nd:l.Nodup) {i:Nat} (h:i<l.length):l.idxOf (l.getD i 0)=i:=by
 have hm:l.getD i 0∈l:=zj h
 have h1:=List.idxOf_lt_length_of_mem hm
 have h2:=List.getElem_idxOf h1
 have h3:l[i]=l.getD i 0:=by rw[RT,RW h];rfl
 rcases Nat.lt_trichotomy (l.idxOf (l.getD i 0)) i with q|q|q
 · exact absurd (h2.trans h3.symm) (List.pairwise_iff_getElem.1 nd _ _ h1 h q)
 · exact q
 · exact absurd (h3.trans h2.symm) (List.pairwise_iff_getElem.1 nd _ _ h h1 q)
def Dl (l:List Nat) (C:List Int) (t:Nat):Tz:=⟨(u9 C).getD (l.idxOf t) 0,(u6 0 C).getD (l.idxOf t) 0,[(u6 0 C).getD (l.idxOf t) 0]⟩
def HH (l:List Nat) (t:Nat):Tr:=(l.idxOf t,[(l.idxOf t,0)])
theorem KM {l:List Nat} (nd:l.Nodup) {n:Nat} (h:l.length=n):l.map (HH l)=T0 n:=by
 apply List.ext_getElem?
 intro i
 unfold T0
 rw[uJ,uJ]
 by_cases c:i<l.length
 · rw[RW c,So (by omega)]
   have h3:l[i]=l.getD i 0:=by rw[RT,RW c];rfl
   show some (HH l l[i])=_
   unfold HH
   rw[h3,F7 nd c];rfl
 · rw[R8 (by omega),R8 (by simp;omega)];rfl
def zV (C:List Int):List Int:=vI (u6 0 C) (vi (u9 C)) (List.replicate C.length 0)
theorem IQ (C:List Int):(zV C).length=C.length:=by unfold zV;rw[wx];simp
theorem Gj {α:Type} {l:List α} {x d:α} (h:x∈l):∃i,i<l.length∧l.getD i d=x:=by
 obtain⟨i,hi,e⟩:=Sv.1 h
 exact⟨i,hi,by rw[RT,RW hi,←e];rfl⟩
theorem KF {hb h:H} {a o:Nat} {C:List Int} {l:List Nat} {av:AV} (b:Bt hb h a o C.length C l av) (hC:C.length<1000) (pos:∀y∈C,0≤y∧y≤2147483647) (h1:1≤l.length):
 ∃id,Hz h a id l [] (Dl l C)∧Mz hb h a id o (u9 C).length C.length [] l (Dl l C) (List.replicate C.length 0)∧Fu (u9 C).length C.length (u9 C).sum (u6 0 C) (FS.ya ((u9 C).length-1) (Cg (u9 C))) (Cg (u9 C)) (Dl l C) (HH l) l (List.replicate C.length 0):=by
 obtain⟨id,ev,gi,fi⟩:=Jr b.own h1
 have av1:av.id?=some id:=by rw[ev];rfl
 have nva:=b.nv id av1
 have ga:=b.ga
 rw[ev]at ga
 have so:=EA C
 have sl:=vD 0 C
 have ll:=b.ll
 have fl:=b.fl
 have wl:=wy 0 C
 have rel:∀t∈l,∃i,i<l.length∧l.getD i 0=t∧HH l t=(i,[(i,0)])∧Dl l C t=⟨(u9 C).getD i 0,(u6 0 C).getD i 0,[(u6 0 C).getD i 0]⟩:=fun t ht=>by
  obtain⟨i,hi,e⟩:=Gj (d:=0) ht
  have ix:=F7 b.nd hi
  rw[e]at ix
  exact⟨i,hi,e,by unfold HH;rw[ix],by unfold Dl;rw[ix]⟩
 have z:Hz h a id l [] (Dl l C):=by
  refine⟨ga,by rw[Sd];exact gi,by rw[fl];exact b.fa,fi,nva.1.symm,fun t ht=> ?_,by omega⟩
  obtain⟨i,hi,e,_,e2⟩:=rel t ht
  obtain⟨sid,t1,t2,⟨t3,t4,t5⟩,_⟩:=b.tr i hi
  have:=so.at (i:=i) (by omega)
  rw[e]at t1 t3 t5
  rw[e2]
  exact⟨t3,fun q=>t5 (by rw[q];exact av1),⟨by show 0≤(u6 0 C).getD i 0;omega,by show(u6 0 C).getD i 0<_;omega⟩,_,t1⟩
 have wmem:∀i,i<l.length→1≤(u9 C).getD i 0∧(u9 C).getD i 0≤2147483647:=fun i hi=>by
  have hm:(u9 C).getD i 0∈u9 C:=by rw[RT,RW (by omega)];exact Sb _
  obtain⟨q1,q2⟩:=xV C _ hm
  have:=pos _ q1
  omega
 refine⟨id,z,⟨z,b.ext,fl,b.Jn,b.fa,by omega,b.fo,b.go,⟨b.Qv.symm,fun q=>nva.2 q.symm⟩,by simp,fun y hy=>by have:=Sm hy;omega,fun t ht=> ?_,fun t ht=> ?_⟩, ?_⟩
 · obtain⟨i,hi,e,_,e2⟩:=rel t ht
   obtain⟨sid,t1,t2,⟨t3,t4,t5⟩,t6,t7,t8⟩:=b.tr i hi
   rw[e]at t1 t4
   rw[e2]
   refine⟨t4,.aE sid 0 1 1,t1,⟨?_,by intro s e;cases e⟩,rfl,rfl,fun j hj=> ?_⟩
   · show aS h 1 (.aE sid 0 1 1)=some (1,[.int .i64 ((u6 0 C).getD i 0)])
     simp [aS,t2]
   · obtain rfl:sid=j:=uh hj
     exact⟨t6,fun q=>t8 (by rw[q];exact av1),t7⟩
 · obtain⟨i,hi,e,_,e2⟩:=rel t ht
   rw[e2]
   have:=wmem i hi
   exact⟨by show 0≤(u9 C).getD i 0;omega,by show(u9 C).getD i 0<_;omega⟩
 · refine Fu.init so (fun y hy=>by obtain⟨i,hi,e⟩:=Gj (d:=0) hy;have:=wmem i (by omega);omega) (HH l) (KM b.nd ll) fun t ht=> ?_
   obtain⟨i,hi,e,e1,e2⟩:=rel t ht
   exact⟨i,by omega,e1,e2⟩
theorem JH (h : H) (x : AV) (C : List Int) (h1 : 1 ≤ C.length) (hC : C.length < 1000) (rd : Rd h x (ints C)) (pos : ∀ y ∈ C, 0 ≤ y ∧ y ≤ 2147483647) :
 aR AP.A 359 [x] h=some (za 1 C.length (ints (zV C)),h):=by
 have yN:Rd h.dH x (ints C):=rd.mono (vm h)
 have ln:=rd.len
 rw[pk]at ln
 simp only[I]at ln
 obtain⟨g0,eg0⟩:∃g,g=(h.dH.alloc (yZ C.length [.int .i64 0])).alloc [.aP]:=⟨_,rfl⟩
 have go:g0.get h.next=some (ints (List.replicate C.length 0)):=by rw[eg0,vg (by simp),vk (by simp),yX]
 have ga:g0.get (h.next+1)=some [.aP]:=by rw[eg0,vk (by simp)]
 have fl0:g0.floor=h.next:=by rw[eg0];simp
 have nx0:g0.next=h.next+2:=by rw[eg0];simp
 have b0:Bt h.dH g0 (h.next+1) h.next C.length [] [] .aP:=by
  refine⟨by rw[eg0];exact((Ext.refl _).alloc _).alloc _,by rw[fl0];rfl,by omega,ga,by simp,go,by simp,by omega,vY.nil,fun j hj=>(by cases hj),rfl,List.nodup_nil,fun i hi=>(by simp at hi)⟩
 obtain⟨l,av,g1,L1,b1⟩:=zZ hC yN (fun y hy=>(pos y hy).1) C [] [] .aP g0 rfl b0
 have L1':Lp AP.A [0,3,4,16,17,18] AP.f359L2 [(0,x),(3,.aE h.next 0 C.length 1),(4,.aD (h.next+1) 0),(16,x),(17,.int .i64 C.length),(18,.int .i64 0)] g0=_:=L1
 obtain⟨g2,g3,mv,k1,L2,g4,f3⟩:∃g2 g3 mv,aR AP.A 362 [Bu (h.next+1)] g1=some (.bK [],g2)∧Lp AP.A [3,4,7] AP.f359L1 [(3,.aE h.next 0 C.length 1),(4,.aD (h.next+1) 0),(7,.int .i64 C.length)] g2=some (.exit 2,[(3,.aE h.next 0 C.length 1),(4,.aD (h.next+1) 0),(7,mv),(41,.bool false)],g3)∧g3.get h.next=some (ints (zV C))∧g3.floor=h.next:=by
  by_cases hl:1≤l.length
  · obtain⟨id,z,m,sm⟩:=KF b1 hC pos hl
    have ll:=b1.ll
    obtain⟨i1,i2⟩:=Gc (ky:=wX (Dl l C)) (n:=l.length) (l.length/2) l (uy _) (fun c h0 hc hp=>by omega)
    have k:=Lr z
    have z2:=z.set i2
    have hs:(u9 C).sum<1000000000000000:=by
     have:=At (u9 C) 2147483647 (fun y hy=>(pos y (xV C y hy).1).2)
     have wl:=wy 0 C
     rw[vD]at wl
     have:(2147483647:Int)* ((u9 C).length:Nat)≤2147483647* 1000:=Int.mul_le_mul_of_nonneg_left (by omega) (by omega)
     omega
    have pl:=i2.length_eq
    have m2:Mz h.dH (g1.set id (wq (zk (ky:=wX (Dl l C)) l.length (l.length/2) l)++[])) (h.next+1) id h.next (u9 C).length C.length [] (zk (ky:=wX (Dl l C)) l.length (l.length/2) l) (Dl l C) (List.replicate C.length 0):=by
     refine⟨z2,m.ext.set m.li _,by simpa using m.fl,by simpa using m.Jn,m.la,m.li,m.lo,by rw[uY m.no.2];exact m.go,m.no,m.ol,by rw[pl];exact m.ob,fun t ht=> ?_,fun t ht=>m.wb t (i2.mem_iff.1 ht)⟩
     obtain⟨a1,sv,q1,q2,q3,q4,q5⟩:=m.tr t (i2.mem_iff.1 ht)
     obtain⟨_,a2,_⟩:=z.tr t (i2.mem_iff.1 ht)
     exact⟨a1,sv,by rw[uY a2];exact q1,q2.vP fun j hj=>uY (q5 j hj).2.1,q3,q4,q5⟩
    obtain⟨h',t,rc',tr',s',O',mv,L,sm',go',fl'⟩:=Db (n:=(u9 C).length) (N:=C.length) (by have:=wy 0 C;rw[vD]at this;omega) (by omega) hs (l.length-1) _ _ _ _ _ _ _ (by omega) m2 (sm.perm i2.symm) (by rw[pl];exact i1)
    have e0:C.length+((u9 C).length-(zk (ky:=wX (Dl l C)) l.length (l.length/2) l).length)=C.length:=by omega
    rw[e0]at L
    have:=Fu.QD rfl sm'
    exact⟨_,h',mv,k,L,by rw[go',this];rfl,fl'⟩
  · have el:l=[]:=Si (by omega)
    subst el
    have av0:av=.aP:=by
     rcases b1.own.2 with ⟨q,_⟩|⟨id,_,_,_,q⟩
     · exact q
     · simp at q
    have ga1:=b1.ga
    rw[av0]at ga1
    have k0:∀g:H,aR AP.A 363 [.aP] g=some (.int .i64 0,g):=fun g=>by
     refine s7 (fn:=AP.f363) (e:=[(2,.int .i64 0)]) (vs:=[.int .i64 0]) rfl rfl rfl (by simp (disch:=omega)only[go_sem,vr,AP.f363,EJ]) rfl
    have LI:Lp AP.A [0,2,3] AP.f362L0 [(0,Bu (h.next+1)),(2,.int .i64 0),(3,.int .i64 (-1))] g1=some (.exit 0,[(0,Bu (h.next+1)),(2,.int .i64 0),(3,.int .i64 (-1)),(10,.bool false)],g1):=by
     refine sM ?_
     have c:¬(0:Int)≤-1:=by omega
     simp (disch:=omega)only[go_sem,vr,AP.f362L0,c]
    have hq:=Hj (n:=0) (by omega)
    have hq':bj .quo (.int .i64 0) (.int .i64 2)=some (.int .i64 0):=hq
    refine⟨g1,g1,.int .i64 C.length, ?_,sM ?_, ?_,b1.fl⟩
    · refine vT (fn:=AP.f362) (e:=[]) (vs:=[]) rfl rfl rfl ?_ rfl
      simp (disch:=omega)only[go_sem,vr,AP.f362,ga1,k0,hq',rK,LI]
    · have c:¬(1:Int)<0:=by omega
      simp (disch:=omega)only[go_sem,vr,AP.f359L1,ga1,k0,c]
    · rw[b1.go]
      have e:u9 C=[]:=Si (by have:=b1.ll;simp at this;omega)
      have e2:u6 0 C=[]:=Si (by rw[vD,e];rfl)
      unfold zV
      rw[e2];rfl
 have own:vY 1 g3 (.aE h.next 0 C.length 1) C.length (ints (zV C)):=⟨by rw[pk,IQ];omega,.inr ⟨h.next,rfl,g4,by omega,by omega⟩⟩
 have s1:=own.zQ (fl:=h.next) (m:=14) (t:=true) (by omega)
 refine tE (fn:=AP.f359) (h2:=g3) (e:=[(2,.aE h.next 0 C.length 1)]) (vs:=[.aE h.next 0 C.length 1]) rfl rfl rfl ?_ rfl s1
 clear own s1 b1 b0 L1 rd yN pos go ga g4
 simp (disch:=first|omega|(simp only[wM,RU,RX,uF,Nat.reduceAdd];first|done|omega|fail)|(simp (disch:=first|omega|(simp only[wM,RU,RX,uF,Nat.reduceAdd];first|done|omega|fail)|fail)only[wM,Cj,RZ,RU,RX,uF,Nat.reduceAdd];done)|fail)only[go_sem,vr,Ci,AP.f359,ln,←eg0,rK,L1',k1,L2]
theorem Qq {a b c x:aG} {e e':Env} {h h':H} {q:dp} (k:aL (aR AP.A) bp (.seq a (.seq b c)) e h=some (.normal,e',h')) (z:aL (aR AP.A) bp x e' h'=q):aL (aR AP.A) bp (.seq a (.seq b (.seq c x))) e h=q:=by
 have st:∀{a b b':aG} {e:Env} {h:H},(∀e h,aL (aR AP.A) bp b e h=some (.normal,e',h')→aL (aR AP.A) bp b' e h=q)→aL (aR AP.A) bp (.seq a b) e h=some (.normal,e',h')→aL (aR AP.A) bp (.seq a b') e h=q:=fun {a b b' e h} f k=>by
  rw[rq]at k ⊢
  cases hq:aL (aR AP.A) bp a e h with
  |none=>rw[hq]at k;cases k
  | some r =>
    obtain⟨ex,ev,hr⟩:=r
    cases ex with
    |normal=>rw[hq,r9]at k;rw[r9];exact f _ _ k
    |exit i=>rw[hq]at k;cases k
    |ret=>rw[hq]at k;cases k
 refine st (fun e h=>st fun e h k=> ?_) k
 rw[rq,k,r9];exact z
theorem Gi {v:AV} {l:List Int} (hl:l.length<100000) (h:H) (rd:Rd h v (ints l)):∀(q p:List Int) (m:Int),l=p++q→
 ∃e',Lp AP.A [0,3,4] AP.f360L0 [(0,v),(3,.int .i64 m),(4,.int .i64 p.length)] h=some (.exit 0,e',h)∧look e' 3=.int .i64 (Ag q m)
 | [], p, m, hp => by
   rw[Sd]at hp;subst hp
   have ln:=rd.len
   rw[pk]at ln
   simp only[I]at ln
   refine⟨[(0,v),(3,.int .i64 m),(4,.int .i64 l.length),(15,.bool false)],sM ?_,rfl⟩
   simp (disch:=omega)only[go_sem,vr,AP.f360L0,ln]
 | y :: q, p, m, hp => by
   have ln:=rd.len
   rw[pk]at ln
   simp only[I]at ln
   have hlen:l.length=p.length+(q.length+1):=by rw[hp];simp
   obtain⟨ad,a1,a2⟩:=rd.xh
   have b1:=a1 p.length ⟨by omega,by omega⟩
   have b2:=a2 h (Ext.refl h) p.length y (by rw[hp];simp)
   obtain⟨e',L,r⟩:=Gi hl h rd q (p++[y]) (Da m y) (by rw[hp];simp)
   have w1:((p++[y]).length:Int)=(p.length:Int)+1:=by simp
   rw[w1]at L
   refine⟨e',sN ?_ L,r⟩
   clear L rd a1 a2 hp
   simp (disch:=omega)only[go_sem,vr,AP.f360L0,ln,b1,b2,Hr,EK]
theorem LV (h:H) (v:AV) (l:List Int) (h1:1≤l.length) (hl:l.length<100000) (rd:Rd h v (ints l)):∃M,aR AP.A 360 [v] h=some (.int .i64 M,h)∧∀m,M≤m↔∀y∈l,y≤m:=by
 obtain⟨y,r,rfl⟩:∃y r,l=y::r:=by
  cases l with
  |nil=>simp at h1
  |cons y r=>exact⟨y,r,rfl⟩
 have yN:Rd h.dH v (ints (y::r)):=rd.mono (vm h)
 have ln:=rd.len
 rw[pk]at ln
 simp only[I]at ln
 obtain⟨ad,a1,a2⟩:=yN.xh
 have b1:=a1 0 ⟨by omega,by simp⟩
 have b2:=a2 h.dH (Ext.refl _) 0 y rfl
 obtain⟨e',L,q⟩:=Gi hl h.dH yN r [y] y rfl
 have L':Lp AP.A [0,3,4] AP.f360L0 [(0,v),(3,.int .i64 y),(4,.int .i64 1)] h.dH=some (.exit 0,e',h.dH):=L
 refine⟨Ag r y,tE (fn:=AP.f360) (h2:=h.dH) (e:=[(2,.int .i64 (Ag r y))]) (vs:=[.int .i64 (Ag r y)]) rfl rfl rfl ?_ rfl rfl,fun m=>⟨fun h z hz=> ?_,fun h=>AZ r y m (fun d hd=>h d (by simp [hd])) (h y (by simp))⟩⟩
 · have c:¬(((y::r).length:Nat):Int)<1:=by simp;omega
   have b2':bO false 1 (ad 0) h.dH=some (.int .i64 y):=b2
   generalize (((y::r).length:Nat):Int)=N at *
   clear rd yN a1 a2 L
   simp (disch:=omega)only[go_sem,vr,AP.f360,ln,c,b1,b2',rK,L',q]
 · have:=Cq r y
   rcases uR.1 hz with e|e
   · subst e;omega
   · have:=this.2 z e;omega
theorem Gd {v:AV} {l:List Int} (hl:l.length<1125899906842624) (h:H) (rd:Rd h v (ints l)):∀(q p:List Int),l=p++q→(0:Int)∈q→
 ∃e',Lp AP.A [0,1,7,8] AP.f189L0 [(0,v),(1,.int .i64 0),(7,.int .i64 l.length),(8,.int .i64 p.length)] h=some (.ret,e',h)∧look e' 4=.int .i64 (p.length+yU q:Nat)
 |[],p,hp,h0=>by simp at h0
 | x :: q, p, hp, h0 => by
   have hlen:l.length=p.length+(q.length+1):=by rw[hp];simp
   obtain⟨ad,a1,a2⟩:=rd.xh
   have b1:=a1 p.length ⟨by omega,by omega⟩
   have b2:=a2 h (Ext.refl h) p.length x (by rw[hp];simp)
   rw[yU]
   by_cases c:x=0
   · rw[if_pos c]
     refine⟨[(4,.int .i64 p.length)],tq ?_,rfl⟩
     subst c
     clear rd a1 a2 hp
     simp (disch:=omega)only[go_sem,vr,AP.f189L0,b1,b2]
   · rw[if_neg c]
     obtain⟨e',r1,r2⟩:=Gd hl h rd q (p++[x]) (by rw[hp];simp) (by rcases uR.1 h0 with q|q;exact absurd q.symm c;exact q)
     have w1:((p++[x]).length:Int)=(p.length:Int)+1:=by simp
     rw[w1]at r1
     refine⟨e',sN ?_ r1,by rw[r2];simp;omega⟩
     have cb:((0:Int)==x)=false:=by simp;omega
     clear r1 rd a1 a2 hp
     simp (disch:=omega)only[go_sem,vr,AP.f189L0,b1,b2,c,cb]
theorem Qk (h:H) (v:AV) (l:List Int) (rd:Rd h v (ints l)) (hl:l.length<100000) (h0:(0:Int)∈l):aR AP.A 189 [v,.int .i64 0] h=some (.int .i64 (yU l:Nat),h):=by
 have yN:Rd h.dH v (ints l):=rd.mono (vm h)
 have ln:=rd.len
 rw[pk]at ln
 simp only[I]at ln
 obtain⟨e',r1,r3⟩:=Gd (by omega) h.dH yN l [] rfl h0
 have r1':Lp AP.A [0,1,7,8] AP.f189L0 [(0,v),(1,.int .i64 0),(7,.int .i64 l.length),(8,.int .i64 0)] h.dH=some (.ret,e',h.dH):=r1
 simp only[RX,uF]at r3
 refine tE (fn:=AP.f189) (h2:=h.dH) (e:=e') (vs:=[.int .i64 (yU l:Nat)]) rfl rfl rfl ?_ (by simp only[AP.f189,cn,mR,r3];rfl) rfl
 clear rd yN r1 r3
 simp (disch:=omega)only[go_sem,vr,AP.f189,ln,rK,r1']
theorem BK {v:AV} {l:List Int} (hl:l.length<100000) (h:H) (rd:Rd h v (ints l)):∀(q p:List Int) (m:Nat),l=p++q→m≤p.length→
 ∃e',Lp AP.A [3,6,7,8] AP.f358L0 [(3,.int .i64 m),(6,v),(7,.int .i64 l.length),(8,.int .i64 p.length)] h=some (.exit 0,e',h)∧look e' 3=.int .i64 (m+yg q:Nat)
 | [], p, m, hp, hm => by
   rw[Sd]at hp;subst hp
   refine⟨[(3,.int .i64 m),(6,v),(7,.int .i64 l.length),(8,.int .i64 l.length),(9,.bool false)],sM ?_,rfl⟩
   simp (disch:=omega)only[go_sem,vr,AP.f358L0]
 | y :: q, p, m, hp, hm => by
   have hlen:l.length=p.length+(q.length+1):=by rw[hp];simp
   obtain⟨ad,a1,a2⟩:=rd.xh
   have b1:=a1 p.length ⟨by omega,by omega⟩
   have b2:=a2 h (Ext.refl h) p.length y (by rw[hp];simp)
   have c1:((p.length:Nat):Int)<l.length:=by omega
   have w1:((p++[y]).length:Int)=(p.length:Int)+1:=by simp
   by_cases c:0<y
   · obtain⟨e',L,r⟩:=BK hl h rd q (p++[y]) (m+1) (by rw[hp];simp) (by simp;omega)
     rw[w1]at L
     refine⟨e',sN ?_ L,by rw[r];unfold yg;rw[u9,if_pos c,RU];congr 1;omega⟩
     have w2:((m+1:Nat):Int)=(m:Int)+1:=by omega
     rw[w2]
     clear L rd a1 a2 hp
     simp (disch:=omega)only[go_sem,vr,AP.f358L0,c1,b1,b2,c]
   · obtain⟨e',L,r⟩:=BK hl h rd q (p++[y]) m (by rw[hp];simp) (by simp;omega)
     rw[w1]at L
     refine⟨e',sN ?_ L,by rw[r];unfold yg;rw[u9,if_neg c]⟩
     clear L rd a1 a2 hp
     simp (disch:=omega)only[go_sem,vr,AP.f358L0,c1,b1,b2,c]
theorem KN (h:H) (v:AV) (l:List Int) (rd:Rd h v (ints l)) (hl:l.length<100000):aR AP.A 358 [v] h=some (.int .i64 (yg l:Nat),h):=by
 have yN:Rd h.dH v (ints l):=rd.mono (vm h)
 have ln:=rd.len
 rw[pk]at ln
 simp only[I]at ln
 obtain⟨e',L,r⟩:=BK hl h.dH yN l [] 0 rfl (by simp)
 have L':Lp AP.A [3,6,7,8] AP.f358L0 [(3,.int .i64 0),(6,v),(7,.int .i64 l.length),(8,.int .i64 0)] h.dH=some (.exit 0,e',h.dH):=L
 rw[uF]at r
 refine tE (fn:=AP.f358) (h2:=h.dH) (e:=[(2,.int .i64 (yg l:Nat))]) (vs:=[.int .i64 (yg l:Nat)]) rfl rfl rfl ?_ rfl rfl
 clear rd yN L
 simp (disch:=omega)only[go_sem,vr,AP.f358,ln,rK,L',r]
def IG (v:AV):Bool:=match v with| .int _ n=>decide (n<0)||decide (2147483647<n)|_=>true
theorem O0 (n:Int) (h:H):aR AP.A 357 [.int .i64 n] h=some (.bool (IG (.int .i64 n)),h):=by
 by_cases c1:n<0
 · refine tE (fn:=AP.f357) (h2:=h.dH) (e:=[(2,.bool true)]) (vs:=[.bool true]) rfl rfl rfl ?_ rfl ?_
   · simp (disch:=omega)only[go_sem,vr,AP.f357,c1]
   · simp [IG,c1];rfl
 · refine tE (fn:=AP.f357) (h2:=h.dH) (e:=[(2,.bool (decide (2147483647<n)))]) (vs:=[.bool (decide (2147483647<n))]) rfl rfl rfl ?_ rfl ?_
   · simp (disch:=omega)only[go_sem,vr,AP.f357,c1]
   · simp [IG,c1];rfl
theorem Dh {mv:AV} {n wid:Nat} (hn:n<1000):∀(q p:List Int) (h:H),p.length+q.length=n→(∀y∈q,0≤y∧y<1000000000000)→h.get wid=some (ints (v8 p++q))→h.floor≤wid→h.floor≤h.next→
 ∃h',Lp AP.A [1,7,55,56,57] AP.f351L0 [(1,mv),(7,.aE wid 0 n 1),(55,.aE wid 0 n 1),(56,.int .i64 n),(57,.int .i64 p.length)] h=some (.exit 2,[(1,mv),(7,.aE wid 0 n 1),(55,.aE wid 0 n 1),(56,.int .i64 n),(57,.int .i64 n),(58,.bool false)],h')∧h'.get wid=some (ints (v8 (p++q)))∧h'.floor=h.floor∧h'.next=h.next∧(∀i,i≠wid→h'.get i=h.get i)
 | [], p, h, hl, hr, hg, hf, hfl => by
   obtain rfl:p.length=n:=by simpa using hl
   refine⟨h,sM ?_,by simpa using hg,rfl,rfl,fun _ _=>rfl⟩
   simp (disch:=omega)only[go_sem,vr,AP.f351L0]
 | y :: q, p, h, hl, hr, hg, hf, hfl => by
   have yr:=hr y (by simp)
   simp only[RU]at hl
   have n1:(((p++[y]).length:Nat):Int)=(p.length:Int)+1:=by simp
   have hp:(v8 p).length=p.length:=zJ p
   have ix:(ints (v8 p++y::q))[p.length]?=some (.int .i64 y):=sq (by rw[R6 (by omega),hp];simp)
   have il:(ints (v8 p++y::q)).length=n:=by rw[pk,uU,hp,RU];omega
   have st:(ints (v8 p++y::q)).set p.length (.int .i64 (yl y))=ints (v8 (p++[y])++q):=by
    rw[xY,List.set_append_right _ _ (by omega),hp,Nat.sub_self]
    simp [v8]
   have q1:bj .quo (.int .i64 (y+1)) (.int .i64 2)=some (.int .i64 (yl y)):=by
    have e:=ry (k:=.i64) (a:=y+1) (b:=2) (by omega)
    rw[e,Int.tdiv_eq_ediv_of_nonneg (by omega),wi (by omega)];rfl
   have c1:((p.length:Nat):Int)<n:=by omega
   have g2:(h.set wid (ints (v8 (p++[y])++q))).get wid=some (ints (v8 (p++[y])++q)):=by rw[vq rfl,hg];rfl
   obtain⟨h',k1,k2,k3,k4,k5⟩:=Dh (mv:=mv) hn q (p++[y]) (h.set wid (ints (v8 (p++[y])++q))) (by simp;omega) (fun e he=>hr e (by simp [he])) g2 (by simpa using hf) (by simpa using hfl)
   refine⟨h',sN ?_ k1,by rw[k2];simp,by rw[k3];simp,by rw[k4];simp,fun i hi=>by rw[k5 i hi,uY hi]⟩
   rw[n1]
   clear k1 k2 k3 k4 k5 g2 hr
   generalize ints (v8 p++y::q)=A at *
   generalize ints (v8 (p++[y])++q)=B at *
   simp (disch:=omega)only[go_sem,vr,AP.f351L0,c1,ix,il,st,q1,hg]
theorem IY {C:List Int} (h:∀y∈C,0≤y∧y≤2147483647):∀y∈v8 C,0≤y∧y≤2147483647:=fun y hy=>by
 obtain⟨z,hz,rfl⟩:=R4.1 hy
 have:=h z hz
 unfold yl;omega
theorem Ie {m : Nat} {S : List Int} {n wid : Nat} (hn1 : 1 ≤ n) (hn : n < 1000) (nd : (S.map Int.toNat).Nodup) (hr : ∀ s ∈ S, s.toNat < n) : ∀ (K : Nat) (C O : List Int) (h : H), wP m K (u9 C) → C.length = n → u6 0 C = S → (∀ y ∈ C, 0 ≤ y ∧ y ≤ 2147483647) → O.length = n → (∀ p, p < n → (∀ s ∈ S, s.toNat ≠ p) → O[p]? = some 0) → h.get wid = some (ints C) → h.floor ≤ wid → h.floor ≤ h.next →
 ∃h' v,Lp AP.A [1,7] AP.f351L1 [(1,.int .i64 m),(7,.aE wid 0 n 1)] h=some (.ret,[(4,v),(5,.int .i64 0)],h')∧v=za 1 n (ints (ym S K (u9 C) O))∧h'.floor=h.floor
 | 0, C, O, h, r, hC, hS, hp, hO, hz, hg, hf, hfl => by
   cases r with
   | last o c =>
     have wl:(u9 C).length=S.length:=by rw[←vD 0 C,hS]
     have rd:Rd h (.aE wid 0 n 1) (ints C):=vY.yN (by
      rw[pk]
      exact⟨by rw[pk];omega,.inr ⟨wid,by rw[hC],hg,hf,by omega⟩⟩)
     have k1:=JH h _ C (by omega) (by omega) rd hp
     have e:zV C=ym S 0 (u9 C) O:=by
      unfold zV
      rw[ym,hS,hC]
      exact(xG (by rw[wm,wl]) nd hO hr hz).symm
     rw[hC,e]at k1
     have lr:(ym S 0 (u9 C) O).length=n:=by rw[Bx,hO]
     obtain⟨M,k2,k3⟩:=LV h (za 1 n (ints (ym S 0 (u9 C) O))) (ym S 0 (u9 C) O) (by omega) (by omega) (by have:=Ap h (ym S 0 (u9 C) O);rwa [lr]at this)
     have c':M≤m:=by
      rw[k3,ym]
      rw[xG (by rw[wm,wl]) nd hO hr hz]
      exact(Dp (by rw[wm,wl]) nd hr (by omega)).2 c
     refine⟨h,_,tq ?_,rfl,rfl⟩
     clear k3 rd nd hr hz
     simp (disch:=omega)only[go_sem,vr,AP.f351L1,k1,k2,c']
 | K + 1, C, O, h, r, hC, hS, hp, hO, hz, hg, hf, hfl => by
   cases r with
   | more o c hne r =>
     have wl:(u9 C).length=S.length:=by rw[←vD 0 C,hS]
     have rd:Rd h (.aE wid 0 n 1) (ints C):=vY.yN (by
      rw[pk]
      exact⟨by rw[pk];omega,.inr ⟨wid,by rw[hC],hg,hf,by omega⟩⟩)
     have k1:=JH h _ C (by omega) (by omega) rd hp
     have e:zV C=vI S (vi (u9 C)) O:=by
      unfold zV
      rw[hS,hC]
      exact(xG (by rw[wm,wl]) nd hO hr hz).symm
     rw[hC,e]at k1
     have lr:(vI S (vi (u9 C)) O).length=n:=by rw[wx,hO]
     obtain⟨M,k2,k3⟩:=LV h (za 1 n (ints (vI S (vi (u9 C)) O))) (vI S (vi (u9 C)) O) (by omega) (by omega) (by have:=Ap h (vI S (vi (u9 C)) O);rwa [lr]at this)
     have c':¬M≤m:=by
      rw[k3]
      rw[xG (by rw[wm,wl]) nd hO hr hz]
      intro q
      have:=(Dp (by rw[wm,wl]) nd hr (by omega)).1 q
      omega
     have hpn:∀y∈C,0≤y:=fun y hy=>(hp y hy).1
     obtain⟨s1,s2⟩:=Cc 0 C hpn
     obtain⟨h1,L,g1,f1,n1,_⟩:=Dh (mv:=.int .i64 m) hn C [] h (by simpa using hC) (fun y hy=>by have:=hp y hy;omega) hg hf hfl
     have L':Lp AP.A [1,7,55,56,57] AP.f351L0 [(1,.int .i64 m),(7,.aE wid 0 n 1),(55,.aE wid 0 n 1),(56,.int .i64 n),(57,.int .i64 0)] h=_:=L
     obtain⟨h',v,L2,r2,f2⟩:=Ie hn1 hn nd hr K (v8 C) (vI S (vi (u9 C)) O) h1 (by rw[s2];exact r) (by rw[zJ,hC]) (by rw[s1,hS]) (IY hp) (by rw[wx,hO]) (fun p hp hq=>by rw[wI _ _ _ _ hq];exact hz p hp hq) g1 (by omega) (by omega)
     refine⟨h',v,sN ?_ L2,by rw[r2,s2];rfl,by omega⟩
     clear k3 rd nd hr hz L L2 r2 hp hpn g1
     simp (disch:=omega)only[go_sem,vr,AP.f351L1,k1,k2,c',zc,rK,L']
theorem Fb (h : H) (x : AV) (C : List Int) (m K : Nat) (h2 : 2 ≤ C.length) (hn : C.length ≤ 288) (rd : Rd h x (ints C)) (hm : 1 ≤ m ∧ m ≤ 15) (hr : ∀ y ∈ C, 0 ≤ y ∧ y ≤ 2147483647) (hs : yg C ≤ 2 ^ m) (ro : wP m K (wG C)) :
 aR AP.A 351 [x,.int .i64 m] h=some (.bK [za 1 C.length (ints (vV C K)),.int .i64 0],h):=by
 have yN:Rd h.dH x (ints C):=rd.mono (vm h)
 have ln:=rd.len
 rw[pk]at ln
 simp only[I]at ln
 have pos:∀y∈C,0≤y:=fun y hy=>(hr y hy).1
 have kb:=CH IG (x:=x) (fv:=.fn 357 [] []) (cs:=ints C) (fun v hv g=>by
  obtain⟨n,_,rfl⟩:=R4.1 hv
  rw[nu];exact O0 n g) (by rw[pk];omega) h.dH yN
 have nb:(ints C).any IG=false:=by
  rw[List.any_eq_false]
  intro v hv
  obtain⟨n,hn',rfl⟩:=R4.1 hv
  have:=hr n hn'
  simp [IG,I];omega
 rw[nb]at kb
 have ku:=KN h.dH x C yN (by omega)
 have s1:oP .shl .i64 1 (m:Int)=some (.int .i64 ((2^m:Nat):Int)):=by
  have:=Bb (a:=1) (s:=m) (by omega) (by
   have:2^m≤2^15:=Sc (by omega) hm.2
   omega)
  rwa [Nat.one_mul]at this
 have kc:=K7 h.dH x C yN (by omega) (by omega) (by simp)
 obtain⟨g,eg⟩:∃g,g=((h.dH.alloc []).del h.dH.next).alloc (ints C):=⟨_,rfl⟩
 rw[←eg]at kc
 have gg:g.get (h.next+1)=some (ints C):=by rw[eg,vk (by simp)]
 have gf:g.floor=h.next:=by rw[eg];simp
 have gn:g.next=h.next+2:=by rw[eg];simp
 have rdg:Rd g (.aE (h.next+1) 0 C.length 1) (ints C):=vY.yN (by
  rw[pk]
  exact⟨by rw[pk];omega,.inr ⟨h.next+1,rfl,gg,by omega,by omega⟩⟩)
 have ku2:=KN g _ C rdg (by omega)
 obtain ⟨g2, P, q1, q2, q3⟩ : ∃ g2, aL (aR AP.A) bp (at_ 4 AP.f351.body) [(1, .int .i64 m), (7, .aE (h.next + 1) 0 C.length 1)] g = some (.normal, [(1, .int .i64 m), (7, .aE (h.next + 1) 0 C.length 1)], g2) ∧ g2.get (h.next + 1) = some (ints (Df C)) ∧ g2.floor = h.next ∧ g2.next = h.next + 2 := by
  unfold Df
  by_cases c:yg C=1
  · rw [if_pos c]
    have z0:(0:Int)∈C:=by
     refine Se fun q=> ?_
     have:∀D:List Int,(∀y∈D,0<y)→(u9 D).length=D.length:=by
      intro D
      induction D with
      |nil=>intro _;rfl
      |cons y D ih=>intro h;rw[u9,if_pos (h y (by simp)),RU,RU,ih fun z hz=>h z (by simp [hz])]
     have:=this C fun y hy=>by
      have:=pos y hy
      by_cases e:y=0
      · subst e;exact absurd hy q
      · omega
     unfold yg at c
     omega
    have kx:=Qk g _ C rdg (by omega) z0
    have il : yU C < C.length := by
     have:∀D:List Int,(0:Int)∈D→yU D<D.length:=by
      intro D
      induction D with
      |nil=>intro h;simp at h
      | cons y D ih =>
        intro h
        rw[yU,RU]
        split
        · omega
        · rename_i e
          rcases uR.1 h with q|q
          · exact absurd q.symm e
          · have:=ih q;omega
     exact this C z0
    rw[c]at ku2
    have st:=xY C (yU C) 1
    refine⟨g.set (h.next+1) (ints (C.set (yU C) 1)), ?_,by rw[vq rfl,gg];rfl,by simpa using gf,by simpa using gn⟩
    have lC:(ints C).length=C.length:=pk C
    have gfl:g.floor≤h.next+1:=by omega
    have ib:cH (.int .i64 (yU C:Nat)) C.length=some (yU C):=by simp [cH,nk,il]
    rw[←st]
    clear rd yN rdg kb ku kc s1 ro hr pos nb st eg
    generalize ints C=A at *
    generalize yU C=i at *
    generalize C.length=n at *
    simp (disch:=omega)only[go_sem,vr,AP.f351,G7,IE,ku2,kx,ib,gg,gfl,lC]
  · rw[if_neg c]
    have cb:(((yg C:Nat):Int)==1)=false:=by simp;omega
    refine⟨g, ?_,gg,gf,gn⟩
    clear rd yN rdg kb ku kc s1 ro hr pos nb eg
    simp (disch:=omega)only[go_sem,vr,AP.f351,G7,IE,ku2,cb]
 obtain⟨p1,p2⟩:=Ow pos h2
 have so:=EA (Df C)
 have ppos:∀y∈Df C,0≤y∧y≤2147483647:=fun y hy=>by
  unfold Df at hy
  split at hy
  · rcases Sq hy with q|q
    · exact hr y q
    · omega
  · exact hr y hy
 obtain⟨h',v,L,ev,fl'⟩:=Ie (m:=m) (n:=C.length) (wid:=h.next+1) (by omega) (by omega) so.nd (fun s hs=>by have:=so.OA s hs;rw[Gy]at this;omega) K (Df C) (List.replicate C.length 0) g2 (by rw[p2];exact ro) (Gy C) rfl ppos (by simp) (fun p hp _=>by rw[Sk,if_pos hp]) q1 (by omega) (by omega)
 rw[p1,p2]at ev
 have ev':v=za 1 C.length (ints (vV C K)):=ev
 have lo:(vV C K).length=C.length:=yE C K
 refine tE (fn:=AP.f351) (h2:=h') (e:=[(4,v),(5,.int .i64 0)]) (vs:=[v,.int .i64 0]) rfl rfl rfl ?_ rfl ?_
 · have hb:AP.f351.body=.seq (at_ 0 AP.f351.body) (.seq (at_ 1 AP.f351.body) (.seq (at_ 2 AP.f351.body) (.seq (at_ 3 AP.f351.body) (.seq (at_ 4 AP.f351.body) (Mk 5 AP.f351.body))))):=rfl
   have c1:¬(C.length:Int)<2:=by omega
   have c2:¬(288:Int)<(C.length:Int):=by omega
   have c3:¬(m:Int)<1:=by omega
   have c4:¬(15:Int)<(m:Int):=by omega
   have c5:¬((2^m:Nat):Int)<(yg C:Nat):=by omega
   have a012:aL (aR AP.A) bp (.seq (at_ 0 AP.f351.body) (.seq (at_ 1 AP.f351.body) (at_ 2 AP.f351.body))) (params 0 [x,.int .i64 m]) h.dH=some (.normal,[(0,x),(1,.int .i64 m)],h.dH):=by
    clear rd yN rdg kc ro hr pos nb eg L P ku2 so ppos
    generalize 2^m=M at *
    simp (disch:=omega)only[go_sem,vr,AP.f351,G7,IE,ln,c1,c2,kb,c3,c4,s1,ku,c5]
   have a3:aL (aR AP.A) bp (at_ 3 AP.f351.body) [(0,x),(1,.int .i64 m)] h.dH=some (.normal,[(1,.int .i64 m),(7,.aE (h.next+1) 0 C.length 1)],g):=by
    clear rd yN rdg ro hr pos nb eg L P ku2 so ppos
    have kc':aR AP.A 118 [x] h.dH=some (.aE (h.next+1) 0 C.length 1,g):=kc
    simp (disch:=omega)only[go_sem,vr,AP.f351,G7,IE,kc']
   have a5:aL (aR AP.A) bp (Mk 5 AP.f351.body) [(1,.int .i64 m),(7,.aE (h.next+1) 0 C.length 1)] g2=some (.ret,[(4,v),(5,.int .i64 0)],h'):=by
    clear rd yN rdg ro hr pos nb eg P ku2 so ppos
    simp (disch:=omega)only[go_sem,vr,AP.f351,OK,OJ,rK,L]
   rw[hb]
   refine Qq a012 ?_
   rw[rq,a3,r9,rq,P,r9,a5]
 · have s1:snap h'.get h.next 15 true v=some v:=by
    rw[ev'];unfold za;split<;>rfl
   show(fq (snap h'.get h.next 15 true) [v,.int .i64 0]).bind _=_
   rw[←ev']
   simp only[fq,s1,uv]
   rfl
theorem DB : ∀ (ts : List Tok) (s : Int), vy s ts = true → ∀ t ∈ ts, xL t ∧ (t.len ≠ 0 → t.lit = 0)
 |[],_,_,t,ht=>by simp at ht
 | k :: ts, s, h, t, ht => by
   rw[vy]at h
   cases e:v7 s k with
   |none=>rw[e]at h;cases h
   | some s' =>
     rw[e]at h
     simp only at h
     by_cases c:8192<s'
     · rw[if_pos c]at h;cases h
     · rw [if_neg c] at h
       rcases uR.1 ht with q|q
       · subst q
         unfold v7 at e
         by_cases z:t.len=0
         · rw[if_pos z]at e
           split at e
           · cases e
           · exact⟨.inl ⟨z,by omega,by omega⟩,fun n=>absurd z n⟩
         · rw[if_neg z]at e
           split at e
           · cases e
           · exact⟨.inr ⟨by omega,by omega,by omega,by omega⟩,fun _=>by omega⟩
       · exact DB ts s' h t q
theorem HV : ∀ (ts : List Tok) (o : List Nat), vy o.length ts = true → o.length + ts.length ≤ (xn ts o).length
 |[],o,_=>by simp [xn]
 | t :: r, o, h => by
   rw[vy]at h
   cases e:v7 o.length t with
   |none=>rw[e]at h;cases h
   | some s' =>
     rw[e]at h
     simp only at h
     have z:=Aa e
     have p:(o.length:Int)+1≤s':=by
      unfold v7 at e
      split at e
      · split at e
        · cases e
        · have:=uh e;omega
      · split at e
        · cases e
        · have:=uh e;omega
     by_cases c:8192<s'
     · rw[if_pos c]at h;cases h
     · rw[if_neg c,←z]at h
       have:=HV r (vG o t) h
       rw[xn,RU];omega
theorem JL {ts:List Tok} (h:DI ts=true):vy 0 ts=true∧ts.length≤300∧(∀t∈ts,xL t)∧(∀t∈ts,t.len≠0→t.lit=0)∧(xn ts []).length≤300:=by
 unfold DI yk at h
 by_cases m:vy 0 ts=true
 · rw[if_pos m]at h
   simp only[vZ,decide_eq_true_eq]at h
   have:=HV ts [] m
   have o:=DB ts 0 m
   exact⟨m,by simp at this;omega,fun t ht=>(o t ht).1,fun t ht=>(o t ht).2,h⟩
 · rw[if_neg m]at h;cases h
theorem Kg (h : H) (v : AV) (ts : List Tok) (hn : ts.length < 1125899906842624) (rd : yx 3 h v ts.length (v9 ts)) : aR AP.A 326 [v] h = some (if DI ts = true then .bK [.str (bytesOf (vB (wh ts))), .int .i64 0] else .bK [.str ⟨#[]⟩, .int .i64 800], h) := by
 have rd0:yx 3 h.dH v ts.length (v9 ts):=rd.mono fun i c q=>q
 have k1:=Ki h.dH v ts hn rd0
 by_cases HX:DI ts=true
 · rw [if_pos HX]
   rw[HX]at k1
   obtain⟨_,hl,tok,lit,_⟩:=JL HX
   have kf:=HZ h.dH
   have kc:=zy h.dH (vU vA) vA (by rw[xm];omega) (by rw[xm];omega) (xK h.dH vA) (.inl (by rw[xD (by rw[xm];omega) (by rw[xm];omega) xi.OA xi.left,if_pos CM]))
   obtain⟨g,eg⟩:∃g,g=h.dH.alloc [.int .i64 5]:=⟨_,rfl⟩
   have hN:h.dH.next=h.next:=rfl
   have k5:aR AP.A 43 [.aE h.next 0 1 1,.int .i64 30] g=some (vU xk,g):=by
    have r:=yc g (.aE h.next 0 1 1) 5 30 (by omega) ⟨by
     have gg:g.get h.next=some [.int .i64 5]:=by rw[eg,vk (by simp)]
     simp [aS,gg];rfl,by intro s e;cases e⟩
    exact r
   have l5:xk.length=30:=by simp [xk]
   have kc5:=zy g (vU xk) xk (by omega) (by omega) (xK g xk) (.inr (by rw[xD (by omega) (by omega) zH.OA zH.left,if_neg (by rw[DY];omega)]))
   obtain⟨g2,eg2⟩:∃g2:H,g2=g:=⟨_,rfl⟩
   have gfl:g.floor=h.next:=by rw[eg];simp
   have gnx:g.next=h.next+1:=by rw[eg];simp
   have x0:=KO (h:=g) (by omega)
   obtain⟨h1,o1,p1,w1,f1⟩:=xJ x0.wr 1 1 (by omega) (by omega) (by simp)
   have x1:=x0.step w1 f1
   obtain⟨h2,o2,p2,w2,f2⟩:=xJ x1.wr 1 2 (by omega) (by omega) (by simp [vh,vt])
   have x2:=x1.step w2 f2
   have kn:aR AP.A 345 [] g=some (.aD g.next 0,g.alloc [.aP,.int .i64 0]):=by
    refine s7 (fn:=AP.f345) (e:=[(0,.aD g.next 0)]) (vs:=[.aD g.next 0]) rfl rfl rfl ?_ rfl
    simp (disch:=omega)only[go_sem,vr,AP.f345]
   have kb:aR AP.A 333 [.int .i64 1] g=some (.aD g.next 0,h2):=by
    refine s7 (fn:=AP.f333) (e:=[(2,.aD g.next 0)]) (vs:=[.aD g.next 0]) rfl rfl rfl ?_ rfl
    clear x0 x1 x2
    have k1':aR AP.A 335 [.aD g.next 0,.int .i64 1,.int .i64 1] (g.alloc [.aP,.int .i64 0])=some (.int .i64 0,h1):=p1
    have k2':aR AP.A 335 [.aD g.next 0,.int .i64 1,.int .i64 2] h1=some (.int .i64 0,h2):=p2
    simp (disch:=omega)only[go_sem,vr,AP.f333,kn,k1',k2']
   have rdg:yx 3 g v ts.length (v9 ts):=rd0.mono fun i c q=>by
    have:=h.lt i c q
    rw[eg,vg (by simp;omega)];exact q
   obtain⟨h3,k3⟩:=Ih (by omega) g rdg (zD g vA) (zD g xk) (fun t ht=>⟨DZ (tok t ht),tok t ht,lit t ht⟩) (AB xi yB (by rw[xm];omega)) g.next _ h2 o2 x2 (by simp [vh,vt];omega)
   have e:[]++vh 1 1++vh 1 2++(vX (uX vA) (uX xk) ts++u7 (uX vA) 256)=wh ts:=by
    have:([]:List Nat)++vh 1 1++vh 1 2=vh 3 3:=by decide
    rw[this];rfl
   rw[e]at k3
   refine tE (fn:=AP.f326) (h2:=h3) (e:=[(2,.str (bytesOf (vB (wh ts)))),(3,.int .i64 0)]) (vs:=[.str (bytesOf (vB (wh ts))),.int .i64 0]) rfl rfl rfl ?_ rfl rfl
   clear x0 w1 f1 w2 f2 x1 x2 p1 p2 e rd rd0 rdg eg2
   generalize bytesOf (vB (wh ts))=SB at *
   have ic:(vU vA).cells=[vU vA]:=rfl
   generalize vU vA=I1 at *
   generalize vU xk=I2 at *
   generalize zg vA=C1 at *
   generalize zg xk=C2 at *
   rw[gnx]at kb k3
   simp (disch:=omega)only[go_sem,vr,AP.f326,hN,k1,kf,kc,←eg,k5,kc5,kb,k3]
 · rw[if_neg HX]
   rw[Bool.eq_false_iff.2 HX]at k1
   refine tE (fn:=AP.f326) (h2:=h.dH) (e:=[(2,.str ⟨#[]⟩),(3,.int .i64 800)]) (vs:=[.str ⟨#[]⟩,.int .i64 800]) rfl rfl rfl ?_ rfl rfl
   clear rd rd0
   simp (disch:=omega)only[go_sem,vr,AP.f326,k1]
theorem Jb {v:AV} {ts:List Tok} (hn:ts.length<1000000) (h0:H) (rd:yx 3 h0 v ts.length (v9 ts)) (ia ib i:Nat) (t:Tok) (ht:ts[i]?=some t) (o:xL t) (tl:t.len≠0→t.lit=0) (hab:ia≠ib) (hia:h0.next≤ia) (hib:h0.next≤ib) {A B:List Int} {h:H} (hx:Ext h0 h) (ga:h.get ia=some (ints A)) (gb:h.get ib=some (ints B)) (hA:A.length=286) (hB:B.length=30) (rA:∀y∈A,0≤y∧y≤(i:Int)+1) (rB:∀y∈B,0≤y∧y≤(i:Int)+1) (fa:h.floor≤ia) (fb:h.floor≤ib) (hfl:h.floor≤h.next):
 ∃h',aL (aR AP.A) bp AP.f340L0 (ay [(4,.aE ia 0 286 1),(5,.aE ib 0 30 1),(19,v),(20,.int .i64 ts.length),(21,.int .i64 i)] [4,5,19,20,21]) h=some (.normal,[(4,.aE ia 0 286 1),(5,.aE ib 0 30 1),(19,v),(20,.int .i64 ts.length),(21,.int .i64 (i+1:Nat))],h')∧h'.get ia=some (ints (ze [t] A))∧h'.get ib=some (ints (zT [t] B))∧KR h h' ia ib:=by
 obtain⟨ad,a1,a2,a3⟩:=rd.ON
 have hi:i<ts.length:=(uu.1 ht).1
 have hI:(0:Int)≤(i:Int)∧(i:Int)<ts.length:=⟨by omega,by omega⟩
 have b1:=a1 _ hI
 obtain⟨_,_,_,b2⟩:=a3 h hx _ _ ht
 have n1:((i+1:Nat):Int)=(i:Int)+1:=by omega
 have ci:(i:Int)<(ts.length:Int):=hI.2
 have la:(ints A).length=286:=by rw[pk,hA]
 have lb:(ints B).length=30:=by rw[pk,hB]
 have hian:=h.lt _ _ ga
 have hibn:=h.lt _ _ gb
 have step:∀(S B1 V S' B' V':Nat) (cp:Bool),(∀g:H,aR AP.A 349 [.agg [.int .i64 t.lit,.int .i64 t.len,.int .i64 t.vL]] g=some (.bK [.agg [.int .i64 S,.int .i64 B1,.int .i64 V],.agg [.int .i64 S',.int .i64 B',.int .i64 V'],.bool cp],g))→S<286→S'<30→
  ∃h',aL (aR AP.A) bp AP.f340L0 (ay [(4,.aE ia 0 286 1),(5,.aE ib 0 30 1),(19,v),(20,.int .i64 ts.length),(21,.int .i64 i)] [4,5,19,20,21]) h=some (.normal,[(4,.aE ia 0 286 1),(5,.aE ib 0 30 1),(19,v),(20,.int .i64 ts.length),(21,.int .i64 (i+1:Nat))],h')∧h'.get ia=some (ints (wR A S))∧h'.get ib=some (ints (if cp=true then wR B S' else B))∧KR h h' ia ib:=by
  intro S B1 V S' B' V' cp ks hS hS'
  obtain⟨g1,eg1⟩:∃g,g=(h.alloc [.int .i64 0,.int .i64 0,.int .i64 0]).set h.next [.int .i64 t.lit,.int .i64 t.len,.int .i64 t.vL]:=⟨_,rfl⟩
  obtain⟨g2,eg2⟩:∃g,g=(((g1.alloc [.int .i64 0,.int .i64 0,.int .i64 0]).alloc [.int .i64 0,.int .i64 0,.int .i64 0]).set g1.next [.int .i64 S,.int .i64 B1,.int .i64 V]).set (g1.next+1) [.int .i64 S',.int .i64 B',.int .i64 V']:=⟨_,rfl⟩
  have n1':g1.next=h.next+1:=by rw[eg1];simp
  have n2':g2.next=h.next+3:=by rw[eg2];simp;omega
  have f2':g2.floor=h.floor:=by rw[eg2,eg1];simp
  have gt1:g1.get h.next=some [.int .i64 t.lit,.int .i64 t.len,.int .i64 t.vL]:=by rw[eg1,vq rfl,vk rfl];rfl
  have gk1:∀j,j<h.next→g1.get j=h.get j:=fun j hj=>by rw[eg1,uY (by omega),vg (by omega)]
  have gk2:∀j,j<h.next→g2.get j=h.get j:=fun j hj=>by rw[eg2,uY (by omega),uY (by omega),vg (by simp;omega),vg (by omega),gk1 j hj]
  have gS:g2.get g1.next=some [.int .i64 S,.int .i64 B1,.int .i64 V]:=by rw[eg2,uY (by omega),vq rfl,vg (by simp),vk rfl];rfl
  have gT:g2.get (g1.next+1)=some [.int .i64 S',.int .i64 B',.int .i64 V']:=by rw[eg2,vq rfl,uY (by omega),vk (by simp)];rfl
  have hA2:((g1.alloc [.int .i64 0,.int .i64 0,.int .i64 0]).alloc [.int .i64 0,.int .i64 0,.int .i64 0]).get g1.next=some [.int .i64 0,.int .i64 0,.int .i64 0]:=by rw[vg (by simp),vk rfl]
  have hB2:(((g1.alloc [.int .i64 0,.int .i64 0,.int .i64 0]).alloc [.int .i64 0,.int .i64 0,.int .i64 0]).set g1.next [.int .i64 S,.int .i64 B1,.int .i64 V]).get (g1.next+1)=some [.int .i64 0,.int .i64 0,.int .i64 0]:=by rw[uY (by omega),vk (by simp)]
  have fl1:h.floor≤h.next:=hfl
  have flg:g1.floor≤g1.next:=by rw[n1',eg1];simp;omega
  have ga2:g2.get ia=some (ints A):=by rw[gk2 ia hian,ga]
  have gb2:g2.get ib=some (ints B):=by rw[gk2 ib hibn,gb]
  have gx:=AO (l:=A) (i:=S) (by omega)
  have gy:=AO (l:=B) (i:=S') (by omega)
  have xr:0≤A.getD S 0∧A.getD S 0≤(i:Int)+1:=by
   rw[RT,RW (by omega)]
   exact rA _ (Sb _)
  have yr:0≤B.getD S' 0∧B.getD S' 0≤(i:Int)+1:=by
   rw[RT,RW (by omega)]
   exact rB _ (Sb _)
  have es:=xY A S (A.getD S 0+1)
  have et:=xY B S' (B.getD S' 0+1)
  change _=ints (wR A S)at es
  change _=ints (wR B S')at et
  have iS:cH (.int .i64 (S:Nat)) 286=some S:=by
   have:(S:Int)<((286:Nat):Int):=by omega
   simp [cH,nk];omega
  have iT:cH (.int .i64 (S':Nat)) 30=some S':=by
   simp [cH,nk];omega
  have ibd:i<1000000:=by omega
  have g3b:(g2.set ia (ints (wR A S))).get ib=some (ints B):=by rw[uY hab.symm,gb2]
  have g3T:(g2.set ia (ints (wR A S))).get (g1.next+1)=some [.int .i64 S',.int .i64 B',.int .i64 V']:=by rw[uY (by omega),gT]
  have fa2:g2.floor≤ia:=by omega
  have fb2:g2.floor≤ib:=by omega
  cases cp with
  | false =>
    refine⟨g2.set ia (ints (wR A S)), ?_,by rw[vq rfl,ga2];rfl,by rw[uY hab.symm,gb2];rfl,⟨by simp [f2'],by simp [n2'],fun j h1 h2 _=>by rw[uY h2,gk2 j h1]⟩⟩
    rw[n1]
    clear rd a1 a2 a3 hx rA rB gk1 gk2 et
    generalize A.getD S 0=z at *
    generalize ints (wR A S)=A2 at *
    generalize ints A=A0 at *
    generalize ints B=B0 at *
    simp (disch:=omega)only[go_sem,vr,AP.f340L0,ci,b1,b2,←eg1,gt1,ks,hA2,hB2,←eg2,gS,iS,ga2,la,gx,es,fa2,KV,uH,SD,Sf]
  | true =>
    refine⟨(g2.set ia (ints (wR A S))).set ib (ints (wR B S')), ?_,by rw[uY hab,vq rfl,ga2];rfl,by rw[vq rfl,g3b];rfl,⟨by simp [f2'],by simp [n2'],fun j h1 h2 h3=>by rw[uY h3,uY h2,gk2 j h1]⟩⟩
    rw[n1]
    clear rd a1 a2 a3 hx rA rB gk1 gk2
    generalize A.getD S 0=z at *
    generalize B.getD S' 0=z' at *
    generalize ints (wR A S)=A2 at *
    generalize ints (wR B S')=B2 at *
    generalize ints A=A0 at *
    generalize ints B=B0 at *
    simp (disch:=omega)only[go_sem,vr,AP.f340L0,ci,b1,b2,←eg1,gt1,ks,hA2,hB2,←eg2,gS,iS,ga2,la,gx,es,fa2,fb2,g3b,g3T,iT,lb,gy,et,KV,uH,SD,Sf]
 rcases o with ⟨c0,h2,h3⟩|⟨h1,h2,h3,h4⟩
 · obtain⟨y,hy⟩:∃y:Nat,t.lit=y:=R2 h2
   have yt:t.lit.toNat=y:=by omega
   obtain⟨h',k,q1,q2,q3⟩:=step y 0 0 0 0 0 false (fun g=>by rw[hy,c0];exact GR g y t.vL) (by omega) (by omega)
   refine⟨h',k, ?_, ?_,q3⟩
   · rw[q1,ze,if_pos c0,yt];rfl
   · rw[q2,zT,if_pos c0];rfl
 · obtain⟨L,hL⟩:∃y:Nat,t.len=y:=R2 (by omega)
   obtain⟨K,hK⟩:∃y:Nat,t.vL=y:=R2 (by omega)
   have Lt:t.len.toNat=L:=by omega
   have Kt:t.vL.toNat=K:=by omega
   have sl:=xU (k:=L) (by omega) (by omega)
   have sd:=xQ (k:=K) (by omega) (by omega)
   obtain⟨h',k,q1,q2,q3⟩:=step (xp L) (zm L) (Af L) (xI K) (zU K) (AM K) true (fun g=>by rw[tl (by omega),hL,hK];exact EB g L K (by omega) (by omega) (by omega) (by omega)) (by omega) (by omega)
   refine⟨h',k, ?_, ?_,q3⟩
   · have z:¬t.len=0:=by omega
     rw[q1,ze,if_neg z,Lt];rfl
   · have z:¬t.len=0:=by omega
     rw[q2,zT,if_neg z,Kt];rfl
theorem El {v:AV} {ts:List Tok} (hn:ts.length<1000000) (h0:H) (rd:yx 3 h0 v ts.length (v9 ts)) (ia ib:Nat) (ok:∀t∈ts,xL t) (lit:∀t∈ts,t.len≠0→t.lit=0) (hab:ia≠ib) (hia:h0.next≤ia) (hib:h0.next≤ib):∀(q p:List Tok) (A B:List Int) (h:H),ts=p++q→Ext h0 h→h0.next≤h.next→h.get ia=some (ints A)→h.get ib=some (ints B)→A.length=286→B.length=30→(∀y∈A,0≤y∧y≤(p.length:Int)+1)→(∀y∈B,0≤y∧y≤(p.length:Int)+1)→h.floor≤ia→h.floor≤ib→h.floor≤h.next→
 ∃h',Lp AP.A [4,5,19,20,21] AP.f340L0 [(4,.aE ia 0 286 1),(5,.aE ib 0 30 1),(19,v),(20,.int .i64 ts.length),(21,.int .i64 p.length)] h=some (.exit 0,[(4,.aE ia 0 286 1),(5,.aE ib 0 30 1),(19,v),(20,.int .i64 ts.length),(21,.int .i64 ts.length),(22,.bool false)],h')∧h'.get ia=some (ints (ze q A))∧h'.get ib=some (ints (zT q B))∧KR h h' ia ib
 | [], p, A, B, h, hp, hx, hnx, ga, gb, hA, hB, rA, rB, fa, fb, hfl => by
   rw[Sd]at hp;subst hp
   refine⟨h,sM ?_,ga,gb,KR.refl h ia ib⟩
   simp (disch:=omega)only[go_sem,vr,AP.f340L0]
 | t :: q, p, A, B, h, hp, hx, hnx, ga, gb, hA, hB, rA, rB, fa, fb, hfl => by
   have ht:ts[p.length]?=some t:=by rw[hp];simp
   have hm:=uE ht
   obtain⟨h1,s1,ga1,gb1,f1⟩:=Jb hn h0 rd ia ib p.length t ht (ok t hm) (lit t hm) hab hia hib hx ga gb hA hB rA rB fa fb hfl
   have n1:(((p++[t]).length:Nat):Int)=((p.length+1:Nat):Int):=by simp
   have hx1:Ext h0 h1:=fun j c hj=>by
    have:=h0.lt _ _ hj
    rw[f1.vP j (by omega) (by omega) (by omega),hx j c hj]
   obtain⟨h',k,g1,g2,f2⟩:=El hn h0 rd ia ib ok lit hab hia hib q (p++[t]) (ze [t] A) (zT [t] B) h1 (by rw[hp];simp) hx1 (uS hnx f1.next) ga1 gb1 (by rw[Cy,hA]) (by rw[CC,hB]) (fun y hy=>by have:=Cz [t] A _ (by omega) rA y hy;simp at this ⊢;omega) (fun y hy=>by have:=CD [t] B _ (by omega) rB y hy;simp at this ⊢;omega) (by rw[f1.floor];exact fa) (by rw[f1.floor];exact fb) (by rw[f1.floor];exact uS hfl f1.next)
   rw[n1]at k
   exact⟨h',sN s1 k,g1,g2,f1.trans f2⟩
theorem DD (C:List Int):yg C≤C.length:=by
 unfold yg;rw[←vD 0 C];exact wy 0 C
theorem Fk {h:H} {id n:Nat} {l:List Int} (g:h.get id=some (ints l)) (hl:l.length=n):Rd h (.aE id 0 n 1) (ints l):=by
 refine⟨?_,by intro s e;cases e⟩
 have:(ints l).length=n:=by rw[pk];exact hl
 simp [aS,g,this,uP]
theorem Hv (h:H) (v:AV) (ts:List Tok) (KA KB:Nat) (hn:ts.length≤300) (ok:∀t∈ts,xL t) (lit:∀t∈ts,t.len≠0→t.lit=0) (ra:wP 15 KA (wG (dA ts))) (rb:wP 15 KB (wG (dB ts))) (rd:yx 3 h v ts.length (v9 ts)):
 aR AP.A 340 [v] h=some (.bK [za 1 286 (ints (vV (dA ts) KA)),za 1 30 (ints (vV (dB ts) KB))],h):=by
 have rd0:yx 3 h.dH v ts.length (v9 ts):=rd.mono fun i c q=>q
 have ln:=rd.len
 have hN:h.dH.next=h.next:=rfl
 obtain⟨g,eg⟩:∃g,g=(h.dH.alloc (yZ 286 [.int .i64 0])).alloc (yZ 30 [.int .i64 0]):=⟨_,rfl⟩
 have gA:g.get h.next=some (ints (List.replicate 286 0)):=by rw[eg,vg (by simp),vk (by simp),yX]
 have gB:g.get (h.next+1)=some (ints (List.replicate 30 0)):=by rw[eg,vk (by simp),yX]
 have gf:g.floor=h.next:=by rw[eg];simp
 have gn:g.next=h.next+2:=by rw[eg];simp
 obtain⟨g1,eg1⟩:∃g1,g1=g.set h.next (ints ((List.replicate 286 0).set 256 1)):=⟨_,rfl⟩
 have gA1:g1.get h.next=some (ints ((List.replicate 286 0).set 256 1)):=by rw[eg1,vq rfl,gA];rfl
 have gB1:g1.get (h.next+1)=some (ints (List.replicate 30 0)):=by rw[eg1,uY (by omega),gB]
 have x1:Ext h.dH g1:=by rw[eg1,eg];exact(((Ext.refl _).alloc _).alloc _).set (by simp) _
 obtain⟨h',L,q1,q2,f2⟩:=El (by omega) h.dH rd0 h.next (h.next+1) ok lit (by omega) (by simp) (by simp) ts [] ((List.replicate 286 0).set 256 1) (List.replicate 30 0) g1 rfl x1 (by rw[eg1];simp;omega) gA1 gB1 (by simp) (by simp) (fun y hy=>by
  rcases Sq hy with q|q
  · have:=Sm q;omega
  · simp;omega) (fun y hy=>by have:=Sm hy;simp;omega) (by rw[eg1];simp;omega) (by rw[eg1];simp;omega) (by rw[eg1];simp;omega)
 have L':Lp AP.A [4,5,19,20,21] AP.f340L0 [(4,.aE h.next 0 286 1),(5,.aE (h.next+1) 0 30 1),(19,v),(20,.int .i64 ts.length),(21,.int .i64 0)] g1=_:=L
 obtain⟨a1,a2,a3⟩:=HS ts hn
 obtain⟨b1,b2⟩:=HT ts hn
 change h'.get h.next=some (ints (dA ts))at q1
 change h'.get (h.next+1)=some (ints (dB ts))at q2
 have k1:=Fb h' (.aE h.next 0 286 1) (dA ts) 15 KA (by omega) (by omega) (Fk q1 a1) (by omega) a2 (by have:=DD (dA ts);omega) ra
 have k2:=Fb h' (.aE (h.next+1) 0 30 1) (dB ts) 15 KB (by omega) (by omega) (Fk q2 b1) (by omega) b2 (by have:=DD (dB ts);omega) rb
 rw[a1]at k1
 rw[b1]at k2
 obtain⟨V1,e1⟩:∃V,V=za 1 286 (ints (vV (dA ts) KA)):=⟨_,rfl⟩
 obtain⟨V2,e2⟩:∃V,V=za 1 30 (ints (vV (dB ts) KB)):=⟨_,rfl⟩
 rw[←e1]at k1 ⊢
 rw[←e2]at k2 ⊢
 refine tE (fn:=AP.f340) (h2:=h') (e:=[(2,V1),(3,V2)]) (vs:=[V1,V2]) rfl rfl rfl ?_ rfl ?_
 · have st:(ints (List.replicate 286 0)).set 256 (.int .i64 1)=ints ((List.replicate 286 0).set 256 1):=xY _ _ _
   have lA:(ints (List.replicate 286 0)).length=286:=by simp
   have ga':g.get h.next=some (ints (List.replicate 286 0)):=gA
   have k1':aR AP.A 351 [.aE h.next 0 286 1,.int .i64 15] h'=some (.bK [V1,.int .i64 0],h'):=k1
   have k2':aR AP.A 351 [.aE (h.next+1) 0 30 1,.int .i64 15] h'=some (.bK [V2,.int .i64 0],h'):=k2
   rw[←st]at eg1
   clear L q1 q2 f2 x1 rd rd0 ra rb a2 b2 k1 k2 gB gA1 gB1 st ok lit
   generalize ints (List.replicate 286 0)=A0 at *
   have hN2:(h.dH.alloc (yZ 286 [.int .i64 0])).next=h.next+1:=by simp
   simp (disch:=omega)only[go_sem,vr,AP.f340,hN,hN2,←eg,ga',lA,gf,←eg1,ln,rK,L',k1',k2']
 · have s1:snap h'.get h.next 15 true V1=some V1:=by rw[e1];unfold za;rfl
   have s2:snap h'.get h.next 15 true V2=some V2:=by rw[e2];unfold za;rfl
   show(fq (snap h'.get h.next 15 true) [V1,V2]).bind _=_
   simp only[fq,s1,s2,uv]
theorem Ao {x : AV} {l : List Int} (hl : l.length < 1000) (pos : ∀ y ∈ l, 0 ≤ y) (h : H) (rd : Rd h x (ints l)) (k : Nat) : ∀ i : Nat, k ≤ i → i ≤ l.length →
 ∃e',Lp AP.A [0,1,5] AP.f342L0 [(0,x),(1,.int .i64 k),(5,.int .i64 i)] h=some (.exit 0,e',h)∧look e' 0=x∧look e' 5=.int .i64 (vC l k i:Nat)
 | 0, hk, hi => by
   obtain rfl:k=0:=by omega
   refine⟨[(0,x),(1,.int .i64 (0:Nat)),(5,.int .i64 (0:Nat)),(18,.bool false)],sM ?_,rfl,rfl⟩
   have c:¬((0:Nat):Int)<((0:Nat):Int):=by omega
   generalize ((0:Nat):Int)=z at *
   simp (disch:=omega)only[go_sem,vr,AP.f342L0,c]
 | i + 1, hk, hi => by
   by_cases c:i+1≤k
   · obtain rfl:k=i+1:=by omega
     refine⟨[(0,x),(1,.int .i64 (i+1:Nat)),(5,.int .i64 (i+1:Nat)),(18,.bool false)],sM ?_,rfl,by rw[vC,if_pos c];rfl⟩
     have c:¬((i+1:Nat):Int)<((i+1:Nat):Int):=by omega
     generalize ((i+1:Nat):Int)=z at *
     simp (disch:=omega)only[go_sem,vr,AP.f342L0,c]
   · obtain⟨ad,a1,a2⟩:=rd.xh
     have b1:=a1 i ⟨by omega,by omega⟩
     have lg:l[i]?=some (l.getD i 0):=by rw[RT,RW (by omega)];rfl
     have b2:=a2 h (Ext.refl h) i _ lg
     have yp:=pos _ (uE lg)
     have n1:((i+1:Nat):Int)-1=(i:Int):=by omega
     have c1:(k:Int)<((i+1:Nat):Int):=by omega
     rw[vC,if_neg c]
     generalize l.getD i 0=y at *
     have sb:((i+1:Nat):Int)<100000:=by omega
     have sb0:0≤((i+1:Nat):Int):=by omega
     by_cases c2:0<y
     · rw[if_pos c2]
       refine⟨[(0,x),(1,.int .i64 k),(5,.int .i64 (i+1:Nat)),(18,.bool false)],sM ?_,rfl,rfl⟩
       have cb:(y==0)=false:=by simp;omega
       generalize ((i+1:Nat):Int)=z at *
       clear rd a1 a2 pos
       simp (disch:=omega)only[go_sem,vr,AP.f342L0,c1,n1,b1,b2,cb]
     · rw[if_neg c2]
       have cb:(y==0)=true:=by simp;omega
       obtain⟨e',L,r1,r2⟩:=Ao hl pos h rd k i (by omega) (by omega)
       refine⟨e',sN ?_ L,r1,r2⟩
       clear L
       generalize ((i+1:Nat):Int)=z at *
       clear rd a1 a2 pos
       simp (disch:=omega)only[go_sem,vr,AP.f342L0,c1,n1,b1,b2,cb]
theorem Et (h:H) (l:List Int) (h1:1≤l.length) (hl:l.length<1000) (pos:∀y∈l,0≤y) (k:Nat) (hk:k≤l.length):aR AP.A 342 [za 1 l.length (ints l),.int .i64 k] h=some (.aV false (ints l) 0 (vC l k l.length) 1,h):=by
 have ex:za 1 l.length (ints l)=.aV false (ints l) 0 l.length 1:=by unfold za;rw[if_neg (by omega)]
 rw[ex]
 have yN:Rd h.dH (.aV false (ints l) 0 l.length 1) (ints l):=by rw[←ex];exact Ap h.dH l
 obtain⟨e',L,r1,r2⟩:=Ao hl pos h.dH yN k l.length hk (uy _)
 have ur:=wD l k l.length
 have s1:rF h.dH 1 (.aV false (ints l) 0 l.length 1) none (some (.int .i64 (vC l k l.length:Nat))) none=some (.aV false (ints l) 0 (vC l k l.length) 1):=by
  have:vC l k l.length≤l.length:=by omega
  have q:(ints l).length=l.length:=pk l
  simp [rF,aB,jT,nk,q,this]
 refine tE (fn:=AP.f342) (h2:=h.dH) (e:=[(4,.aV false (ints l) 0 (vC l k l.length) 1)]) (vs:=[.aV false (ints l) 0 (vC l k l.length) 1]) rfl rfl rfl ?_ rfl rfl
 clear yN pos ex ur
 generalize vC l k l.length=U at *
 generalize ints l=P at *
 simp (disch:=omega)only[go_sem,vr,AP.f342,G4,rK,L,r1,r2,s1]
theorem Ji (h:H) (id:Nat) (l:List Int) (g:h.get id=some (ints l)) (hl:l.length<1000) (pos:∀y∈l,0≤y) (k:Nat) (hk:k≤l.length):aR AP.A 342 [.aE id 0 l.length 1,.int .i64 k] h=some (.aE id 0 (vC l k l.length) 1,h):=by
 have yN:Rd h.dH (.aE id 0 l.length 1) (ints l):=(Fk g rfl).mono (vm h)
 obtain⟨e',L,r1,r2⟩:=Ao hl pos h.dH yN k l.length hk (uy _)
 have ur:=wD l k l.length
 have gl:=h.lt _ _ g
 have s1:rF h.dH 1 (.aE id 0 l.length 1) none (some (.int .i64 (vC l k l.length:Nat))) none=some (.aE id 0 (vC l k l.length) 1):=by
  have q:(ints l).length=l.length:=pk l
  have:=L6 (h:=h.dH) (m:=(vC l k l.length:Nat)) (p:=id) (o:=0) (k:=l.length) (n:=1) g (by omega) (by omega) ⟨by omega,by simp;omega⟩
  rw[show(((vC l k l.length:Nat):Int)).toNat=vC l k l.length by omega]at this
  exact this
 refine tE (fn:=AP.f342) (h2:=h.dH) (e:=[(4,.aE id 0 (vC l k l.length) 1)]) (vs:=[.aE id 0 (vC l k l.length) 1]) rfl rfl rfl ?_ rfl ?_
 · clear yN pos ur
   generalize vC l k l.length=U at *
   simp (disch:=omega)only[go_sem,vr,AP.f342,zc,rK,L,r1,r2,s1]
 · show snap h.dH.get h.next 16 true (.aE id 0 _ 1)=_
   simp [snap,gl]
theorem D3 {w:AV} {v1 v2 av:AV} {D:List Int} (hD:D.length<1000) (hr:∀d∈D,0≤d∧d<19) (ic:Nat) (hb:H) (rd:Rd hb av (ints D)) (hno:hb.get ic=none):∀(q p C:List Int) (h:H),D=p++q→Ext hb h→h.get ic=some (ints C)→C.length=19→(∀y∈C,0≤y∧y≤(p.length:Int))→h.floor≤ic→
 ∃h',Lp AP.A [0,1,2,6,7,28,29,30] AP.f341L3 [(0,w),(1,v1),(2,v2),(6,av),(7,.aE ic 0 19 1),(28,av),(29,.int .i64 D.length),(30,.int .i64 p.length)] h=some (.exit 0,[(0,w),(1,v1),(2,v2),(6,av),(7,.aE ic 0 19 1),(28,av),(29,.int .i64 D.length),(30,.int .i64 D.length),(31,.bool false)],h')∧h'.get ic=some (ints (xc q C))∧h'.floor=h.floor∧h'.next=h.next∧(∀i,i≠ic→h'.get i=h.get i)
 | [], p, C, h, hp, hx, gc, hC, rC, fc => by
   rw[Sd]at hp;subst hp
   refine⟨h,sM ?_,gc,rfl,rfl,fun _ _=>rfl⟩
   simp (disch:=omega)only[go_sem,vr,AP.f341L3]
 | d :: q, p, C, h, hp, hx, gc, hC, rC, fc => by
   have hl:D.length=p.length+(q.length+1):=by rw[hp];simp
   obtain⟨ad,a1,a2⟩:=rd.xh
   have b1:=a1 p.length ⟨by omega,by omega⟩
   have hd:D[p.length]?=some d:=by rw[hp];simp
   have b2:=a2 h hx p.length d hd
   have dr:=hr d (uE hd)
   have c1:((p.length:Nat):Int)<D.length:=by omega
   obtain⟨k,rfl⟩:=R2 dr.1
   have gx:=AO (l:=C) (i:=k) (by omega)
   have xr:0≤C.getD k 0∧C.getD k 0≤(p.length:Int):=by
    rw[RT,RW (by omega)]
    exact rC _ (Sb _)
   have es:=xY C k (C.getD k 0+1)
   change _=ints (wR C k)at es
   have lC:(ints C).length=19:=by rw[pk,hC]
   have ib:cH (.int .i64 (k:Nat)) 19=some k:=by simp [cH,nk];omega
   obtain⟨h',L,g1,f1,n1,k1⟩:=D3 hD hr ic hb rd hno q (p++[(k:Int)]) (wR C k) (h.set ic (ints (wR C k))) (by rw[hp];simp) (hx.Im hno _) (by rw[vq rfl,gc];rfl) (by rw[xf,hC]) (fun y hy=>by
    have:=yD rC (by omega) y hy
    simp;omega) (by simpa using fc)
   have e1:xc ((k:Int)::q) C=xc q (wR C k):=by rw[xc];rfl
   refine⟨h',sN ?_ L,by rw[e1];exact g1,by rw[f1];simp,by rw[n1];simp,fun i hi=>by rw[k1 i hi,uY hi]⟩
   have n2:(((p++[(k:Int)]).length:Nat):Int)=(p.length:Int)+1:=by simp
   rw[n2]
   clear L rd a1 a2 g1 k1 rC hr hx
   generalize C.getD k 0=z at *
   generalize ints (wR C k)=C2 at *
   generalize ints C=C1 at *
   simp (disch:=omega)only[go_sem,vr,AP.f341L3,c1,b1,b2,ib,gc,lC,gx,es,fc]
theorem D5 {w v1 v2 av cv:AV} {Lc:List Int} (hL:Lc.length=19) (h0:H) (rd:Rd h0 cv (ints Lc)):∀(q p R:List Int) (h:H) (rv:AV),vn=p++q→Ext h0 h→h.floor≤h.next→vY 1 h rv R.length (ints R)→R.length=p.length→(∀j,rv.id?=some j→h0.next≤j)→h0.next≤h.next→
 ∃h' rv',Lp AP.A [0,1,2,6,10,12,46,47,48] AP.f341L2 [(0,w),(1,v1),(2,v2),(6,av),(10,cv),(12,rv),(46,vU vn),(47,.int .i64 19),(48,.int .i64 p.length)] h=some (.exit 2,[(0,w),(1,v1),(2,v2),(6,av),(10,cv),(12,rv'),(46,vU vn),(47,.int .i64 19),(48,.int .i64 19),(49,.bool false)],h')∧vY 1 h' rv' (R++q.map (fun o=>Lc.getD o.toNat 0)).length (ints (R++q.map (fun o=>Lc.getD o.toNat 0)))∧h'.floor=h.floor∧h.next≤h'.next∧(∀i,i<h0.next→h'.get i=h.get i)∧(∀j,rv'.id?=some j→h0.next≤j)
 | [], p, R, h, rv, hp, hx, hfl, o, hR, hid, hn => by
   have:p.length=19:=by
    have:=Sn List.length hp
    rw[Sd]at this
    rw[←this];rfl
   rw[this]
   refine⟨h,rv,sM ?_,by simpa using o,rfl,uy _,fun _ _=>rfl,hid⟩
   have c:¬((19:Nat):Int)<19:=by omega
   simp (disch:=omega)only[go_sem,vr,AP.f341L2,c]
 | d :: q, p, R, h, rv, hp, hx, hfl, o, hR, hid, hn => by
   have hl:19=p.length+(q.length+1):=by
    have:=Sn List.length hp
    simpa [vn]using this
   obtain⟨ad,a1,a2⟩:=(xK h vn).xh
   have ol:vn.length=19:=rfl
   have b1:=a1 p.length ⟨by omega,by omega⟩
   have hd:vn[p.length]?=some d:=by rw[hp];simp
   have b2:=a2 h (Ext.refl h) p.length d hd
   have dm:d∈vn:=uE hd
   have dr:0≤d∧d<19:=by
    have:∀y∈vn,0≤y∧y<19:=by decide
    exact this d dm
   have c1:((p.length:Nat):Int)<19:=by omega
   obtain⟨k,rfl⟩:=R2 dr.1
   obtain⟨cd,d1,d2⟩:=rd.xh
   have e1:=d1 k ⟨by omega,by omega⟩
   have lg:Lc[k]?=some (Lc.getD k 0):=by rw[RT,RW (by omega)];rfl
   have e2:=d2 h hx k _ lg
   obtain⟨v',h1,p1,p2,p3,p4,p5,p6⟩:=o.push hfl (z:=8) (m:=1) (by omega) (by omega) [.int .i64 (Lc.getD k 0)] rfl rfl (zP (by omega))
   have hx1:Ext h0 h1:=fun i c hi=>by
    have:=h0.lt _ _ hi
    rw[p5 i (fun e=>by have:=hid i e;omega) (by omega),hx i c hi]
   have o2:vY 1 h1 v' (R++[Lc.getD k 0]).length (ints (R++[Lc.getD k 0])):=by rw[ph,uU];exact p2
   obtain⟨h',rv',L,q1,q2,q3,q4,q5⟩:=D5 hL h0 rd q (p++[(k:Int)]) (R++[Lc.getD k 0]) h1 v' (by rw[hp];simp) hx1 (by omega) o2 (by simp [hR]) (fun j hj=>by rw[p6]at hj;have:=uh hj;omega) (by omega)
   have n2:(((p++[(k:Int)]).length:Nat):Int)=(p.length:Int)+1:=by simp
   rw[n2]at L
   refine⟨h',rv',sN ?_ L, ?_,by omega,by omega,fun i hi=>by rw[q4 i hi,p5 i (fun e=>by have:=hid i e;omega) (by omega)],q5⟩
   · clear L q1 rd a1 a2 d1 d2 o2 hx hx1 q4 p2 o
     generalize Lc.getD k 0=z at *
     simp (disch:=omega)only[go_sem,vr,AP.f341L2,c1,b1,b2,e1,e2,p1]
   · rw[R7]at q1
     exact q1
theorem D4 {h0:H} {w:Nat} {av cv:AV} {rid:Nat} {R:List Int} (hR:R.length<1000) (hr:∀y∈R,0≤y∧y<8) (rid0:rid≠w):∀(q p:List Int) (bs:List Nat) (h:H) (ov:AV) (J:List AV),R=p++q→WX h0 h w bs ov→h.get rid=some (ints R++J)→ov.id?≠some rid→bs.length+3* q.length≤60000→
 ∃h' ov',Lp AP.A [0,6,10,77,78,79] AP.f341L1 [(0,.aD w 0),(6,av),(10,cv),(77,.aE rid 0 R.length 1),(78,.int .i64 R.length),(79,.int .i64 p.length)] h=some (.exit 4,[(0,.aD w 0),(6,av),(10,cv),(77,.aE rid 0 R.length 1),(78,.int .i64 R.length),(79,.int .i64 R.length),(80,.bool false)],h')∧WX h0 h' w (bs++y7 q) ov'
 | [], p, bs, h, ov, J, hp, x, gr, hor, hb => by
   rw[Sd]at hp;subst hp
   refine⟨h,ov,sM ?_,by simpa [y7]using x⟩
   simp (disch:=omega)only[go_sem,vr,AP.f341L1]
 | y :: q, p, bs, h, ov, J, hp, x, gr, hor, hb => by
   have hl:R.length=p.length+(q.length+1):=by rw[hp];simp
   have hy:R[p.length]?=some y:=by rw[hp];simp
   have yr:=hr y (uE hy)
   obtain⟨k,rfl⟩:=R2 yr.1
   have c1:((p.length:Nat):Int)<R.length:=by omega
   have gy:(ints R++J)[p.length]?=some (.int .i64 k):=by
    rw[R5 (by rw[pk];omega)]
    exact sq hy
   have ib:cH (.int .i64 (p.length:Nat)) R.length=some p.length:=by simp [cH,nk];omega
   simp only[RU]at hb
   obtain⟨h1,o1,k1,w1,f1⟩:=xJ x.wr k 3 (by omega) (by omega) (by omega)
   have lr:=h.lt _ _ gr
   obtain⟨h',ov',L,x2⟩:=D4 hR hr rid0 q (p++[(k:Int)]) (bs++vh k 3) h1 o1 J (by rw[hp];simp) (x.step w1 f1) (by rw[f1.vP rid lr rid0 hor,gr]) (fun e=>by
    rcases f1.ids rid e with z|z
    · exact hor z
    · omega) (by simp [vh,vt];omega)
   have n2:(((p++[(k:Int)]).length:Nat):Int)=(p.length:Int)+1:=by simp
   rw[n2]at L
   have k1':aR AP.A 335 [.aD w 0,.int .i64 k,.int .i64 3] h=some (.int .i64 0,h1):=k1
   refine⟨h',ov',sN ?_ L, ?_⟩
   · clear L x x2 w1 f1 k1 hr
     generalize ints R++J=P at *
     simp (disch:=omega)only[go_sem,vr,AP.f341L1,c1,ib,gr,gy,k1']
   · have:y7 ((k:Int)::q)=vh k 3++y7 q:=by simp [y7]
     rw[this,←R7];exact x2
theorem CO {h0 : H} {w : Nat} {cv : AV} {D : List Int} {E : List (Int × Int)} (hD : D.length < 1000) (ok : ∀ y ∈ D, 0 ≤ y ∧ Ay E y.toNat) (av : AV) (rd : Rd h0 av (ints D)) (rl : yx 2 h0 cv E.length (E.flatMap wH)) : ∀ (q p : List Int) (bs : List Nat) (h : H) (ov : AV), D = p ++ q → WX h0 h w bs ov → bs.length + 15 * q.length ≤ 60000 →
 ∃h' ov',Lp AP.A [0,17,92,93,94] AP.f341L0 [(0,.aD w 0),(17,cv),(92,av),(93,.int .i64 D.length),(94,.int .i64 p.length)] h=some (.exit 6,[(0,.aD w 0),(17,cv),(92,av),(93,.int .i64 D.length),(94,.int .i64 D.length),(95,.bool false)],h')∧WX h0 h' w (bs++yu E q) ov'∧(h.next≤h'.next)
 | [], p, bs, h, ov, hp, x, hb => by
   rw[Sd]at hp;subst hp
   refine⟨h,ov,sM ?_,by simpa [yu]using x,uy _⟩
   simp (disch:=omega)only[go_sem,vr,AP.f341L0]
 | y :: q, p, bs, h, ov, hp, x, hb => by
   have hl:D.length=p.length+(q.length+1):=by rw[hp];simp
   have hy:D[p.length]?=some y:=by rw[hp];simp
   obtain⟨y0,oy⟩:=ok y (uE hy)
   obtain⟨k,rfl⟩:=R2 y0
   have tk:((k:Nat):Int).toNat=k:=by omega
   rw[tk]at oy
   have c1:((p.length:Nat):Int)<D.length:=by omega
   obtain⟨ad,a1,a2⟩:=rd.xh
   have b1:=a1 p.length ⟨by omega,by omega⟩
   have b2:=a2 h x.ext p.length _ hy
   obtain⟨le,l1,l2⟩:=rl.LZ
   obtain⟨n,c,q0,q1,q2,q3,q4⟩:=oy.bits
   have e1:=l1 k ⟨by omega,by have:=oy.lt;omega⟩
   have e2:=l2 h x.ext _ _ q0
   simp only[RU]at hb
   obtain⟨h1,o1,k1,w1,f1⟩:=Ic x.wr c n q1 q2 q3 (by omega)
   obtain⟨h',ov',L,x2,nn⟩:=CO hD ok av rd rl q (p++[(k:Int)]) (bs++xX c n) h1 o1 (by rw[hp];simp) (x.step w1 f1) (by simp [wc];omega)
   have n2:(((p++[(k:Int)]).length:Nat):Int)=(p.length:Int)+1:=by simp
   rw[n2]at L
   have fn:=f1.next
   refine⟨h',ov',sN ?_ L, ?_,by omega⟩
   · clear L x x2 w1 f1 ok rd rl a1 a2 l1 l2
     simp (disch:=omega)only[go_sem,vr,AP.f341L0,c1,b1,b2,e1,e2,k1]
   · have:yu E ((k:Int)::q)=xX c n++yu E q:=by
      rw[←q4];simp [yu]
     rw[this,←R7];exact x2
theorem Kh {h0 h:H} {w:Nat} {bs:List Nat} {ov:AV} (x:WX h0 h w bs ov) {v1 v2:AV} {la lb Lc:List Int} {KC:Nat} (r1:Rd h0 v1 (ints la)) (r2:Rd h0 v2 (ints lb)) (sc1:v1.sc=true) (sc2:v2.sc=true) (ce1:v1.cells=[v1]) (ce2:v2.cells=[v2]) (hbs:bs.length≤100) (hla:257≤la.length∧la.length≤286) (hlb:1≤lb.length∧lb.length≤30) (hall:∀y∈la++lb,0≤y∧y<19) (rc:wP 7 KC (wG (xc (la++lb) (List.replicate 19 0)))) (ec:Lc=vV (xc (la++lb) (List.replicate 19 0)) KC) (row:∀y∈Lc,0≤y∧y<8) (cc:vp Lc=0∨vp Lc=302) (zu:∀y∈la++lb,Ay (uX Lc) y.toNat):
 ∃h' ov',aR AP.A 341 [.aD w 0,v1,v2] h=some (.bK [],h')∧WX h0 h' w (bs++(vh (la.length-257) 5++(vh (lb.length-1) 5++(vh (vC (vn.map (fun o=>Lc.getD o.toNat 0)) 4 19-4) 4++(y7 ((vn.map (fun o=>Lc.getD o.toNat 0)).take (vC (vn.map (fun o=>Lc.getD o.toNat 0)) 4 19))++yu (uX Lc) (la++lb)))))) ov':=by
 obtain⟨D,eD⟩:∃D,D=la++lb:=⟨_,rfl⟩
 have lD:D.length=la.length+lb.length:=by rw[eD];simp
 have l1:iJ false v1=some (.int .i64 la.length):=by
  have:=r1.len;rw[pk]at this;exact this
 have l2:iJ false v2=some (.int .i64 lb.length):=by
  have:=r2.len;rw[pk]at this;exact this
 have lw:=h.lt _ _ x.wr.get
 have wfl:=x.wr.fl
 have wflx:=x.wr.Jo
 obtain⟨h1,eh1⟩:∃g,g=h.alloc [v1,v2]:=⟨_,rfl⟩
 have n1:h1.next=h.next+1:=by rw[eh1];simp
 have f1:h1.floor=h.floor:=by rw[eh1];simp
 have k1e:∀i,i<h.next→h1.get i=h.get i:=fun i hi=>by rw[eh1,vg (by omega)]
 have k62:aR AP.A 62 [.aE h.next 0 2 1] h1=some (vU D,h1):=by
  have e1:h1.get h.next=some [v1,v2]:=by rw[eh1,vk rfl]
  have rr:Rd h1 (.aE h.next 0 2 1) ([(v1,la),(v2,lb)].map (·.1)):=⟨by simp [aS,e1],by intro s e;cases e⟩
  have e:cat [(v1,la),(v2,lb)]=D:=by rw[eD];simp [cat]
  have up:∀i c,h0.get i=some c→h1.get i=some c:=fun i c hi=>by
   have e:=x.ext i c hi
   rw[k1e i (h.lt _ _ e),e]
  have:=CG h1 (.aE h.next 0 2 1) [(v1,la),(v2,lb)] rr (fun p hp=>by
   simp at hp
   rcases hp with rfl|rfl
   · exact r1.mono up
   · exact r2.mono up) (by rw[e];omega) (by simp) (by rw[e];omega)
  rw[e]at this;exact this
 have lnD:iJ false (vU D)=some (.int .i64 D.length):=rfl
 have ko:=fun g=>H9 g
 have lnO:iJ false (vU vn)=some (.int .i64 19):=rfl
 obtain⟨h2,eh2⟩:∃g,g=h1.alloc (yZ 19 [.int .i64 0]):=⟨_,rfl⟩
 have n2:h2.next=h.next+2:=by rw[eh2];simp;omega
 have g2:h2.get h1.next=some (ints (List.replicate 19 0)):=by rw[eh2,vk rfl,yX]
 rw[←eD]at hall rc ec zu ⊢
 obtain⟨h3,L3,g3,f3,n3,k3⟩:=D3 (w:=.aD w 0) (v1:=v1) (v2:=v2) (av:=vU D) (by omega) hall h1.next H.empty (xK _ _) (by simp [H.empty,H.get]) D [] (List.replicate 19 0) h2 rfl (fun i c q=>by simp [H.empty,H.get]at q) g2 (by simp) (fun y hy=>by have:=Sm hy;simp;omega) (by rw[eh2];simp;omega)
 have L3':Lp AP.A [0,1,2,6,7,28,29,30] AP.f341L3 [(0,.aD w 0),(1,v1),(2,v2),(6,vU D),(7,.aE h1.next 0 19 1),(28,vU D),(29,.int .i64 D.length),(30,.int .i64 0)] h2=_:=L3
 have c1:(xc D (List.replicate 19 0)).length=19:=by rw[AE,R9]
 have c2:∀y∈xc D (List.replicate 19 0),0≤y∧y≤2147483647:=fun y hy=>by
  have:=AF D _ 0 (by omega) (yW 19) y hy
  omega
 have k7:=Fb h3 (.aE h1.next 0 19 1) (xc D (List.replicate 19 0)) 7 KC (by omega) (by omega) (Fk g3 c1) (by omega) c2 (by have:=DD (xc D (List.replicate 19 0));omega) rc
 rw[←ec,c1]at k7
 have lLc:Lc.length=19:=by rw[ec,yE,c1]
 have f3':h3.floor=h.floor:=by rw[f3,eh2];simp;exact f1
 obtain⟨h4,rv,L2,o4,f4,n4,k4,id4⟩:=D5 (w:=.aD w 0) (v1:=v1) (v2:=v2) (av:=vU D) lLc h3 (cv:=za 1 19 (ints Lc)) (by have:=Ap h3 Lc;rwa [lLc]at this) vn [] [] h3 .aP rfl (Ext.refl _) (by omega) vY.nil rfl (fun j hj=>by cases hj) (uy _)
 have L2':Lp AP.A [0,1,2,6,10,12,46,47,48] AP.f341L2 [(0,.aD w 0),(1,v1),(2,v2),(6,vU D),(10,za 1 19 (ints Lc)),(12,.aP),(46,vU vn),(47,.int .i64 19),(48,.int .i64 0)] h3=_:=L2
 obtain⟨R,eR⟩:∃R,R=vn.map (fun o=>Lc.getD o.toNat 0):=⟨_,rfl⟩
 rw[List.nil_append,←eR]at o4
 rw[←eR]
 have lR:R.length=19:=by rw[eR];rfl
 obtain⟨rid,erv,gr,_⟩:=Jr o4 (by omega)
 have rid3:h3.next≤rid:=id4 rid (by rw[erv];rfl)
 have pR:∀y∈R,0≤y∧y<8:=fun y hy=>by
  rw[eR]at hy
  obtain⟨o,ho,rfl⟩:=R4.1 hy
  rw[RT]
  cases e:Lc[o.toNat]? with
  |none=>simp
  |some z=>exact row z (uE e)
 have kt:=Ji h4 rid R gr (by omega) (fun y hy=>(pR y hy).1) 4 (by omega)
 rw[lR]at kt
 have ur:=wD R 4 19
 obtain⟨U,eU⟩:∃U,U=vC R 4 19:=⟨_,rfl⟩
 rw[←eU]at kt ur ⊢
 have k4e:∀i,i<h.next→h4.get i=h.get i:=fun i hi=>by rw[k4 i (by omega),k3 i (by omega),eh2,vg (by omega),k1e i hi]
 have x4:WX h0 h4 w bs ov:=x.turn (by omega) (by omega) k4e
 have hon:ov.id?≠some rid:=fun q=>by have:=(x.wr.own.lt q).2;omega
 obtain⟨h5,o5,k5,w5,r5⟩:=xJ x4.wr (la.length-257) 5 (by omega) (by omega) (by omega)
 have x5:=x4.step w5 r5
 have lr4:=h4.lt _ _ gr
 have g5:h5.get rid=some (ints R):=by rw[r5.vP rid lr4 (by omega) hon,gr]
 have hon5:o5.id?≠some rid:=fun e=>by
  rcases r5.ids rid e with z|z
  · exact hon z
  · omega
 obtain⟨h6,o6,k6,w6,r6⟩:=xJ x5.wr (lb.length-1) 5 (by omega) (by omega) (by simp [vh,vt];omega)
 have x6:=x5.step w6 r6
 have lr5:=h5.lt _ _ g5
 have g6:h6.get rid=some (ints R):=by rw[r6.vP rid lr5 (by omega) hon5,g5]
 have hon6:o6.id?≠some rid:=fun e=>by
  rcases r6.ids rid e with z|z
  · exact hon5 z
  · omega
 obtain⟨h7,o7,k7p,w7,r7⟩:=xJ x6.wr (U-4) 4 (by omega) (by omega) (by simp [vh,vt];omega)
 have x7:=x6.step w7 r7
 have lr6:=h6.lt _ _ g6
 have g7:h7.get rid=some (ints R):=by rw[r7.vP rid lr6 (by omega) hon6,g6]
 have hon7:o7.id?≠some rid:=fun e=>by
  rcases r7.ids rid e with z|z
  · exact hon6 z
  · omega
 have lT:(R.take U).length=U:=by rw[Su];omega
 have eT:ints R=ints (R.take U)++ints (R.drop U):=by rw[←ph,List.take_append_drop]
 rw[eT]at g7
 obtain⟨h8,o8,L1,x8⟩:=D4 (av:=vU D) (cv:=za 1 19 (ints Lc)) (R:=R.take U) (by omega) (fun y hy=>pR y (List.mem_of_mem_take hy)) (by omega) (R.take U) [] _ h7 o7 (ints (R.drop U)) rfl x7 g7 hon7 (by simp [vh,vt];omega)
 rw[lT]at L1
 have L1':Lp AP.A [0,6,10,77,78,79] AP.f341L1 [(0,.aD w 0),(6,vU D),(10,za 1 19 (ints Lc)),(77,.aE rid 0 U 1),(78,.int .i64 U),(79,.int .i64 0)] h7=_:=L1
 have kc:=zy h8 (za 1 19 (ints Lc)) Lc (by omega) (by omega) (by have:=Ap h8 Lc;rwa [lLc]at this) cc
 obtain⟨h9,o9,L0,x9,_⟩:=CO (by omega) (fun y hy=>⟨(hall y hy).1,zu y hy⟩) (vU D) (xK h0 D) (zD h0 Lc) D [] _ h8 o8 rfl x8 (by simp [vh,vt,Ba];omega)
 have L0':Lp AP.A [0,17,92,93,94] AP.f341L0 [(0,.aD w 0),(17,zg Lc),(92,vU D),(93,.int .i64 D.length),(94,.int .i64 0)] h8=_:=L0
 refine⟨h9,o9,vT (fn:=AP.f341) (e:=[]) (vs:=[]) rfl rfl rfl ?_ rfl,by simpa only[R7]using x9⟩
 have z1:((la.length-257:Nat):Int)=(la.length:Int)-257:=by omega
 have z2:((lb.length-1:Nat):Int)=(lb.length:Int)-1:=by omega
 have z3:((U-4:Nat):Int)=(U:Int)-4:=by omega
 rw[z1]at k5
 rw[z2]at k6
 rw[z3]at k7p
 have k5':aR AP.A 335 [.aD w 0,.int .i64 ((la.length:Int)-257),.int .i64 5] h4=some (.int .i64 0,h5):=k5
 have k6':aR AP.A 335 [.aD w 0,.int .i64 ((lb.length:Int)-1),.int .i64 5] h5=some (.int .i64 0,h6):=k6
 have k7':aR AP.A 335 [.aD w 0,.int .i64 ((U:Int)-4),.int .i64 4] h6=some (.int .i64 0,h7):=k7p
 have k351:aR AP.A 351 [.aE h1.next 0 19 1,.int .i64 7] h3=some (.bK [za 1 19 (ints Lc),.int .i64 0],h3):=k7
 have kt':aR AP.A 342 [.aE rid 0 19 1,.int .i64 4] h4=some (.aE rid 0 U 1,h4):=kt
 have ia:(la.length:Int)≤286:=by omega
 have ib:(lb.length:Int)≤30:=by omega
 have iU:(U:Int)≤19:=by omega
 have e19:∀V,iJ false (AV.aE V 0 19 1)=some (.int .i64 19):=fun _=>rfl
 rw[erv]at L2'
 rw[lR]at L2'
 clear x x4 x5 x6 x7 x8 x9 w5 w6 w7 r5 r6 r7 r1 r2 hall rc row cc zu k5 k6 k7p k7 kt L0 L1 L2 L3 o4 pR k4 k3 k4e k1e g5 g6 g7 gr eT c2 ec
 generalize vU D=ID at *
 generalize za 1 19 (ints Lc)=CV at *
 generalize zg Lc=EV at *
 generalize vU vn=IO at *
 generalize (la.length:Int)=LA at *
 generalize (lb.length:Int)=LB at *
 generalize (D.length:Int)=LD at *
 simp (disch:=omega)only[go_sem,vr,AP.f341,sc1,sc2,ce1,ce2,←eh1,k62,ko,lnO,←eh2,lnD,rK,L3',k351,L2',kt',l1,l2,k5',k6',k7',zc,L1',kc,L0']
theorem JC (p q:List Int) (n:Nat) (h:∀y∈q,y=0):wK (p++q) n=wK p n:=by
 unfold wK
 by_cases c:n=0
 · rw[if_pos c,if_pos c]
 · rw[if_neg c,if_neg c,List.countP_append]
   have:q.countP (fun x=>x==(n:Int))=0:=by
    rw[List.countP_eq_zero]
    intro y hy
    rw[h y hy]
    simp;omega
   omega
theorem BR (p q:List Int) (h:∀y∈q,y=0):∀n,ve (p++q) n=ve p n
 |0=>rfl
 |n+1=>by rw[ve,ve,BR p q h n,JC p q n h]
theorem JG {l:List Int} (hr:∀y∈l,0≤y) (k:Nat) (hk:k≤l.length):∀y∈l.drop (vC l k l.length),y=0:=by
 intro y hy
 obtain⟨i,hi,e⟩:=Sv.1 hy
 rw[List.getElem_drop]at e
 rw[List.length_drop]at hi
 have z:=yf l k l.length (vC l k l.length+i) (by omega) (by omega)
 have e2:l.getD (vC l k l.length+i) 0=y:=by
  rw[RT,RW (by omega),e];rfl
 rw[e2]at z
 have:=hr y (List.mem_of_mem_drop hy)
 omega
def Fs (E E':List (Int×Int)):Prop:=∀s,s<E.length→E'[s]?=E[s]?
theorem DS {l:List Int} (hr:∀y∈l,0≤y) (k:Nat) (hk:k≤l.length):Fs (uX (yh l k)) (uX l):=by
 intro s hs
 have hd:=JG hr k hk
 have cl:=AK l hk
 have ur:=wD l k l.length
 rw[yS]at hs
 have hs2:s<l.length:=by omega
 have el:l=yh l k++l.drop (vC l k l.length):=(List.take_append_drop _ _).symm
 unfold uX
 rw[uJ,uJ,So hs,So hs2]
 show some (yz l s)=some (yz (yh l k) s)
 have g:l.getD s 0=(yh l k).getD s 0:=by
  conv=>lhs;rw[el]
  rw[RT,R5 hs,←RT]
 have f:∀n,ve l n=ve (yh l k) n:=fun n=>by
  conv=>lhs;rw[el]
  exact BR _ _ hd n
 have t:l.take s=(yh l k).take s:=by
  conv=>lhs;rw[el]
  rw[List.take_append_of_le_length (by omega)]
 unfold yz
 rw[g,f,t]
theorem Ay.pre {E E':List (Int×Int)} (p:Fs E E') {s:Nat} (o:Ay E s):Ay E' s∧u7 E' s=u7 E s:=by
 have hl:=o.lt
 have e:=p s hl
 obtain⟨n,v,h,r⟩:=o
 refine⟨⟨n,v,e.trans h,r⟩, ?_⟩
 unfold u7
 rw[RT,RT,e]
theorem GY.pre {E E' D D':List (Int×Int)} (p:Fs E E') (q:Fs D D') {t:Tok} (o:GY E D t):GY E' D' t∧vE E' D' t=vE E D t:=by
 rcases o with ⟨c0,h2,h3⟩|⟨h1,h2,h3,h4,h5,h6⟩
 · obtain⟨a,b⟩:=h3.pre p
   refine⟨.inl ⟨c0,h2,a⟩, ?_⟩
   rw[vE,vE,if_pos c0,if_pos c0,b]
 · obtain⟨a,b⟩:=h5.pre p
   obtain⟨c,d⟩:=h6.pre q
   have z:¬t.len=0:=by omega
   refine⟨.inr ⟨h1,h2,h3,h4,a,c⟩, ?_⟩
   rw[vE,vE,if_neg z,if_neg z,b,d]
theorem ED {E E' D D':List (Int×Int)} (p:Fs E E') (q:Fs D D'):∀ts:List Tok,(∀t∈ts,GY E D t)→vX E' D' ts=vX E D ts
 |[],_=>rfl
 | t :: r, h => by
   have a:=((h t (by simp)).pre p q).2
   have b:=ED p q r fun x hx=>h x (by simp [hx])
   simp only[vX,R1]at b ⊢
   rw[a,b]
theorem Ox (h : H) (v : AV) (ts : List Tok) (KA KB KC : Nat) (la lb Lc : List Int) (ok : Az ts KA KB KC la lb Lc) (rd : yx 3 h v ts.length (v9 ts)) :
 aR AP.A 327 [v] h=some (.bK [.str (bytesOf (vB (vR ts la lb Lc))),.int .i64 0],h):=by
 obtain⟨HX,hn,tok,ra,rb,ea,eb,hall,rc,ec,hrow,ca,cb,cc,zu,KU,Ei⟩:=ok
 obtain⟨_,_,_,lit,_⟩:=JL HX
 have rd0:yx 3 h.dH v ts.length (v9 ts):=rd.mono fun i c q=>q
 have k1:=Ki h.dH v ts (by omega) rd0
 rw[HX]at k1
 have k2:=Hv h.dH v ts KA KB hn tok lit ra rb rd0
 obtain⟨a1,a2,a3⟩:=HS ts hn
 obtain⟨b1,b2⟩:=HT ts hn
 obtain⟨A,eA⟩:∃A,A=vV (dA ts) KA:=⟨_,rfl⟩
 obtain⟨B,eB⟩:∃B,B=vV (dB ts) KB:=⟨_,rfl⟩
 have lA:A.length=286:=by rw[eA,yE,a1]
 have lB:B.length=30:=by rw[eB,yE,b1]
 obtain⟨fA1,fA2,fA3,fA4,fA5⟩:=xR a2 (by omega) (by omega) (by omega) ra
 obtain⟨fB1,fB2,fB3,fB4,fB5⟩:=xR b2 (by omega) (by omega) (by omega) rb
 rw[←eA]at k2 ea fA2
 rw[←eB]at k2 eb fB2
 have rgA:∀y∈A,0≤y∧y<16:=fun y hy=>by have:=fA2 y hy;omega
 have rgB:∀y∈B,0≤y∧y<16:=fun y hy=>by have:=fB2 y hy;omega
 have pA:∀y∈A,0≤y:=fun y hy=>(rgA y hy).1
 have pB:∀y∈B,0≤y:=fun y hy=>(rgB y hy).1
 have uA:=wD A 257 A.length
 have uB:=wD B 1 B.length
 have lla:la.length=vC A 257 A.length:=by rw[ea];exact AK A (by omega)
 have llb:lb.length=vC B 1 B.length:=by rw[eb];exact AK B (by omega)
 have cfA:vp A=0∨vp A=302:=by
  have e:=Cn pA 257 15
  rw[←ea]at e
  have hl:0≤vo A 15:=by
   rw[←e]
   unfold vp at ca
   by_cases q:Ah la=false
   · rw[if_pos q]at ca;omega
   · rw[if_neg q]at ca
     by_cases z:vo la 15<0
     · rw[if_pos z]at ca;omega
     · omega
  rw[xD (by omega) (by omega) rgA hl]
  split
  · exact .inl rfl
  · exact .inr rfl
 have cfB:vp B=0∨vp B=302:=by
  have e:=Cn pB 1 15
  rw[←eb]at e
  have hl:0≤vo B 15:=by
   rw[←e]
   unfold vp at cb
   by_cases q:Ah lb=false
   · rw[if_pos q]at cb;omega
   · rw[if_neg q]at cb
     by_cases z:vo lb 15<0
     · rw[if_pos z]at cb;omega
     · omega
  rw[xD (by omega) (by omega) rgB hl]
  split
  · exact .inl rfl
  · exact .inr rfl
 have prA:Fs (uX la) (uX A):=by rw[ea];exact DS pA 257 (by omega)
 have prB:Fs (uX lb) (uX B):=by rw[eb];exact DS pB 1 (by omega)
 obtain⟨h1,o1,k3,x1,f1⟩:=HL (h:=h.dH) rfl 2 (by omega)
 have hN:h.dH.next=h.next:=rfl
 have kt1:=Et h1 A (by omega) (by omega) pA 257 (by omega)
 have kt2:=Et h1 B (by omega) (by omega) pB 1 (by omega)
 rw[←lla]at kt1
 rw[←llb]at kt2
 have r1:Rd h.dH (.aV false (ints A) 0 la.length 1) (ints la):=by
  have:=Ij h.dH A (k:=la.length) (by omega)
  rw[show A.take la.length=la by rw[ea];unfold yh;rw[Su];congr 1;omega]at this
  exact this
 have r2:Rd h.dH (.aV false (ints B) 0 lb.length 1) (ints lb):=by
  have:=Ij h.dH B (k:=lb.length) (by omega)
  rw[show B.take lb.length=lb by rw[eb];unfold yh;rw[Su];congr 1;omega]at this
  exact this
 obtain⟨h2,o2,k4,x2⟩:=Kh x1 r1 r2 rfl rfl rfl rfl (by simp [vh,vt]) ⟨by omega,by omega⟩ ⟨by omega,by omega⟩ hall rc ec hrow cc zu
 have kcA:=zy h2 (za 1 A.length (ints A)) A (by omega) (by omega) (Ap h2 A) cfA
 have kcB:=zy h2 (za 1 B.length (ints B)) B (by omega) (by omega) (Ap h2 B) cfB
 obtain⟨R,eR⟩:∃R,R=vn.map (fun o=>Lc.getD o.toNat 0):=⟨_,rfl⟩
 have urR:=wD R 4 19
 have abl:=Fw zu
 rw[←eR]at x2
 obtain⟨h3,k5⟩:=Ih (v:=v) (by omega) h.dH rd0 (zD h.dH A) (zD h.dH B) (fun t ht=>⟨((KU t ht).pre prA prB).1,tok t ht,lit t ht⟩) (Ei.pre prA).1 h.dH.next _ h2 o2 x2 (by
  have:=Ba (R.take (vC R 4 19))
  have:=List.length_take_le (vC R 4 19) R
  have lR:R.length=19:=by rw[eR];rfl
  rw[uU]at abl
  simp only[uU,vh,vt]
  omega)
 have e:vh 1 1++vh 2 2++(vh (la.length-257) 5++(vh (lb.length-1) 5++(vh (vC R 4 19-4) 4++(y7 (R.take (vC R 4 19))++yu (uX Lc) (la++lb)))))++(vX (uX A) (uX B) ts++u7 (uX A) 256)=vR ts la lb Lc:=by
  rw[ED prA prB ts KU,(Ei.pre prA).2]
  have:vh 1 1++vh 2 2=vh 5 3:=by decide
  rw[this]
  unfold vR
  rw[←eR]
  simp only[R7]
 rw[e]at k5
 rw[hN]at k3 k4 k5
 have k3':aR AP.A 333 [.int .i64 2] h.dH=some (.aD h.next 0,h1):=k3
 rw[lA]at kt1 kcA
 rw[lB]at kt2 kcB
 have kt1':aR AP.A 342 [za 1 286 (ints A),.int .i64 257] h1=_:=kt1
 have kt2':aR AP.A 342 [za 1 30 (ints B),.int .i64 1] h1=_:=kt2
 refine tE (fn:=AP.f327) (h2:=h3) (e:=[(2,.str (bytesOf (vB (vR ts la lb Lc)))),(3,.int .i64 0)]) (vs:=[.str (bytesOf (vB (vR ts la lb Lc))),.int .i64 0]) rfl rfl rfl ?_ rfl rfl
 clear x1 x2 r1 r2 rd rd0 e k3 kt1 kt2 zu hall rc hrow ra rb prA prB abl KU tok lit ec ea eb
 generalize bytesOf (vB (vR ts la lb Lc))=SB at *
 generalize AV.aV false (ints A) 0 la.length 1=TA at *
 generalize AV.aV false (ints B) 0 lb.length 1=TB at *
 generalize za 1 286 (ints A)=VA at *
 generalize za 1 30 (ints B)=VB at *
 generalize zg A=CA at *
 generalize zg B=CB at *
 simp (disch:=omega)only[go_sem,vr,AP.f327,k1,k2,k3',kt1',kt2',k4,kcA,kcB,k5]
theorem GD (h:H) (ts:List Tok):yx 3 h (Cf ts) ts.length (v9 ts):=HA (by rw[Jk])
theorem Am (h:H) (s:ByteArray) (hs:s.size≤300) {KA KB KC:Nat} {la lb Lc:List Int} (ok:Az (tokens s) KA KB KC la lb Lc):aR AP.A 330 [.str s] h=some (.bK [.str (vF s la lb Lc),.int .i64 0],h):=by
 have k1:=Er h.dH s
 rw[if_neg (by omega)]at k1
 have k2:=Jh h.dH s
 rw[if_neg (by omega)]at k2
 obtain⟨g,eg⟩:∃g,g=h.dH.alloc [.fn 326 [] [],.fn 327 [] []]:=⟨_,rfl⟩
 have HX:=CK s hs
 have tl:=(DA s hs).1
 have k3:=Kg g (Cf (tokens s)) (tokens s) (by omega) (GD g _)
 rw[if_pos HX]at k3
 have k4:=Ox g (Cf (tokens s)) (tokens s) KA KB KC la lb Lc ok (GD g _)
 have gg:g.get h.next=some [.fn 326 [] [],.fn 327 [] []]:=by rw[eg,vk (by simp)]
 have hN:h.dH.next=h.next:=rfl
 change aR AP.A 326 [Cf (tokens s)] g=some (.bK [.str (yw s),.int .i64 0],g)at k3
 change aR AP.A 327 [Cf (tokens s)] g=some (.bK [.str (Bm s la lb Lc),.int .i64 0],g)at k4
 have b:aY [(4,.str (vW s)),(6,Cf (tokens s))] (.cx 1 2 [.eF] [(0,(.c (.fn 326 [] []))),(1,(.c (.fn 327 [] [])))])=some ([.fn 326 [] [],.fn 327 [] []],fun i=>.aE i 0 2 1):=rfl
 unfold vF
 generalize yw s=F at *
 generalize vW s=S at *
 generalize Bm s la lb Lc=D at *
 generalize Cf (tokens s)=TV at *
 have step:∀(FL:List AV) (B O:ByteArray) (i:Int) (f:Nat),g.get h.next=some FL→0≤i∧i<2→FL[i.toNat]?=some (.fn f [] [])→aR AP.A f [TV] g=some (.bK [.str O,.int .i64 0],g)→aL (aR AP.A) bp AP.f330L0 (ay [(4,.str B),(6,TV),(24,.aE h.next 0 2 1),(25,.int .i64 2),(26,.int .i64 i)] [4,6,24,25,26]) g=some (.normal,[(4,.str (shorter O B)),(6,TV),(24,.aE h.next 0 2 1),(25,.int .i64 2),(26,.int .i64 (i+1))],g):=by
  intro FL B O i f gF hi fe kf
  have c0:i<2:=hi.2
  unfold shorter
  have t0:cH (.int .i64 i) 2=some i.toNat:=by simp [cH,nk,hi]
  by_cases c1:O.size<B.size
  · have c1':(O.size:Int)<B.size:=by omega
    rw[if_pos c1]
    simp (disch:=omega)only[go_sem,vr,AP.f330L0,c0,t0,gF,fe,kf,wg,c1']
  · have c1':¬(O.size:Int)<B.size:=by omega
    rw[if_neg c1]
    simp (disch:=omega)only[go_sem,vr,AP.f330L0,c0,t0,gF,fe,kf,wg,c1']
 have s0:=step _ S F 0 326 gg (by omega) rfl k3
 have s1:=step _ (shorter F S) D 1 327 gg (by omega) rfl k4
 have s2:Lp AP.A [4,6,24,25,26] AP.f330L0 [(4,.str (shorter D (shorter F S))),(6,TV),(24,.aE h.next 0 2 1),(25,.int .i64 2),(26,.int .i64 2)] g=some (.exit 0,[(4,.str (shorter D (shorter F S))),(6,TV),(24,.aE h.next 0 2 1),(25,.int .i64 2),(26,.int .i64 2),(27,.bool false)],g):=by
  refine sM ?_
  simp (disch:=omega)only[go_sem,vr,AP.f330L0]
 have L:=sN s0 (sN s1 s2)
 have bs:aY [(6,TV),(4,.str S)] (.cx 1 2 [.eF] [(0,(.c (.fn 326 [] []))),(1,(.c (.fn 327 [] [])))])=some ([.fn 326 [] [],.fn 327 [] []],fun i=>.aE i 0 2 1):=rfl
 generalize shorter D (shorter F S)=T at *
 have eb:∀e:Env,aY e (.cx 1 2 [.eF] [(0,(.c (.fn 326 [] []))),(1,(.c (.fn 327 [] [])))])=some ([.fn 326 [] [],.fn 327 [] []],fun i=>.aE i 0 2 1):=fun _=>rfl
 refine tE (fn:=AP.f330) (h2:=g) (e:=[(2,.str T),(3,.int .i64 0)]) (vs:=[.str T,.int .i64 0]) rfl rfl rfl ?_ rfl rfl
 clear step s0 s1 s2 bs b gg k3 k4
 simp (disch:=omega)only[go_sem,vr,AP.f330,k1,k2,eb,hN,←eg,rK,L]
def A7 (T s:ByteArray):AV:=if T.size<s.size then .bK [.int .i64 8,.str T,.int .i64 0]else .bK [.int .i64 0,.str s,.int .i64 0]
theorem Fe (h:H) (s:ByteArray) (hs:s.size≤300) {KA KB KC:Nat} {la lb Lc:List Int} (ok:Az (tokens s) KA KB KC la lb Lc):aR AP.A 331 [.str s] h=some (A7 (vF s la lb Lc) s,h):=by
 have k:=Am h.dH s hs ok
 unfold A7
 generalize vF s la lb Lc=T at *
 by_cases c:T.size<s.size
 · rw[if_pos c]
   have c':(T.size:Int)<s.size:=by omega
   refine tE (fn:=AP.f331) (h2:=h.dH) (e:=[(2,.int .i64 8),(3,.str T),(4,.int .i64 0)]) (vs:=[.int .i64 8,.str T,.int .i64 0]) rfl rfl rfl ?_ rfl rfl
   clear ok
   simp (disch:=omega)only[go_sem,vr,AP.f331,k,wg,c']
 · rw[if_neg c]
   have c':¬(T.size:Int)<s.size:=by omega
   refine tE (fn:=AP.f331) (h2:=h.dH) (e:=[(2,.int .i64 0),(3,.str s),(4,.int .i64 0)]) (vs:=[.int .i64 0,.str s,.int .i64 0]) rfl rfl rfl ?_ rfl rfl
   clear ok
   simp (disch:=omega)only[go_sem,vr,AP.f331,k,wg,c']
theorem zX (h:H) (s:ByteArray) (hs:300<s.size):aR AP.A 330 [.str s] h=some (.bK [.str ⟨#[]⟩,.int .i64 900],h):=by
 have k1:=Er h.dH s
 rw[if_pos hs]at k1
 have cb:((800:Int) !=0)=true:=by decide
 refine tE (fn:=AP.f330) (h2:=h.dH) (e:=[(2,.str ⟨#[]⟩),(3,.int .i64 900)]) (vs:=[.str ⟨#[]⟩,.int .i64 900]) rfl rfl rfl ?_ rfl rfl
 simp (disch:=omega)only[go_sem,vr,AP.f330,k1,cb]
theorem Hw (h:H) (s:ByteArray) (hs:300<s.size):aR AP.A 331 [.str s] h=some (.bK [.int .i64 0,.str ⟨#[]⟩,.int .i64 900],h):=by
 have k:=zX h.dH s hs
 have cb:((900:Int) !=0)=true:=by decide
 refine tE (fn:=AP.f331) (h2:=h.dH) (e:=[(2,.int .i64 0),(3,.str ⟨#[]⟩),(4,.int .i64 900)]) (vs:=[.int .i64 0,.str ⟨#[]⟩,.int .i64 900]) rfl rfl rfl ?_ rfl rfl
 simp (disch:=omega)only[go_sem,vr,AP.f331,k,cb]
def EH:ByteArray:=⟨#[97,97,97,97,97,97,97,97,97,97,97,97,97,97,97,97,97,97,97,97]⟩
theorem KW:(wh (tokens EH)).length≤100:=by decide+kernel
theorem Og (ts:List Tok):9≤(wh ts).length:=by
 unfold wh
 have:(u7 (uX vA) 256).length=7:=by decide+kernel
 simp only[uU,vh,vt,this]
 omega
theorem Nm (ts:List Tok) (la lb Lc:List Int):9≤(vR ts la lb Lc).length:=by
 unfold vR
 simp only[uU,vh,vt]
 omega
theorem Ld (s:ByteArray) (la lb Lc:List Int):2≤(vF s la lb Lc).size:=by
 have h1:2≤(Bm s la lb Lc).size:=by
  have:=Nm (tokens s) la lb Lc
  unfold Bm;rw[xM];omega
 have h2:2≤(yw s).size:=by
  have:=Og (tokens s)
  unfold yw;rw[xM];omega
 have h3:=xN s
 unfold vF shorter;(repeat' split)<;>omega
theorem HU (s:ByteArray) (la lb Lc:List Int):(vF s la lb Lc).size≤(Bm s la lb Lc).size∧(vF s la lb Lc).size≤(yw s).size∧(vF s la lb Lc).size≤(vW s).size:=by
 unfold vF shorter
 refine⟨?_, ?_, ?_⟩<;>(repeat' split)<;>omega
theorem Hd {s:ByteArray} (hs:s.size≤300) {KA KB KC:Nat} {la lb Lc:List Int} (ok:Az (tokens s) KA KB KC la lb Lc) (hlt:(vF s la lb Lc).size<s.size+5) {most:Int} (h1:(s.size:Int)≤most) (h2:most≤8192):vx (vF s la lb Lc) most=.ok (preB s s.size,(vF s la lb Lc).size):=by
 have idn:vx (Bm s la lb Lc) most=.ok (preB s s.size,(Bm s la lb Lc).size):=by
  unfold Bm
  exact BV (s:=s) hs ok h1 h2
 have ifx:vx (yw s) most=.ok (preB s s.size,(yw s).size):=BW hs h1 h2
 have ss:=xN s
 unfold vF at hlt ⊢
 rcases yY (Bm s la lb Lc) (shorter (yw s) (vW s))with e|e
 · rw[e];exact idn
 · rw[e]at hlt ⊢
   rcases yY (yw s) (vW s)with e2|e2
   · rw[e2];exact ifx
   · rw[e2]at hlt;omega
theorem EE {s p:ByteArray} (hs:s.size≤300) (hi:vx p s.size=.ok (preB s s.size,p.size)):wu 8 p s.size=some s:=by
 unfold wu
 rw[if_neg (by omega),if_neg (by omega),if_pos rfl,hi]
 have e:((preB s s.size).length:Int)=s.size:=by rw[wJ]
 show(if((preB s s.size).length:Int)=s.size∧p.size=p.size then some (bytesOf (preB s s.size))else none)=some s
 rw[if_pos ⟨e,rfl⟩,Di]
theorem Jx (h:H) (hf:h.floor≤h.next):aR AP.A 329 [] h=some (.bool true,h):=by
 have s20:EH.size=20:=rfl
 obtain⟨KA,KB,KC,la,lb,Lc,ok⟩:=Hg EH (by omega)
 have k1:=Am h.dH EH (by omega) ok
 have k2:=Fe h.dH EH (by omega) ok
 have le:=(HU EH la lb Lc).2.1
 have fx:(yw EH).size≤13:=by
  have:=KW
  unfold yw;rw[xM];omega
 have i1:=Hd (by omega) ok (by omega) (most:=(EH.size:Int)) (by omega) (by omega)
 have u1:=EE (by omega) i1
 have u2:wu 8 (vF EH la lb Lc) 19=none:=by
  unfold wu
  rw[if_neg (by omega),if_neg (by omega),if_pos rfl,DJ i1 (by omega) (by rw[wJ];omega)]
 have pv:A7 (vF EH la lb Lc) EH=.bK [.int .i64 8,.str (vF EH la lb Lc),.int .i64 0]:=by unfold A7;rw[if_pos (by omega)]
 rw[pv]at k2
 generalize vF EH la lb Lc=T at *
 have bY:T.size≤13:=by omega
 have k4:=yL h.dH (by simp) 8 T 20 (by omega)
 have u1':wu 8 T 20=some EH:=u1
 rw[u1']at k4
 have k5:=yL h.dH (by simp) 8 T 19 (by omega)
 rw[u2]at k5
 have k6:=yL h.dH (by simp) 1 ⟨#[]⟩ 0 (by decide)
 have u3:wu 1 ⟨#[]⟩ 0=none:=by unfold wu;rw[if_neg (by omega),if_neg (by omega),if_neg (by omega)]
 rw[u3]at k6
 obtain⟨KA',KB',KC',la',lb',Lc',ok'⟩:=Hg ⟨#[120,121]⟩ (by decide)
 have k3:=Fe h.dH ⟨#[120,121]⟩ (by decide) ok'
 have pv':A7 (vF ⟨#[120,121]⟩ la' lb' Lc') ⟨#[120,121]⟩=.bK [.int .i64 0,.str ⟨#[120,121]⟩,.int .i64 0]:=by
  have:=Ld ⟨#[120,121]⟩ la' lb' Lc'
  unfold A7
  rw[if_neg]
  have:(⟨#[120,121]⟩:ByteArray).size=2:=rfl
  omega
 rw[pv']at k3
 simp only[OP]at k4 k5 k6
 have n0:∀(k:Int) (g:H),aR AP.A 9 [.int .i64 k] g=some (.int .i64 k,g):=fun k g=>LY g k
 have ea:(⟨#[97,97,97,97,97,97,97,97,97,97,97,97,97,97,97,97,97,97,97,97]⟩:ByteArray)=EH:=rfl
 have q1:(T.toList==T.toList)=true:=by simp
 have q2:(EH.toList==EH.toList)=true:=by simp
 have q3:((⟨#[120,121]⟩:ByteArray).toList==(⟨#[120,121]⟩:ByteArray).toList)=true:=by simp
 have b1:bj .eql (.str T) (.str T)=some (.bool true):=by simp [bj,jB]
 have b2:bj .eql (.str EH) (.str EH)=some (.bool true):=by simp [bj,jB]
 have b3:bj .eql (.str ⟨#[120,121]⟩) (.str ⟨#[120,121]⟩)=some (.bool true):=by simp [bj,jB]
 have z0:((0:Int)==0)=true:=by decide
 have z8:((8:Int)==8)=true:=by decide
 have z9:((900:Int)==900)=true:=by decide
 refine tE (fn:=AP.f329) (h2:=h.dH) (e:=[(0,.bool true)]) (vs:=[.bool true]) rfl rfl rfl ?_ rfl rfl
 clear ok ok' le fx i1 u1 u1' u2 pv pv' u3 q1 q2 q3
 simp (disch:=omega)only[go_sem,vr,AP.f329,ea,k1,k2,k3,k4,k5,k6,n0,b1,b2,b3,z0,z8,z9]
theorem FM {T s:ByteArray} {p:Nat}:∀n,yo T p (wN s n)→∀i,i<n→yo T (p+8* i) (vh (xH s i) 8)
 |0,_,i,h=>by omega
 | n + 1, hb, i, hi => by
   rw[yP]at hb
   obtain⟨h1,h2⟩:=hb.app
   rcases Nat.lt_or_ge i n with c|c
   · exact FM n h1 i c
   · obtain rfl:i=n:=by omega
     rw[zd]at h2;exact h2
theorem Ez {T s:ByteArray} {p:Nat} {most:Int} (hm:(s.size:Int)≤most) (hb:yo T p (wN s s.size)):∀m i,i+m=s.size→vN T most m (p+8* i) (preB s i)=.ok (p+8* s.size,preB s s.size)
 | 0, i, hi => by
   obtain rfl:i=s.size:=by omega
   rfl
 | m + 1, i, hi => by
   have b:=FM _ hb i (by omega)
   obtain⟨v,l⟩:=b.put (Bh s i)
   have ih:=Ez hm hb m (i+1) (by omega)
   rw[vN,if_pos l,if_neg (by rw[wJ];omega),v,←zM,show p+8* i+8=p+8* (i+1)by omega]
   exact ih
theorem K2 {s:ByteArray} (n i:Nat):∀b∈vH n++wN s i,b≤1:=by
 intro b h
 unfold vH vh wN at h
 simp only[Sj,List.mem_flatMap,List.mem_replicate]at h
 rcases h with (h|h|h|h)|⟨k,_,h⟩
 · exact wB _ _ _ b h
 · omega
 · exact wB _ _ _ b h
 · exact wB _ _ _ b h
 · exact wB _ _ _ b h
theorem CW {s:ByteArray} (hs:s.size≤300) {most:Int} (hm1:(s.size:Int)≤most) (hm2:most≤8192):vx (vW s) most=.ok (preB s s.size,(vW s).size):=by
 have sz:=xN s
 have hb:=Bg (vH s.size++wN s s.size) (K2 _ _)
 rw[Cb]at hb
 generalize vW s=T at *
 obtain⟨ha,hd⟩:=hb.app
 have l40:(vH s.size).length=40:=by simp [vH,vh,vt]
 rw[l40,uF]at hd
 unfold vH at ha
 obtain⟨h1,h2⟩:=ha.app
 have pl:(vh 1 3).length=3:=rfl
 rw[pl,uF]at h2
 obtain⟨_,h3⟩:=h2.app
 rw[R9]at h3
 obtain⟨h4,h5⟩:=h3.app
 rw[show(vh s.size 16).length=16 by simp [vh,vt]]at h5
 obtain⟨v4,_⟩:=h4.put (by omega)
 obtain⟨v5,l5⟩:=h5.put (by omega)
 have v0:u0 T 0 1=1:=by
  have b0:=h1.2 0 (by rw[pl];omega)
  have e0:(vh 1 3).getD 0 0=1:=by decide
  rw[e0]at b0
  simp [u0,b0]
 have v1:u0 T 1 2=0:=by
  have b1:=h1.2 1 (by rw[pl];omega)
  have b2:=h1.2 2 (by rw[pl];omega)
  have e1:(vh 1 3).getD 1 0=0:=by decide
  have e2:(vh 1 3).getD 2 0=0:=by decide
  rw[e1]at b1
  rw[e2]at b2
  simp only[uF]at b1 b2
  simp [u0,b1,b2]
 have st:=Ez hm1 hd s.size 0 (by omega)
 have so:wk T most 3 []=.ok (40+8* s.size,preB s s.size):=by
  unfold wk
  show(if 8+32≤8* T.size then(if u0 T 8 16+u0 T (8+16) 16=65535 then vN T most (u0 T 8 16) (8+32) []else .error 700)else .error 700)=_
  rw[if_pos (by omega),show u0 T 8 16=s.size from v4,show u0 T (8+16) 16=65535-s.size from v5,if_pos (by omega)]
  exact st
 have bl:vO T most 0 []=.ok (true,40+8* s.size,preB s s.size):=by
  unfold vO
  simp only[uF]
  rw[if_pos (by omega),if_pos v1,so]
  simp [v0]
 unfold vx
 rw[if_neg (by omega),vJ,bl]
 simp only[if_true]
 rw[show(40+8* s.size+7)/8=T.size by omega]
theorem IU {s:ByteArray} (hs:s.size≤300) {KA KB KC:Nat} {la lb Lc:List Int} (ok:Az (tokens s) KA KB KC la lb Lc) {most:Int} (h1:(s.size:Int)≤most) (h2:most≤8192):vx (vF s la lb Lc) most=.ok (preB s s.size,(vF s la lb Lc).size):=by
 have idn:vx (Bm s la lb Lc) most=.ok (preB s s.size,(Bm s la lb Lc).size):=BV (s:=s) hs ok h1 h2
 have ifx:vx (yw s) most=.ok (preB s s.size,(yw s).size):=BW hs h1 h2
 have ist:vx (vW s) most=.ok (preB s s.size,(vW s).size):=CW hs h1 h2
 unfold vF
 rcases yY (Bm s la lb Lc) (shorter (yw s) (vW s))with e|e
 · rw[e];exact idn
 · rw[e]
   rcases yY (yw s) (vW s)with e2|e2
   · rw[e2];exact ifx
   · rw[e2];exact ist
theorem QN (a b:ByteArray):bj .eql (.str a) (.str b)=some (.bool (a.toList==b.toList)):=by simp [bj,jB]
def X1:ByteArray:=⟨#[120]⟩
theorem Ht {s T : ByteArray} (hs : s.size ≤ 300) (hi : ∀ most : Int, (s.size : Int) ≤ most → most ≤ 8192 → vx T most = .ok (preB s s.size, T.size)) :
 ∃(m:Int) (p:ByteArray),A7 T s=.bK [.int .i64 m,.str p,.int .i64 0]∧p.size≤s.size∧(decide (m=8)=decide (T.size<s.size))∧wu m p s.size=some s∧wu m p (s.size+1)=none∧wu m (p++X1) s.size=none:=by
 by_cases c:T.size<s.size
 · refine⟨8,T,by unfold A7;rw[if_pos c],by omega,by simp [c],EE hs (hi _ (by omega) (by omega)), ?_, ?_⟩
   · unfold wu
     by_cases c2:(s.size:Int)+1<0∨300<(s.size:Int)+1
     · rw[if_pos c2]
     · rw[if_neg c2,if_neg (by omega),if_pos rfl,hi _ (by omega) (by omega)]
       show(if((preB s s.size).length:Int)=s.size+1∧T.size=T.size then some (bytesOf (preB s s.size))else none)=none
       rw[if_neg (by rw[wJ];omega)]
   · unfold wu
     rw[if_neg (by omega),if_neg (by omega),if_pos rfl,DK (Hx T X1) (hi _ (by omega) (by omega))]
     show(if((preB s s.size).length:Int)=s.size∧T.size=(T++X1).size then some (bytesOf (preB s s.size))else none)=none
     rw[if_neg (by rw[ByteArray.size_append];show¬(_∧T.size=T.size+1);omega)]
 · refine⟨0,s,by unfold A7;rw[if_neg c],by omega,by simp [c], ?_, ?_, ?_⟩
   · unfold wu
     rw[if_neg (by omega),if_pos rfl,if_pos rfl]
   · unfold wu
     by_cases c2:(s.size:Int)+1<0∨300<(s.size:Int)+1
     · rw[if_pos c2]
     · rw[if_neg c2,if_pos rfl,if_neg (by omega)]
   · unfold wu
     rw[if_neg (by omega),if_pos rfl,if_neg (by rw[ByteArray.size_append];show¬(((s.size+1:Nat):Int)=s.size);omega)]
theorem Lb (h:H) (hf:h.floor≤h.next) (s:ByteArray):aR AP.A 320 [.str s] h=some (.bool true,h):=by
 have ka:=Jx h.dH (by simp)
 have n0:∀(k:Int) (g:H),aR AP.A 9 [.int .i64 k] g=some (.int .i64 k,g):=fun k g=>LY g k
 have z0:((0:Int)==0)=true:=by decide
 have z9:((900:Int)==900)=true:=by decide
 have q0:bj .eql (.str ⟨#[]⟩) (.str ⟨#[]⟩)=some (.bool true):=by rw[QN];simp
 by_cases c:300<s.size
 · have c':(300:Int)<s.size:=by omega
   have k1:=zX h.dH s c
   have k2:=Hw h.dH s c
   refine tE (fn:=AP.f320) (h2:=h.dH) (e:=[(2,.bool true)]) (vs:=[.bool true]) rfl rfl rfl ?_ rfl rfl
   simp (disch:=omega)only[go_sem,vr,AP.f320,ka,wg,c',k1,k2,n0,z0,z9,q0]
 · have hs:s.size≤300:=by omega
   have c':¬(300:Int)<s.size:=by omega
   obtain⟨KA,KB,KC,la,lb,Lc,ok⟩:=Hg s hs
   have k1:=Am h.dH s hs ok
   have k2:=Fe h.dH s hs ok
   have le:=(HU s la lb Lc).2.2
   rw[xN]at le
   have hi:=fun most=>IU (most:=most) hs ok
   generalize vF s la lb Lc=T at *
   obtain⟨m,p,e,pl,pm,u1,u2,u3⟩:=Ht hs hi
   rw[e]at k2
   have k3:=D6 h.dH (by simp) T s.size (by omega)
   rw[hi _ (by omega) (by omega)]at k3
   have k3':aR AP.A 7 [.str T,.int .i64 s.size] h.dH=some (.bK [.str s,.int .i64 T.size,.int .i64 0],h.dH):=by
    have this:aR AP.A 7 [.str T,.int .i64 s.size] h.dH=some (.bK [.str (bytesOf (preB s s.size)),.int .i64 T.size,.int .i64 0],h.dH):=k3
    rw[show bytesOf (preB s s.size)=s from Di s]at this
    exact this
   have k4:=yL h.dH (by simp) m p s.size (by omega)
   rw[u1]at k4
   have k5:=yL h.dH (by simp) m p (s.size+1) (by omega)
   rw[u2]at k5
   have k6:=yL h.dH (by simp) m (p++X1) s.size (by rw[ByteArray.size_append];show p.size+1<_;omega)
   rw[u3]at k6
   simp only[OP]at k4 k5 k6
   have ax:bj .add (.str p) (.str ⟨#[120]⟩)=some (.str (p++X1)):=by
    have:p.size+X1.size≤9223372036854775807:=by show p.size+1≤_;omega
    show(if p.size+X1.size≤9223372036854775807 then some (AV.str (p++X1))else none)=_
    rw[if_pos this]
   have q1:bj .eql (.str s) (.str s)=some (.bool true):=by rw[QN];simp
   have zt:((T.size:Int)==(T.size:Int))=true:=by simp
   have w1:IntKind.wrap .i64 ((s.size:Int)+1)=(s.size:Int)+1:=wi (by omega)
   have w5:IntKind.wrap .i64 ((s.size:Int)+5)=(s.size:Int)+5:=wi (by omega)
   have l5:(T.size:Int)≤s.size+5:=by omega
   have lp:(p.size:Int)≤s.size:=by omega
   have m8:(m==8)=decide ((T.size:Int)<s.size):=by
    have:(m==8)=decide (m=8):=by by_cases q:m=8<;>simp [q]
    rw[this,pm]
    by_cases q:T.size<s.size
    · rw[R0 q,R0 (by omega)]
    · rw[RY q,RY (by omega)]
   have bb:∀b:Bool,(b==b)=true:=fun b=>by cases b<;>rfl
   refine tE (fn:=AP.f320) (h2:=h.dH) (e:=[(2,.bool true)]) (vs:=[.bool true]) rfl rfl rfl ?_ rfl rfl
   clear ok le hi pm u1 u2 u3 k3 e
   generalize p++X1=PX at *
   generalize hB:decide ((T.size:Int)<s.size)=B at *
   simp (disch:=omega)only[go_sem,vr,AP.f320,ka,wg,c',k1,k2,k3',k4,k5,k6,n0,z0,z9,q0,q1,ax,zt,w1,w5,l5,lp,m8,bb,hB]
theorem Ch (r:List (Ty×List AV)) (h:r.map (·.1)=[OH]) (hp:∀x∈r,Sh reachBytes x.1 x.2):aR AP.A 320 (r.map jA) H.empty=some (.bool true,H.empty):=by
 obtain⟨x,rfl,h1⟩:=QJ h hp
 obtain⟨a,rfl,_⟩:=OC h1
 exact Lb H.empty (uy _) a
end Ab
