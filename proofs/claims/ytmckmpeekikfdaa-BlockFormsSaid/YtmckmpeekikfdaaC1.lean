/- Part C1. -/
import Derived.KernelRfl
import Derived.Test.YtmckmpeekikfdaaAP
set_option linter.unusedSimpArgs false
set_option linter.unusedVariables false
namespace Ab
open Go
theorem QP:type_of% @List.getD_eq_getElem?_getD:= @List.getD_eq_getElem?_getD
theorem QQ:type_of% @List.length_cons:= @List.length_cons
theorem QR:type_of% @List.getElem?_eq_getElem:= @List.getElem?_eq_getElem
theorem QS:type_of% @List.length_nil:= @List.length_nil
theorem QT:type_of% @decide_eq_false:= @decide_eq_false
theorem QU:type_of% @Option.map_some:= @Option.map_some
theorem QV:type_of% @decide_eq_true:= @decide_eq_true
theorem QW:type_of% @List.flatMap_cons:= @List.flatMap_cons
theorem QX:type_of% @Int.eq_ofNat_of_zero_le:= @Int.eq_ofNat_of_zero_le
theorem QY:type_of% @List.map_cons:= @List.map_cons
theorem QZ:type_of% @List.mem_map:= @List.mem_map
theorem Q0:type_of% @List.getElem?_append_left:= @List.getElem?_append_left
theorem Q1:type_of% @List.getElem?_append_right:= @List.getElem?_append_right
theorem Q2:type_of% @List.append_assoc:= @List.append_assoc
theorem Q3:type_of% @List.getElem?_eq_none:= @List.getElem?_eq_none
theorem Q4:type_of% @List.getElem?_set:= @List.getElem?_set
theorem Q5:type_of% @List.length_replicate:= @List.length_replicate
theorem Q6:type_of% @List.getElem_mem:= @List.getElem_mem
theorem Q7:type_of% @Nat.pow_le_pow_right:= @Nat.pow_le_pow_right
theorem Q8:type_of% @List.append_nil:= @List.append_nil
theorem Q9:type_of% @Classical.byContradiction:= @Classical.byContradiction
theorem Ra:type_of% @List.drop_zero:= @List.drop_zero
theorem Rb:type_of% @List.length_set:= @List.length_set
theorem Rc:type_of% @List.eq_nil_of_length_eq_zero:= @List.eq_nil_of_length_eq_zero
theorem Re:type_of% @List.getElem?_replicate:= @List.getElem?_replicate
theorem Rf:type_of% @List.sum_cons:= @List.sum_cons
theorem Rg:type_of% @List.eq_of_mem_replicate:= @List.eq_of_mem_replicate
theorem Rh:type_of% @List.length_take:= @List.length_take
theorem Ri:type_of% @List.mem_append:= @List.mem_append
theorem Rj:type_of% @List.getElem?_range:= @List.getElem?_range
theorem Rk:type_of% @List.map_congr_left:= @List.map_congr_left
theorem Rl:type_of% @List.mem_or_eq_of_mem_set:= @List.mem_or_eq_of_mem_set
theorem Rm:type_of% @List.mem_iff_getElem:= @List.mem_iff_getElem
theorem Rn:type_of% @List.mem_cons_of_mem:= @List.mem_cons_of_mem
theorem Rp:type_of% @Option.map_none:= @Option.map_none
theorem Rq:type_of% @List.Perm.refl:= @List.Perm.refl
theorem Rr:type_of% @Int.le_refl:= @Int.le_refl
theorem Rt:type_of% @congrArg:= @congrArg
theorem Ru:type_of% @List.length_map:= @List.length_map
theorem Rv:type_of% @List.nodup_cons:= @List.nodup_cons
theorem Rw:type_of% @List.map_nil:= @List.map_nil
theorem Rx:type_of% @List.take_zero:= @List.take_zero
attribute [local congr] sX
def wz (l:List Int) (n:Nat):Nat:=if n=0 then 0 else l.countP (fun x=>x==(n:Int))
def syms (l:List Int) (n:Nat):List Int:=if n=0 then []else l.zipIdx.filterMap fun p=>if p.1=(n:Int)then some (p.2:Int)else none
theorem yO (p:List Int) (x:Int) (n:Nat):wz (p++[x]) n=wz p n+if n≠0∧x=(n:Int)then 1 else 0:=by
 unfold wz
 by_cases hn:n=0
 · simp [hn]
 · simp [hn,List.countP_append,List.countP_cons]
theorem zw (p:List Int) (x:Int) (n:Nat):syms (p++[x]) n=syms p n++if n≠0∧x=(n:Int)then [(p.length:Int)]else []:=by
 unfold syms
 by_cases hn:n=0
 · simp [hn]
 · simp [hn,List.zipIdx_append,List.filterMap_append]
   split<;>simp_all
theorem FW (l:List Int) (n:Nat):(syms l n).length≤l.length:=by
 unfold syms
 split
 · simp
 · refine uZ (List.length_filterMap_le _ _) ?_
   simp
theorem zJ (l:List Int) (n:Nat):wz l n≤l.length:=by
 unfold wz
 split
 · omega
 · exact List.countP_le_length
structure Bk (h0 h:H) (b:Nat) (C:Nat→AV) (p:List Int):Prop where
 get:h.get b=some (nh 49 C)
 fl:h.floor=h0.next
 fb:h0.next≤b
 nx:h.floor≤h.next
 low:∀id,id<h0.next→h.get id=h0.get id
 Ii:∀n,n<16→C (16+n)=I (wz p n)
 own:∀n,n<16→ng h (C (32+n)) (ints (syms p n))
 nb:∀n,n<16→(C (32+n)).id?≠some b
 JQ:∀n m,n<16→m<16→n≠m→∀i,(C (32+n)).id?=some i→(C (32+m)).id?≠some i
set_option maxHeartbeats 1000000 in
theorem H0 (h0 h : H) (b : Nat) (C : Nat → AV) (p : List Int) (n : Nat) (x : AV) (N : Int) (bk : Bk h0 h b C p) (hn1 : 0 < n) (hn : n < 16) (hp : p.length < 100000) (hel : ∃ a, fG 1 x (I p.length) = some a ∧ ∀ g : H, (∀ id c, h0.get id = some c → g.get id = some c) → bQ false 1 a g = some (I n)) (hN : (p.length : Int) < N) :
 ∃h' C',aK (aQ AP.A) br AP.f41L1 [(3,.aC b 0),(10,x),(11,I N),(12,I p.length)] h=some (.normal,[(3,.aC b 0),(10,x),(11,I N),(12,I (p.length+1))],h')∧Bk h0 h' b C' (p++[(n:Int)])∧∀i,(i<16∨i=48)→C' i=C i:=by
 obtain⟨a,ha1,ha2⟩:=hel
 have hlow:∀id c,h0.get id=some c→h.get id=some c:=fun id c q=>by rw[bk.low id (h0.lt id c q)];exact q
 have hld:=ha2 h hlow
 have hx:cJ (I n) 16=some n:=j3 hn
 have g1:(nh 49 C)[16+n]?=some (I (wz p n)):=by rw[fE (by omega),bk.Ii n hn]
 have hcl:=zJ p n
 have hw:IntKind.wrap .i64 ((wz p n:Int)+1)=wz p n+1:=tw (by omega) (by omega)
 have hw2:IntKind.wrap .i64 ((p.length:Int)+1)=p.length+1:=tw (by omega) (by omega)
 have hfb:h.floor≤b:=by rw[bk.fl];exact bk.fb
 have hs1:(nh 49 C).set (16+n) (I (wz p n+1))=nh 49 (tP C (16+n) (I (wz p n+1))):=tv (by omega) _
 obtain⟨C1,eC1⟩:∃D,D=tP C (16+n) (I (wz p n+1)):=⟨_,rfl⟩
 rw[←eC1]at hs1
 obtain⟨h1,eh1⟩:∃g,g=(h.set b (nh 49 C1)).alloc [I p.length]:=⟨_,rfl⟩
 have hbn:b<h.next:=h.lt _ _ bk.get
 have hb1:h1.get b=some (nh 49 C1):=by
  rw[eh1,H.aV,H.jm,if_neg (by omega),H.dh,if_pos rfl,bk.get];rfl
 have hC1:C1 (32+n)=C (32+n):=by rw[eC1,tP,if_neg (by omega)]
 have hlo1:∀i,i≠b→i≠h.next→h1.get i=h.get i:=fun i q1 q2=>by
  rw[eh1,H.aV,H.jm,if_neg q2,H.dh,if_neg q1]
 have hfl1:h1.floor=h.floor:=by rw[eh1];simp
 have hnx1:h1.next=h.next+1:=by rw[eh1];simp
 have ho1:∀m,m<16→ng h1 (C (32+m)) (ints (syms p m)):=fun m hm=>
  (bk.own m hm).mono hfl1 fun i hi=>hlo1 i (fun e=>bk.nb m hm (e ▸ hi)) (by have:=(bk.own m hm).lt hi;omega)
 have hsl:=FW p n
 have hnxf:=bk.nx
 obtain⟨v',h2,q1,q2,q3,q4,q5,q6⟩:=(ho1 n hn).app (by omega) (z:=8) (I p.length) rfl (by simp [roomy];omega)
 have g2:(nh 49 C1)[32+n]?=some (C (32+n)):=by rw[fE (by omega),hC1]
 have hb2:h2.get b=some (nh 49 C1):=by rw[q5 b (bk.nb n hn) (by omega)];exact hb1
 have hs2:(nh 49 C1).set (32+n) v'=nh 49 (tP C1 (32+n) v'):=tv (by omega) _
 have hfl2:h2.floor≤b:=by have:=bk.fb;have:=bk.fl;omega
 have hv':v'.cells=[v']∧v'.sc=true:=by
  rcases q2 with ⟨rfl,_⟩|⟨id,rfl,_⟩<;>exact⟨rfl,rfl⟩
 have b1:16+n≤48:=by omega
 have b2:32+n≤48:=by omega
 have hal:(h.set b (nh 49 C1)).get b=some (nh 49 C1):=by rw[H.dh,if_pos rfl,bk.get];rfl
 have hal2:h1.get h.next=some [I p.length]:=by rw[eh1,H.aV,H.jm,if_pos rfl]
 refine⟨h2.set b (nh 49 (tP C1 (32+n) v')),tP C1 (32+n) v', ?_, ?_,fun i hi=>by rw[tP,if_neg (by omega),eC1,tP,if_neg (by omega)]⟩
 · simp only[I]at *
   simp [AP.f41L1,aK,au,aM,ai,ah,bp,aX,ha1,hld,hN,hn1,hx,bk.get,g1,hw,hw2,hfb,hs1,dC,dK,km,aR,H.aV,bU.aN,b1,b2,hal,g2,←eh1,hal2,q1,hb2,hs2,hfl2,hv'.1,hv'.2]
 · refine⟨by rw[H.dh,if_pos rfl,hb2];rfl,by simp;rw[q3,hfl1,bk.fl],bk.fb,by simp;omega,fun id hid=> ?_,fun m hm=> ?_,fun m hm=> ?_,fun m hm=> ?_,fun m k hm hk hne i hi=> ?_⟩
   · have hfb':=bk.fb
     have hfl':=bk.fl
     rw[H.dh,if_neg (by omega),q5 id ?_ (by omega),hlo1 id (by omega) (by omega),bk.low id hid]
     intro hi
     rcases bk.own n hn with ⟨e,_⟩|⟨k,e,_,q⟩
     · rw[e]at hi;cases hi
     · rw[e]at hi;cases hi;have:=q.1;omega
   · rw[tP,if_neg (by omega),eC1,tP,yO]
     by_cases e:m=n
     · subst e;rw[if_pos rfl,if_pos ⟨by omega,rfl⟩];simp
     · rw[if_neg (by omega),bk.Ii m hm,if_neg (by omega)];simp
   · have hm32:tP C1 (32+n) v' (32+m)=if m=n then v' else C (32+m):=by
      simp only[tP]
      by_cases e:m=n
      · rw[if_pos (by omega),if_pos e]
      · rw[if_neg (by omega),if_neg e,eC1,tP,if_neg (by omega)]
     rw[hm32,zw]
     by_cases e:m=n
     · subst e
       rw[if_pos rfl,if_pos ⟨by omega,rfl⟩,py]
       refine q2.mono (by simp) fun i hi=> ?_
       rw[H.dh,if_neg]
       intro e2;subst e2;rw[q6]at hi;cases hi;omega
     · rw[if_neg e,if_neg (by omega),Q8]
       refine(ho1 m hm).mono (by simp;omega) fun i hi=> ?_
       have hlt:=(bk.own m hm).lt hi
       rw[H.dh,if_neg (fun (e2:i=b)=>bk.nb m hm (e2 ▸ hi)),q5 i (bk.JQ m n hm hn e i hi) (by omega)]
   · have hm32:tP C1 (32+n) v' (32+m)=if m=n then v' else C (32+m):=by
      simp only[tP]
      by_cases e:m=n
      · rw[if_pos (by omega),if_pos e]
      · rw[if_neg (by omega),if_neg e,eC1,tP,if_neg (by omega)]
     rw[hm32]
     by_cases e:m=n
     · rw[if_pos e,q6];intro e2;cases e2;omega
     · rw[if_neg e];exact bk.nb m hm
   · have hm32:∀m,tP C1 (32+n) v' (32+m)=if m=n then v' else C (32+m):=fun m=>by
      simp only[tP]
      by_cases e:m=n
      · rw[if_pos (by omega),if_pos e]
      · rw[if_neg (by omega),if_neg e,eC1,tP,if_neg (by omega)]
     rw[hm32]at hi ⊢
     by_cases e:m=n
     · rw[if_pos e,q6]at hi
       cases hi
       rw[if_neg (by omega)]
       intro e2;have:=(bk.own k hk).lt e2;omega
     · rw[if_neg e]at hi
       by_cases e3:k=n
       · rw[if_pos e3,q6];intro e2;cases e2;have:=(bk.own m hm).lt hi;omega
       · rw[if_neg e3];exact bk.JQ m k hm hk hne i hi
set_option maxHeartbeats 1000000 in
theorem H2 (h0 h:H) (b:Nat) (C:Nat→AV) (p:List Int) (x:AV) (N:Int) (bk:Bk h0 h b C p) (hp:p.length<100000) (hel:∃a,fG 1 x (I p.length)=some a∧∀g:H,(∀id c,h0.get id=some c→g.get id=some c)→bQ false 1 a g=some (I 0)) (hN:(p.length:Int)<N):
 aK (aQ AP.A) br AP.f41L1 [(3,.aC b 0),(10,x),(11,I N),(12,I p.length)] h=some (.normal,[(3,.aC b 0),(10,x),(11,I N),(12,I (p.length+1))],h)∧Bk h0 h b C (p++[0]):=by
 obtain⟨a,ha1,ha2⟩:=hel
 have hlow:∀id c,h0.get id=some c→h.get id=some c:=fun id c q=>by rw[bk.low id (h0.lt id c q)];exact q
 have hld:=ha2 h hlow
 have hw2:IntKind.wrap .i64 ((p.length:Int)+1)=p.length+1:=tw (by omega) (by omega)
 refine⟨?_,⟨bk.get,bk.fl,bk.fb,bk.nx,bk.low,fun n hn=> ?_,fun n hn=> ?_,bk.nb,bk.JQ⟩⟩
 · simp only[I]at *
   simp [AP.f41L1,aK,au,aM,ai,ah,ha1,hld,hN,hw2]
 · rw[bk.Ii n hn,yO,if_neg (by omega)];simp
 · have:=bk.own n hn
   rw[zw,if_neg (by omega),Q8];exact this
theorem Dy (h0 : H) (b : Nat) (x : AV) (l : List Int) (hl : l.length < 100000) (hr : ∀ y ∈ l, 0 ≤ y ∧ y < 16) (hx : Rd h0 x (ints l)) : ∀ (m : Nat) (p q : List Int) (C : Nat → AV) (h : H), l = p ++ q → q.length = m → Bk h0 h b C p →
 ∃h' C' e',Lp AP.A [3,10,11,12] AP.f41L1 [(3,.aC b 0),(10,x),(11,I l.length),(12,I p.length)] h=some (.exit 0,e',h')∧look e' 3=.aC b 0∧Bk h0 h' b C' l∧∀i,(i<16∨i=48)→C' i=C i
 | 0, p, [], C, h, hpq, _, bk => by
   refine⟨h,C, ?_⟩
   have:l=p:=by simpa using hpq
   subst this
   refine⟨_,sV (e':=[(3,.aC b 0),(10,x),(11,I l.length),(12,I l.length),(13,.bool false)]) ?_,rfl,bk,fun _ _=>rfl⟩
   simp [AP.f41L1,aK,au,ai,ah,I]
 | m + 1, p, y :: q, C, h, hpq, hm, bk => by
   have hmem:y∈l:=by rw[hpq];simp
   obtain⟨h1,h2⟩:=hr y hmem
   have hget:l[p.length]?=some y:=by rw[hpq];simp
   have hel:=hx.elem (sB hget)
   have hlen:p.length<l.length:=(uD.1 hget).1
   obtain⟨n,rfl⟩:=QX h1
   have next:∃h' C',aK (aQ AP.A) br AP.f41L1 [(3,.aC b 0),(10,x),(11,I l.length),(12,I p.length)] h=some (.normal,[(3,.aC b 0),(10,x),(11,I l.length),(12,I (p.length+1))],h')∧Bk h0 h' b C' (p++[(n:Int)])∧∀i,(i<16∨i=48)→C' i=C i:=by
    by_cases hn:n=0
    · subst hn
      have z:=H2 h0 h b C p x l.length bk (by omega) hel (by omega)
      exact⟨h,C,z.1,z.2,fun _ _=>rfl⟩
    · exact H0 h0 h b C p n x l.length bk (by omega) (by omega) (by omega) hel (by omega)
   obtain⟨h',C',s1,bk',hC'⟩:=next
   have ih:=Dy h0 b x l hl hr hx m (p++[(n:Int)]) q C' h' (by rw[hpq];simp) (by simpa using hm) bk'
   obtain⟨h2,C2,e2,k1,k2,k3,k4⟩:=ih
   exact⟨h2,C2,e2,sW s1 (by simpa using k1),k2,k3,fun i hi=>by rw[k4 i hi,hC' i hi]⟩
def vk (l:List Int):Nat→Int
 |0=>0
 |n+1=>(vk l n+wz l n)* 2
def vr (l:List Int):Nat→Int
 |0=>1
 |n+1=>vr l n* 2-wz l (n+1)
theorem AM {l:List Int} (hl:l.length<100000) (n:Nat):0≤vk l n∧vk l n≤200000* 2^n-200000:=by
 induction n with
 |zero=>simp [vk]
 |succ n ih=>have:=zJ l n;simp only[vk,Int.pow_succ];omega
theorem I6 {l:List Int} (hl:l.length<100000) (n:Nat): -(200000* 2^n-100000)≤vr l n∧vr l n≤2^n:=by
 induction n with
 |zero=>simp [vr]
 |succ n ih=>have:=zJ l (n+1);simp only[vr,Int.pow_succ];omega
theorem A3 {m:Nat} (hm:m≤15):(2:Int)^m≤32768:=by
 have h:(2:Nat)^m≤2^15:=Q7 (by omega) hm
 have h2:((2^m:Nat):Int)≤((2^15:Nat):Int):=Int.ofNat_le.2 h
 simpa using h2
theorem Bk.put {h0 h:H} {b:Nat} {C:Nat→AV} {p:List Int} (bk:Bk h0 h b C p) {i:Nat} (hi:i<16∨i=48) (v:AV):Bk h0 (h.set b (nh 49 (tP C i v))) b (tP C i v) p:=by
 have c:∀j,16≤j→j<48→tP C i v j=C j:=fun j h1 h2=>by rw[tP,if_neg (by omega)]
 have hbn:b<h.next:=h.lt _ _ bk.get
 refine⟨by rw[H.dh,if_pos rfl,bk.get];rfl,by simp [bk.fl],bk.fb,by simp [bk.nx],fun id hid=> ?_,fun n hn=> ?_,fun n hn=> ?_,fun n hn=> ?_,fun n m hn hm hne k hk=> ?_⟩
 · have:=bk.fb
   rw[H.dh,if_neg (by omega)];exact bk.low id hid
 · rw[c _ (by omega) (by omega)];exact bk.Ii n hn
 · rw[c _ (by omega) (by omega)]
   refine(bk.own n hn).mono (by simp) fun k hk=> ?_
   rw[H.dh,if_neg];intro (e:k=b);exact bk.nb n hn (e ▸ hk)
 · rw[c _ (by omega) (by omega)];exact bk.nb n hn
 · rw[c _ (by omega) (by omega)]at hk ⊢;exact bk.JQ n m hn hm hne k hk
set_option maxHeartbeats 1000000 in
theorem Gp (h0 h:H) (b:Nat) (C:Nat→AV) (l:List Int) (m:Nat) (bk:Bk h0 h b C l) (hl:l.length<100000) (hm:m<15) (hc:C 48=I (vr l m)):
 aK (aQ AP.A) br AP.f41L0 [(3,.aC b 0),(6,I (vk l m)),(7,I (m+1))] h=
  some (.normal,[(3,.aC b 0),(6,I (vk l (m+1))),(7,I (m+1+1))],(h.set b (nh 49 (tP C (m+1) (I (vk l (m+1)))))).set b (nh 49 (tP (tP C (m+1) (I (vk l (m+1)))) 48 (I (vr l (m+1)))))):=by
 have hp:=A3 (m:=m) (by omega)
 have hf:=AM hl m
 have hlf:=I6 hl m
 have c1:=zJ l m
 have c2:=zJ l (m+1)
 have w1:IntKind.wrap .i64 (m:Int)=m:=tw (by omega) (by omega)
 have w2:IntKind.wrap .i64 (vk l m+wz l m)=vk l m+wz l m:=tw (by omega) (by omega)
 have w3:IntKind.wrap .i64 ((vk l m+wz l m)* 2)=vk l (m+1):=tw (by omega) (by omega)
 have w4:IntKind.wrap .i64 (vr l m* 2)=vr l m* 2:=tw (by omega) (by omega)
 have w5:IntKind.wrap .i64 (vr l m* 2-wz l (m+1))=vr l (m+1):=tw (by omega) (by omega)
 have w6:IntKind.wrap .i64 ((m:Int)+1+1)=m+1+1:=tw (by omega) (by omega)
 have x1:cJ (I m) 16=some m:=j3 (by omega)
 have x2:cJ (I (m+1)) 16=some (m+1):=j3 (i:=m+1) (by omega)
 have g1:(nh 49 C)[16+m]?=some (I (wz l m)):=by rw[fE (by omega),bk.Ii m (by omega)]
 obtain⟨C1,e1⟩:∃D,D=tP C (m+1) (I (vk l (m+1))):=⟨_,rfl⟩
 have s1:(nh 49 C).set (m+1) (I (vk l (m+1)))=nh 49 C1:=by rw[e1];exact tv (by omega) _
 have g2:(nh 49 C1)[16+(m+1)]?=some (I (wz l (m+1))):=by rw[fE (by omega),e1,tP,if_neg (by omega),bk.Ii (m+1) (by omega)]
 have g3:(nh 49 C1)[48]?=some (I (vr l m)):=by rw[fE (by omega),e1,tP,if_neg (by omega),hc]
 have g4:C1 48=I (vr l m):=by rw[e1,tP,if_neg (by omega),hc]
 have s2:(nh 49 C1).set 48 (I (vr l (m+1)))=nh 49 (tP C1 48 (I (vr l (m+1)))):=tv (by omega) _
 have hfb:h.floor≤b:=by rw[bk.fl];exact bk.fb
 have ge:(h.set b (nh 49 C1)).get b=some (nh 49 C1):=by rw[H.dh,if_pos rfl,bk.get];rfl
 have b1:m+1≤48:=by omega
 have b3:m≤47:=by omega
 have b4:m≤14:=by omega
 have b2:(m:Int)+1≤15:=by omega
 rw[←e1]
 simp only[I]at *
 simp [AP.f41L0,aK,au,aM,ai,ah,bk.get,w1,w2,w3,w4,w5,w6,x1,x2,g1,g2,g3,g4,s1,s2,hfb,ge,b1,b2,b3,b4]
theorem Cv (h0:H) (b:Nat) (l:List Int) (hl:l.length<100000):∀(k m:Nat) (C:Nat→AV) (h:H),m+k=15→Bk h0 h b C l→C 48=I (vr l m)→(∀i,i≤m→C i=I (vk l i))→
 ∃h' C' e',Lp AP.A [3,6,7] AP.f41L0 [(3,.aC b 0),(6,I (vk l m)),(7,I (m+1))] h=some (.exit 2,e',h')∧look e' 3=.aC b 0∧Bk h0 h' b C' l∧C' 48=I (vr l 15)∧∀i,i≤15→C' i=I (vk l i)
 | 0, m, C, h, hk, bk, hc, hf => by
   obtain rfl:m=15:=by omega
   refine⟨h,C,[(3,.aC b 0),(6,I (vk l 15)),(7,I 16),(45,.bool false)],sV ?_,rfl,bk,hc,hf⟩
   have e:((15:Nat):Int)+1=16:=rfl
   rw[e]
   simp [AP.f41L0,aK,au,ai,ah,I]
 | k + 1, m, C, h, hk, bk, hc, hf => by
   have st:=Gp h0 h b C l m bk hl (by omega) hc
   have bk1:=(bk.put (i:=m+1) (.inl (by omega)) (I (vk l (m+1)))).put (i:=48) (.inr rfl) (I (vr l (m+1)))
   obtain⟨h',C',e',k1,k2⟩:=Cv h0 b l hl k (m+1) _ _ (by omega) bk1 (by simp [tP]) (fun i hi=>by
    rw[tP,if_neg (by omega),tP]
    by_cases e:i=m+1
    · rw[if_pos e,e]
    · rw[if_neg e];exact hf i (by omega))
   exact⟨h',C',e',sW st (by simpa using k1),k2⟩
def yJ (l:List AV):AV:=if l=[]then .aO else .aU false l 0 l.length 1
def wq (l:List Int):Nat→AV:=fun i=>if i<16 then I (vk l i)else if i<32 then I (wz l (i-16))else if i<48 then yJ (ints (syms l (i-32)))else I (vr l 15)
def vy (l:List Int):AV:=.aJ (nh 49 (wq l)) 0
theorem Ki {f:AV→Option AV} {C D:Nat→AV}:∀(n:Nat),(∀i,i<n→f (C i)=some (D i))→fw f (nh n C)=some (nh n D):=by
 have key:∀(l:List Nat),(∀i∈l,f (C i)=some (D i))→fw f (l.map C)=some (l.map D):=by
  intro l
  induction l with
  |nil=>intro _;rfl
  |cons i l ih=>intro h;simp [fw,h i (by simp),ih (fun j hj=>h j (by simp [hj]))]
 exact fun n h=>key _ fun i hi=>h i (List.mem_range.1 hi)
theorem wZ (g:Nat→Option (List AV)) (fl n:Nat) (t:Bool):∀l:List Int,fw (snap g fl (n+1) t) (ints l)=some (ints l)
 |[]=>rfl
 | x :: l => by
   have:=wZ g fl n t l
   simp only[ints,QY,fw]at this ⊢
   rw[this];rfl
theorem Ju {h:H} {v:AV} {cs:List AV} {fl n:Nat} (o:ng h v cs) (hf:fl≤h.floor) (hm:fw (snap h.get fl (n+1) false) cs=some cs):snap h.get fl (n+2) false v=some (yJ cs):=by
 rcases o with ⟨rfl,rfl⟩|⟨id,rfl,hg,hfl,hne⟩
 · rfl
 · have h1:¬id<fl:=by omega
   simp only[snap,if_neg h1,hg,uE,uM,Nat.mul_one,Ra,List.take_length,uH,if_true,hm,yJ,if_neg hne]
def C0:Nat→AV:=fun i=>if i<32 then I 0 else if i<48 then .aO else I 1
set_option maxHeartbeats 1000000 in
theorem yW (h : H) (x : AV) (l : List Int) (hl : l.length < 100000) (hr : ∀ y ∈ l, 0 ≤ y ∧ y < 16) (hx : Rd h x (ints l)) : aQ AP.A 41 [x] h = some (vy l, h) := by
 have hb0:Bk h (h.dJ.alloc (nh 49 C0)) h.next C0 []:=by
  refine⟨by simp [H.aV],by simp,uH _,by simp,fun id hid=> ?_,fun n hn=> ?_,fun n hn=> ?_,fun n hn=> ?_,fun n m hn hm hne i hi=> ?_⟩
  · rw[H.aV,if_neg (by simp;omega)];rfl
  · simp only[C0,wz,List.countP_nil];rw[if_pos (by omega)];simp
  · simp only[C0];rw[if_neg (by omega),if_pos (by omega)]
    exact .inl ⟨rfl,by unfold syms;split<;>rfl⟩
  · simp only[C0];rw[if_neg (by omega),if_pos (by omega)];exact nofun
  · simp only[C0]at hi;rw[if_neg (by omega),if_pos (by omega)]at hi;cases hi
 obtain⟨h1,D1,e1,k1,k2,bk1,k3⟩:=Dy h h.next x l hl hr hx l.length [] l C0 _ rfl rfl hb0
 obtain⟨h2,D2,e2,k4,k5,bk2,k6,k7⟩:=Cv h h.next l hl 15 0 D1 h1 rfl bk1 (by rw[k3 48 (.inr rfl)];rfl) (fun i hi=>by
  obtain rfl:i=0:=by omega
  rw[k3 0 (.inl (by omega))];rfl)
 have kx:aK (aQ AP.A) br AP.f41.body (params 0 [x]) h.dJ=some (.ret,[(2,.aC h.next 0)],h2):=by
  unfold AP.f41
  refine ub (e1:=[(0,x)]) (h1:=h.dJ) rfl ?_
  refine ub (e1:=[(0,x),(3,.aC h.next 0)]) (h1:=h.dJ.alloc (nh 49 C0)) rfl ?_
  refine ub (e1:=[(3,.aC h.next 0)]) (h1:=h1) ?_ ?_
  · refine ub (e1:=[(3,.aC h.next 0),(10,x),(11,I l.length),(12,I 0)]) (h1:=h.dJ.alloc (nh 49 C0)) ?_ ?_
    · simp [aK,au,ai,ah,hx.len,I]
    · have:=pW (k:=[3]) k1
      simp only[qR,ru,k2]at this
      exact this
  refine ub (e1:=[(3,.aC h.next 0),(6,I 0)]) (h1:=h1) rfl ?_
  refine ub (e1:=[(3,.aC h.next 0)]) (h1:=h2) ?_ ?_
  · refine ub (e1:=[(3,.aC h.next 0),(6,I 0),(7,I 1)]) (h1:=h1) rfl ?_
    have:=pW (k:=[3]) k4
    simp only[qR,ru,k5]at this
    exact this
  exact ub (e1:=[(2,.aC h.next 0)]) (h1:=h2) rfl rfl
 have hsn:snap h2.get h.next 16 true (.aC h.next 0)=some (vy l):=by
  have hm:fw (snap h2.get h.next 15 false) (nh 49 D2)=some (nh 49 (wq l)):=by
   refine Ki 49 fun i hi=> ?_
   by_cases c1:i<16
   · rw[k7 i (by omega),wq,if_pos c1];rfl
   by_cases c2:i<32
   · have:=bk2.Ii (i-16) (by omega)
     rw[show 16+(i-16)=i by omega]at this
     rw[this,wq,if_neg c1,if_pos c2];rfl
   by_cases c3:i<48
   · have:=bk2.own (i-32) (by omega)
     rw[show 32+(i-32)=i by omega]at this
     rw[wq,if_neg c1,if_neg c2,if_pos c3]
     exact Ju (n:=13) this (by rw[bk2.fl];exact uH _) (wZ _ _ _ _ _)
   · obtain rfl:i=48:=by omega
     rw[k6,wq,if_neg c1,if_neg c2,if_neg c3];rfl
  simp only[snap,if_neg (Nat.lt_irrefl _),bk2.get,uE,hm,vy]
 exact tL (fn:=AP.f41) rfl rfl rfl kx rfl hsn
theorem xG (w n:Nat) (h:n<2^w):(BitVec.ofInt w (n:Int)).toNat=n:=by
 rw[BitVec.ofInt_natCast,BitVec.toNat_ofNat,Nat.mod_eq_of_lt h]
theorem u7 {n:Nat} (h:n<9223372036854775808):IntKind.wrap .i64 (n:Int)=n:=tw (by omega) (by omega)
theorem wrap_u8 {n:Nat} (h:n<256):IntKind.wrap .u8 (n:Int)=n:=by
 have e:IntKind.wrap .u8 (n:Int)=(n:Int)%256:=by simp [IntKind.wrap,IntKind.bits,IntKind.signed]
 rw[e];omega
theorem JZ {a b:Nat} (ha:a<9223372036854775808) (hb:b<9223372036854775808):bits .or .i64 (a:Int) (b:Int)=((a|||b:Nat):Int):=by
 have h1:a<2^63:=by simpa using ha
 have h2:b<2^63:=by simpa using hb
 have h3:a|||b<2^63:=Nat.or_lt_two_pow h1 h2
 show IntKind.wrap .i64 (((BitVec.ofInt 64 (a:Int)|||BitVec.ofInt 64 (b:Int)).toNat:Nat):Int)=_
 rw[BitVec.toNat_or,xG 64 a (by omega),xG 64 b (by omega)]
 exact u7 (by simpa using h3)
theorem HG {a b:Nat} (ha:a<256) (hb:b<256):bits .and .u8 (a:Int) (b:Int)=((a&&&b:Nat):Int):=by
 have h3:a&&&b<2^8:=Nat.and_lt_two_pow _ (by simpa using hb)
 show IntKind.wrap .u8 (((BitVec.ofInt 8 (a:Int)&&&BitVec.ofInt 8 (b:Int)).toNat:Nat):Int)=_
 rw[BitVec.toNat_and,xG 8 a (by omega),xG 8 b (by omega)]
 exact wrap_u8 (by simpa using h3)
theorem Jc {x b i:Nat} (hx:x<2^i):x|||b* 2^i=x+b* 2^i:=by
 have:=Nat.two_pow_add_eq_or_of_lt hx b
 rw[Nat.or_comm,Nat.mul_comm b,←this,Nat.add_comm]
@[simp] theorem Ir {k j : IntKind} {a b : Int} : bn .shr (.int k a) (.int j b) = oV .shr k a b := rfl
@[simp] theorem Iq {k j : IntKind} {a b : Int} : bn .shl (.int k a) (.int j b) = oV .shl k a b := rfl
attribute [go_sem] Iq Ir
theorem Ny {a s:Nat} (hs:s≤8):oV .shr .u8 (a:Int) (s:Int)=some (.int .u8 ((a/2^s:Nat):Int)):=by
 unfold oV
 rw[if_neg (by omega)]
 simp only[IntKind.bits,Int.toNat_natCast,Nat.min_eq_left hs]
 congr 2
 rw[Int.fdiv_eq_ediv_of_nonneg _ (Int.pow_nonneg (by omega))]
 simp
theorem AF {a s:Nat} (hs:s≤64) (h:a* 2^s<9223372036854775808):oV .shl .i64 (a:Int) (s:Int)=some (.int .i64 ((a* 2^s:Nat):Int)):=by
 unfold oV
 rw[if_neg (by omega)]
 simp only[IntKind.bits,Int.toNat_natCast,Nat.min_eq_left hs]
 congr 2
 rw[←u7 h];simp
def wK (s:ByteArray) (p:Nat):Nat:=((s[p/8]?).map (·.toNat)).getD 0/2^(p%8)%2
theorem EL (s:ByteArray) (p:Nat):wK s p≤1:=by unfold wK;omega
def vi (s:ByteArray) (p:Nat):Nat→Nat
 |0=>0
 |n+1=>vi s p n+wK s (p+n)* 2^n
theorem wH (s:ByteArray) (p:Nat):∀n,vi s p n<2^n
 |0=>by simp [vi]
 | n + 1 => by
   have h:=wH s p n
   have b:=EL s (p+n)
   have hb:wK s (p+n)=0∨wK s (p+n)=1:=by omega
   rw[vi,Nat.pow_succ]
   rcases hb with hb|hb<;>rw[hb]<;>omega
theorem za (l:List Int) (n:Nat):(syms l n).length=wz l n:=by
 have key:∀(l:List Int) (k:Nat),((l.zipIdx k).filterMap fun p=>if p.1=(n:Int)then some (p.2:Int)else none).length=l.countP (fun x=>x==(n:Int)):=by
  intro l
  induction l with
  |nil=>intro k;rfl
  | cons x l ih =>
    intro k
    rw[List.zipIdx_cons,List.filterMap_cons,List.countP_cons]
    by_cases h:x=(n:Int)
    · simp only[if_pos h,QQ,ih (k+1)];simp [h]
    · simp only[if_neg h,ih (k+1)];simp [h]
 unfold syms wz
 split
 · rfl
 · exact key l 0
def wW (l:List Int) (n:Nat) (v:Int):Option Int:=if vk l n≤v then(syms l n)[(v-vk l n).toNat]? else none
set_option maxHeartbeats 1000000 in
theorem Ml (h:H) (l:List Int) (hl:l.length<100000) (n:Nat) (hn1:1≤n) (hn:n≤15) (v:Int) (hv0:0≤v) (hv:v<1000000):
 aQ AP.A 72 [vy l,I n,I v] h=some (match wW l n v with|some y=>.bM [I y,.bool true]|none=>.bM [I 0,.bool false],h):=by
 have hp:=A3 hn
 have hf:=AM hl n
 have hc:=zJ l n
 have hsc:=za l n
 have c1:¬((n:Int)<1):=by omega
 have c2:¬(15:Int)<n:=by omega
 have a1:cJ (I n) 16=some n:=j3 (by omega)
 have e1:wq l n=I (vk l n):=by rw[wq,if_pos (by omega)]
 have e2:wq l (16+n)=I (wz l n):=by rw[wq,if_neg (by omega),if_pos (by omega),show 16+n-16=n by omega]
 have e3:wq l (32+n)=yJ (ints (syms l n)):=by rw[wq,if_neg (by omega),if_neg (by omega),if_pos (by omega),show 32+n-32=n by omega]
 have g1:(nh 49 (wq l))[n]?=some (I (vk l n)):=by rw[fE (by omega),e1]
 have g2:(nh 49 (wq l))[16+n]?=some (I (wz l n)):=by rw[fE (by omega),e2]
 have g3:(nh 49 (wq l))[32+n]?=some (yJ (ints (syms l n))):=by rw[fE (by omega),e3]
 have hb:vy l=.aJ (nh 49 (wq l)) 0:=rfl
 rw[hb]
 clear hb e1 e2 e3
 generalize nh 49 (wq l)=T at g1 g2 g3 ⊢
 by_cases k1:v<vk l n
 · have:wW l n v=none:=by rw[wW,if_neg (by omega)]
   rw[this]
   refine tq (fn:=AP.f72) (e:=[(6,I 0),(7,.bool false)]) rfl rfl rfl ?_ rfl
   simp only[I]at *
   simp only[AP.f72,go_sem,QT c1,QT c2,a1,g1,QV k1]
 have w1:IntKind.wrap .i64 (v-vk l n)=v-vk l n:=tw (by omega) (by omega)
 by_cases k2:(wz l n:Int)≤v-vk l n
 · have:wW l n v=none:=by rw[wW,if_pos (by omega),Q3 (by omega)]
   rw[this]
   refine tq (fn:=AP.f72) (e:=[(6,I 0),(7,.bool false)]) rfl rfl rfl ?_ rfl
   simp only[I]at *
   simp only[AP.f72,go_sem,QT c1,QT c2,a1,g1,g2,QT k1,w1,QV k2]
 · obtain⟨i,hi⟩:∃i:Nat,v-vk l n=i:=QX (by omega)
   have hil:i<(syms l n).length:=by omega
   obtain⟨y,hy⟩:∃y,(syms l n)[i]?=some y:=⟨_,QR hil⟩
   have:wW l n v=some y:=by rw[wW,if_pos (by omega),hi,Int.toNat_natCast,hy]
   rw[this]
   have hne:ints (syms l n)≠[]:=by intro e;have:=Rt List.length e;simp at this;simp [this]at hil
   have hs:yJ (ints (syms l n))=.aU false (ints (syms l n)) 0 (ints (syms l n)).length 1:=by rw[yJ,if_neg hne]
   rw[hs]at g3
   have a2:fG 1 (.aU false (ints (syms l n)) 0 (ints (syms l n)).length 1) (I i)=some (.aJ (ints (syms l n)) i):=by
    simp [fG,j3 (show i<(syms l n).length from hil)]
   have g4:=sB hy
   rw[hi]at w1 k2
   refine tq (fn:=AP.f72) (e:=[(6,I y),(7,.bool true)]) rfl rfl rfl ?_ rfl
   simp only[I]at *
   simp only[AP.f72,go_sem,QT c1,QT c2,a1,g1,g2,QT k1,hi,w1,QT k2,g3,a2,g4]
attribute [local congr] sX
theorem yo (a b:Nat):Int.tdiv (a:Int) (b:Int)=((a/b:Nat):Int):=by simp
theorem CR (a b:Nat):Int.tmod (a:Int) (b:Int)=((a%b:Nat):Int):=by rw[Int.tmod_eq_emod_of_nonneg (by omega)];simp
theorem J3 {s:ByteArray} {i:Nat} (h:i<s.size):∃b:UInt8,s[i]?=some b:=⟨s[i],by simp [h]⟩
set_option maxHeartbeats 1000000 in
theorem IW (h:H) (r:Nat) (s:ByteArray) (p x i n:Nat) (hg:h.get r=some [.str s,I p]) (hf:h.floor≤r) (hp:p<8* s.size) (hs:s.size<1125899906842624) (hx:x<2^i) (hi:i<n) (hn:n≤16):
 aK (aQ AP.A) br AP.f58L0 [(0,.aC r 0),(6,I x),(32,I n),(33,I i)] h=some (.normal,[(0,.aC r 0),(6,I (x+wK s p* 2^i:Nat)),(32,I n),(33,I (i+1:Nat))],h.set r [.str s,I (p+1:Nat)]):=by
 obtain⟨b,hb⟩:=J3 (s:=s) (i:=p/8) (by omega)
 have hb8:b.toNat<256:=b.toNat_lt
 have hbit:wK s p=b.toNat/2^(p%8)%2:=by simp [wK,hb]
 have t1:Int.tdiv (p:Int) 8=((p/8:Nat):Int):=yo p 8
 have t2:Int.tmod (p:Int) 8=((p%8:Nat):Int):=CR p 8
 have w1:IntKind.wrap .i64 ((p/8:Nat):Int)=((p/8:Nat):Int):=u7 (by omega)
 have a1:cJ (I (p/8:Nat)) s.size=some (p/8):=j3 (by omega)
 have s1:oV .shr .u8 (b.toNat:Int) ((p%8:Nat):Int)=some (.int .u8 ((b.toNat/2^(p%8):Nat):Int)):=Ny (by omega)
 have hlt:b.toNat/2^(p%8)<256:=Nat.lt_of_le_of_lt (Nat.div_le_self _ _) hb8
 have n1:bits .and .u8 ((b.toNat/2^(p%8):Nat):Int) 1=((wK s p:Nat):Int):=by
  have:=HG (b:=1) hlt (by omega)
  rw[Nat.and_one_is_mod]at this
  rw[hbit];exact this
 have hbl:=EL s p
 have w2:IntKind.wrap .i64 ((wK s p:Nat):Int)=((wK s p:Nat):Int):=u7 (by omega)
 have hpow:(2:Nat)^i≤2^16:=Q7 (by omega) (by omega)
 have hmul:wK s p* 2^i≤2^i:=by
  have:=uK (2^i) hbl;simpa using this
 have s2:oV .shl .i64 ((wK s p:Nat):Int) (i:Int)=some (.int .i64 ((wK s p* 2^i:Nat):Int)):=AF (by omega) (by omega)
 have o1:bits .or .i64 (x:Int) ((wK s p* 2^i:Nat):Int)=((x+wK s p* 2^i:Nat):Int):=by
  rw[JZ (by omega) (by omega),Jc hx]
 have w3:IntKind.wrap .i64 ((p:Int)+1)=((p+1:Nat):Int):=u7 (n:=p+1) (by omega)
 have w4:IntKind.wrap .i64 ((i:Int)+1)=((i+1:Nat):Int):=u7 (n:=i+1) (by omega)
 generalize hB:wK s p=B at *
 generalize hD:b.toNat/2^(p%8)=D at *
 generalize hE:p/8=E at *
 generalize hF:p%8=F at *
 generalize hO:x+B* 2^i=O at *
 generalize hM:B* 2^i=W at *
 simp only[I]at *
 simp [AP.f58L0,aK,au,aM,ai,ah,hg,rG,rH,t1,t2,w1,lN,a1,hb,s1,n1,w2,s2,o1,w3,w4,hi,hf]
theorem E7 (r:Nat) (s:ByteArray) (p n:Nat) (hs:s.size<1125899906842624) (hp:p+n≤8* s.size) (hn:n≤16):∀(k i:Nat) (h:H),i+k=n→h.get r=some [.str s,I (p+i:Nat)]→h.floor≤r→
 ∃e',Lp AP.A [0,6,32,33] AP.f58L0 [(0,.aC r 0),(6,I (vi s p i:Nat)),(32,I n),(33,I i)] h=some (.exit 1,e',h.set r [.str s,I (p+n:Nat)])∧look e' 6=I (vi s p n:Nat)
 | 0, i, h, hk, hg, hf => by
   obtain rfl:i=n:=by omega
   refine⟨[(0,.aC r 0),(6,I (vi s p i:Nat)),(32,I i),(33,I i),(34,.bool false)],sV ?_,rfl⟩
   rw[H.jr hg]
   simp [AP.f58L0,aK,au,ai,ah,I]
 | k + 1, i, h, hk, hg, hf => by
   have st:=IW h r s (p+i) (vi s p i) i n hg hf (by omega) hs (wH s p i) (by omega) hn
   obtain⟨e',k1,k2⟩:=E7 r s p n hs hp hn k (i+1) (h.set r [.str s,I (p+i+1:Nat)]) (by omega) (by rw[H.dh,if_pos rfl,hg];rfl) (by simpa using hf)
   rw[H.set_set]at k1
   exact⟨e',sW st k1,k2⟩
theorem Ng (h:H) (r:Nat) (s:ByteArray) (p n:Nat) (hg:h.get r=some [.str s,I p]) (hf:h.floor≤r) (hs:s.size<1125899906842624) (hp:p+n≤8* s.size) (hn:n≤16):
 aQ AP.A 58 [.aC r 0,I n] h=some (.bM [I (vi s p n:Nat),I 0],h.set r [.str s,I (p+n:Nat)]):=by
 obtain⟨e',k1,k2⟩:=E7 r s p n hs hp hn n 0 h (by omega) hg hf
 have l1:=pW (k:=[6]) k1
 simp only[qR,ru,k2]at l1
 have c0:¬(n:Int)<0:=by omega
 have c1:¬(16:Int)<n:=by omega
 have w1:IntKind.wrap .i64 (8* (s.size:Int))=((8* s.size:Nat):Int):=u7 (n:=8* s.size) (by omega)
 have w2:IntKind.wrap .i64 (((8* s.size:Nat):Int)-p)=((8* s.size-p:Nat):Int):=by
  rw[←Int.ofNat_sub (by omega)];exact u7 (by omega)
 have c2:¬((8* s.size-p:Nat):Int)<n:=by omega
 refine tq (fn:=AP.f58) (e:=[(4,I (vi s p n:Nat)),(5,I 0)]) rfl rfl rfl ?_ rfl
 unfold AP.f58
 refine ub (e1:=[(0,.aC r 0),(1,I n)]) (h1:=h) rfl ?_
 refine ub (e1:=[(0,.aC r 0),(1,I n)]) (h1:=h) ?_ ?_
 · generalize hM:8* s.size-p=W at *
   generalize hM2:8* s.size=W2 at *
   simp only[I]at *
   simp [aK,au,aM,ai,ah,fu,o0,hg,iO,w1,w2,c0,c1,c2]
 refine ub (e1:=[(0,.aC r 0),(1,I n),(6,I 0)]) (h1:=h) rfl ?_
 refine ub (e1:=[(6,I (vi s p n:Nat))]) (h1:=h.set r [.str s,I (p+n:Nat)]) ?_ ?_
 · refine ub (e1:=[(0,.aC r 0),(6,I 0),(32,I n),(33,I 0)]) (h1:=h) rfl ?_
   exact l1
 exact ub (e1:=[(4,I (vi s p n:Nat)),(5,I 0)]) (h1:=h.set r [.str s,I (p+n:Nat)]) rfl rfl
theorem Ke (h:H) (r:Nat) (s:ByteArray) (p n:Nat) (hg:h.get r=some [.str s,I p]) (hs:s.size<1125899906842624) (hp0:p≤8* s.size) (hp:8* s.size<p+n) (hn:n≤16):
 aQ AP.A 58 [.aC r 0,I n] h=some (.bM [I 0,I 101],h):=by
 have c0:¬(n:Int)<0:=by omega
 have c1:¬(16:Int)<n:=by omega
 have w1:IntKind.wrap .i64 (8* (s.size:Int))=((8* s.size:Nat):Int):=u7 (n:=8* s.size) (by omega)
 have w2:IntKind.wrap .i64 (((8* s.size:Nat):Int)-p)=((8* s.size-p:Nat):Int):=by
  rw[←Int.ofNat_sub (by omega)];exact u7 (by omega)
 have c2:((8* s.size-p:Nat):Int)<n:=by omega
 refine tq (fn:=AP.f58) (e:=[(4,I 0),(5,I 101)]) rfl rfl rfl ?_ rfl
 unfold AP.f58
 refine ub (e1:=[(0,.aC r 0),(1,I n)]) (h1:=h) rfl ?_
 refine uc ?_
 generalize hM:8* s.size-p=W at *
 generalize hM2:8* s.size=W2 at *
 simp only[I]at *
 simp [aK,au,aM,ai,ah,fu,o0,hg,iO,w1,w2,c0,c1,c2]
attribute [local congr] sX
theorem vQ {A:bc} {f:Nat} {fn:eZ} {args:List AV} {h h2:H} {e:Env} {vs:List AV} (hf:A f=some fn) (hnp:args.length=fn.np) (hp:fn.pure=false)
 (hx:aK (aQ A) br fn.body (params 0 args) h=some (.normal,e,h2)) (hres:cr e h2 fn.res=some vs):aQ A f args h=some (dc vs,h2):=by
 refine j8 hf ?_
 unfold eX
 rw[if_pos hnp]
 simp [hp,hx,fin,hres]
def xi (l:List Nat):List AV:=l.map fun (b:Nat)=>AV.int .u8 (b:Int)
@[simp] theorem yz (l : List Nat) : (xi l).length = l.length := by simp [xi]
structure SS where
 at_:Nat
 out:List Nat
 e:Int
structure SC where
 s:Nat
 r:Nat
 text:ByteArray
 most:Int
structure St (c:SC) (S:SS) (h:H) (ov:AV):Prop where
 gs:h.get c.s=some [.aC c.r 0,ov,I c.most,I S.e]
 gr:h.get c.r=some [.str c.text,I S.at_]
 own:ng h ov (xi S.out)
 sr:c.s≠c.r
 fs:h.floor≤c.s
 fr:h.floor≤c.r
 os:ov.id?≠some c.s
 or:ov.id?≠some c.r
 nx:h.floor≤h.next
 sz:c.text.size<1125899906842624
 ye:S.at_≤8* c.text.size
 ol:(S.out.length:Int)≤c.most
 ml:c.most≤900000
structure Fr (c:SC) (h:H) (ov:AV) (h':H) (ov':AV):Prop where
 fl:h'.floor=h.floor
 nx:h.next≤h'.next
 F5:∀id,id<h.next→id≠c.s→id≠c.r→ov.id?≠some id→h'.get id=h.get id
 nb:∀i,ov'.id?=some i→ov.id?=some i∨h.next≤i
theorem Fr.refl (c:SC) (h:H) (ov:AV):Fr c h ov h ov:=⟨rfl,uH _,fun _ _ _ _ _=>rfl,fun _ q=>.inl q⟩
theorem Fr.trans {c:SC} {h1 h2 h3:H} {o1 o2 o3:AV} (a:Fr c h1 o1 h2 o2) (b:Fr c h2 o2 h3 o3):Fr c h1 o1 h3 o3:=by
 refine⟨b.fl.trans a.fl,uZ a.nx b.nx,fun id h4 h5 h6 h7=> ?_,fun i hi=> ?_⟩
 · rw[b.F5 id (Nat.lt_of_lt_of_le h4 a.nx) h5 h6 (fun q=> ?_),a.F5 id h4 h5 h6 h7]
   rcases a.nb id q with q|q
   · exact h7 q
   · omega
 · rcases b.nb i hi with q|q
   · exact a.nb i q
   · exact .inr (uZ a.nx q)
theorem St.Pj {c:SC} {S:SS} {h:H} {ov:AV} (st:St c S h ov) (e:Int):St c {S with e:=e} (h.set c.s [.aC c.r 0,ov,I c.most,I e]) ov∧Fr c h ov (h.set c.s [.aC c.r 0,ov,I c.most,I e]) ov:=by
 refine⟨⟨by rw[H.dh,if_pos rfl,st.gs];rfl,by rw[H.dh,if_neg (Ne.symm st.sr)];exact st.gr,st.own.mono (by simp) fun i hi=> ?_,st.sr,by simpa using st.fs,by simpa using st.fr,st.os,st.or,by simpa using st.nx,st.sz,st.ye,st.ol,st.ml⟩,⟨by simp,by simp,fun id h1 h2 h3 h4=>by rw[H.dh,if_neg h2],fun _ q=>.inl q⟩⟩
 rw[H.dh,if_neg];intro (e:i=c.s);exact st.os (e ▸ hi)
theorem St.Nx {c:SC} {S:SS} {h:H} {ov:AV} (st:St c S h ov) {p:Nat} (hp:p≤8* c.text.size):St c {S with at_:=p} (h.set c.r [.str c.text,I p]) ov∧Fr c h ov (h.set c.r [.str c.text,I p]) ov:=by
 refine⟨⟨by rw[H.dh,if_neg st.sr];exact st.gs,by rw[H.dh,if_pos rfl,st.gr];rfl,st.own.mono (by simp) fun i hi=> ?_,st.sr,by simpa using st.fs,by simpa using st.fr,st.os,st.or,by simpa using st.nx,st.sz,hp,st.ol,st.ml⟩,⟨by simp,by simp,fun id h1 h2 h3 h4=>by rw[H.dh,if_neg h3],fun _ q=>.inl q⟩⟩
 rw[H.dh,if_neg];intro (e:i=c.r);exact st.or (e ▸ hi)
def vC (k:Int) (S:SS):SS:=if S.e=0 then {S with e:=k}else S
theorem wO {c:SC} {S:SS} {h:H} {ov:AV} (st:St c S h ov) (k:Int):∃h',aQ AP.A 45 [.aC c.s 0,I k] h=some (.bM [],h')∧St c (vC k S) h' ov∧Fr c h ov h' ov:=by
 have gs:=st.gs
 have fs:=st.fs
 by_cases he:S.e=0
 · refine⟨_, ?_,by rw[vC,if_pos he];exact(st.Pj k).1,(st.Pj k).2⟩
   refine vQ (fn:=AP.f45) (e:=[]) rfl rfl rfl ?_ rfl
   simp only[I]at *
   simp [AP.f45,params,aK,au,ai,ah,gs,he,fs]
 · refine⟨h, ?_,by rw[vC,if_neg he];exact st,Fr.refl _ _ _⟩
   refine vQ (fn:=AP.f45) (e:=[]) rfl rfl rfl ?_ rfl
   simp only[I]at *
   simp [AP.f45,params,aK,au,ai,ah,gs,he,fs]
def u9 (c:SC) (n:Nat) (S:SS):Nat×SS:=if S.at_+n≤8* c.text.size then(vi c.text S.at_ n,{S with at_:=S.at_+n})else(0,vC 700 S)
theorem IV {c:SC} {S:SS} {h:H} {ov:AV} (st:St c S h ov) {n:Nat} (hn:n≤16):∃h',aQ AP.A 38 [.aC c.s 0,I n] h=some (I ((u9 c n S).1:Nat),h')∧St c (u9 c n S).2 h' ov∧Fr c h ov h' ov:=by
 have gs:=st.gs
 by_cases hp:S.at_+n≤8* c.text.size
 · have g:=Ng h c.r c.text S.at_ n st.gr st.fr st.sz hp hn
   refine⟨_, ?_,by rw[u9,if_pos hp];exact(st.Nx hp).1,(st.Nx hp).2⟩
   rw[u9,if_pos hp]
   refine tq (fn:=AP.f38) (e:=[(4,I (vi c.text S.at_ n:Nat))]) rfl rfl rfl ?_ rfl
   simp only[I]at *
   simp [AP.f38,params,aK,au,ai,ah,gs,aW,g]
 · have g:=Ke h c.r c.text S.at_ n st.gr st.sz st.ye (by omega) hn
   obtain⟨h',k1,k2,k3⟩:=wO st 700
   refine⟨h', ?_,by rw[u9,if_neg hp];exact k2,k3⟩
   rw[u9,if_neg hp]
   refine tq (fn:=AP.f38) (e:=[(4,I 0)]) rfl rfl rfl ?_ rfl
   simp only[I]at *
   simp [AP.f38,params,aK,au,ai,ah,gs,aW,g,k1]
def CF (c:SC) (b:Nat) (S:SS):SS:=
 let T:=if c.most≤S.out.length then vC 701 S else S
 if T.e=0 then {T with out:=T.out++[b]}else T
theorem ng.len {h:H} {v:AV} {cs:List AV} (o:ng h v cs):iO false v=some (I cs.length):=by
 rcases o with ⟨rfl,rfl⟩|⟨id,rfl,_⟩<;>rfl
theorem Jl {c : SC} {S : SS} {h : H} {ov : AV} (st : St c S h ov) {b : Nat} : ∃ h' ov', aQ AP.A 59 [.aC c.s 0, .int .u8 b] h = some (.bM [], h') ∧ St c (CF c b S) h' ov' ∧ Fr c h ov h' ov' := by
 have gs0:=st.gs
 have hol:=st.ol
 have hml:=st.ml
 have ln:=st.own.len
 rw[yz]at ln
 by_cases hm:c.most≤S.out.length
 · obtain⟨h1,k1,k2,k3⟩:=wO st 701
   have he:(vC 701 S).e≠0:=by unfold vC;split<;>simp_all
   have hp:CF c b S=vC 701 S:=by unfold CF;simp only[if_pos hm,if_neg he]
   have gs1:=k2.gs
   refine⟨h1,ov, ?_,by rw[hp];exact k2,k3⟩
   refine vQ (fn:=AP.f59) (e:=[]) rfl rfl rfl ?_ rfl
   simp only[I]at *
   simp [AP.f59,params,aK,au,aM,ai,ah,gs0,ln,hm,aW,k1,gs1,he]
 by_cases he:S.e=0
 · have hp:CF c b S={S with out:=S.out++[b]}:=by unfold CF;simp only[if_neg hm,if_pos he]
   have hsl:c.s<h.next:=h.lt _ _ st.gs
   have hrl:c.r<h.next:=h.lt _ _ st.gr
   obtain⟨h1,eh1⟩:∃g,g=h.alloc [.int .u8 b]:=⟨_,rfl⟩
   have hlo1:∀i,i≠h.next→h1.get i=h.get i:=fun i q=>by rw[eh1,H.aV,if_neg q]
   have hfl1:h1.floor=h.floor:=by rw[eh1];simp
   have hnx1:h1.next=h.next+1:=by rw[eh1];simp
   have ho1:ng h1 ov (xi S.out):=st.own.mono hfl1 fun i hi=>hlo1 i (by have:=st.own.lt hi;omega)
   have hnxf:=st.nx
   obtain⟨v',h2,q1,q2,q3,q4,q5,q6⟩:=ho1.app (by omega) (z:=1) (.int .u8 b) rfl (by simp [roomy];omega)
   have hal2:h1.get h.next=some [.int .u8 b]:=by rw[eh1,H.aV,if_pos rfl]
   have gs1:h1.get c.s=some [.aC c.r 0,ov,I c.most,I S.e]:=by rw[hlo1 _ (by omega)];exact st.gs
   have gs2:h2.get c.s=some [.aC c.r 0,ov,I c.most,I S.e]:=by rw[q5 _ st.os (by omega)];exact gs1
   have gr2:h2.get c.r=some [.str c.text,I S.at_]:=by rw[q5 _ st.or (by omega),hlo1 _ (by omega)];exact st.gr
   have fs2:h2.floor≤c.s:=by have:=st.fs;omega
   have hv':v'.cells=[v']∧v'.sc=true:=by
    rcases q2 with ⟨rfl,_⟩|⟨id,rfl,_⟩<;>exact⟨rfl,rfl⟩
   have hby:xi (S.out++[b])=xi S.out++[.int .u8 b]:=by simp [xi]
   refine⟨h2.set c.s [.aC c.r 0,v',I c.most,I S.e],v', ?_, ?_, ?_⟩
   · refine vQ (fn:=AP.f59) (e:=[]) rfl rfl rfl ?_ rfl
     simp only[I]at *
     simp [AP.f59,params,aK,au,aM,ai,ah,bp,aX,dC,dK,km,aR,gs0,ln,hm,he,←eh1,hal2,gs1,q1,gs2,fs2,hv'.1,hv'.2]
   · rw[hp]
     refine⟨by rw[H.dh,if_pos rfl,gs2];rfl,by rw[H.dh,if_neg (Ne.symm st.sr)];exact gr2, ?_,st.sr,by simpa using fs2,by have:=st.fr;simp;omega, ?_, ?_,by simp;omega,st.sz,st.ye,by simp;omega,st.ml⟩
     · rw[hby]
       refine q2.mono (by simp) fun i hi=> ?_
       rw[q6]at hi;cases hi
       rw[H.dh,if_neg (by omega)]
     · rw[q6];intro e;have:=uv e;omega
     · rw[q6];intro e;have:=uv e;omega
   · refine⟨by simp;omega,by simp;omega,fun id a1 a2 a3 a4=> ?_,fun i hi=> ?_⟩
     · rw[H.dh,if_neg a2,q5 id a4 (by omega),hlo1 id (by omega)]
     · rw[q6]at hi;cases hi;right;omega
 · have hp:CF c b S=S:=by unfold CF;simp only[if_neg hm,if_neg he]
   refine⟨h,ov, ?_,by rw[hp];exact st,Fr.refl _ _ _⟩
   refine vQ (fn:=AP.f59) (e:=[]) rfl rfl rfl ?_ rfl
   simp only[I]at *
   simp [AP.f59,params,aK,au,aM,ai,ah,gs0,ln,hm,he]
theorem PC (h:H) (s:ByteArray):aQ AP.A 14 [.str s] h=some (.aC h.next 0,h.alloc [.str s,I 0]):=by
 refine tq (fn:=AP.f14) (e:=[(2,.aC h.next 0)]) rfl rfl rfl ?_ rfl
 have b:aX [(4,.agg [.str s,I 0]),(3,.str s),(0,.str s)] (.box 2 (.t 4))=some ([.str s,I 0],fun i=>.aC i 0):=rfl
 have f:dK [.str ⟨#[]⟩,.int .i64 0] [(0,1,.str s)]=some [.str s,I 0]:=rfl
 simp only[I]at *
 simp only[AP.f14,go_sem,QY,Rw,f,b]
theorem JW (h:H) (r:Nat) (s:ByteArray) (p:Nat) (hg:h.get r=some [.str s,I p]) (hf:h.floor≤r) (hs:s.size<1125899906842624) (hp:p≤8* s.size):
 aQ AP.A 16 [.aC r 0] h=some (I 0,h.set r [.str s,I ((p+7)/8* 8:Nat)]):=by
 refine tq (fn:=AP.f16) (e:=[(2,I 0)]) rfl rfl rfl ?_ rfl
 have w1:IntKind.wrap .i64 ((p:Int)+8)=((p+8:Nat):Int):=u7 (n:=p+8) (by omega)
 have w2:IntKind.wrap .i64 (((p+8:Nat):Int)-1)=((p+7:Nat):Int):=by
  rw[show((p+8:Nat):Int)-1=((p+7:Nat):Int)by omega];exact u7 (by omega)
 have w3:IntKind.wrap .i64 (((p+7:Nat):Int).tdiv 8)=(((p+7)/8:Nat):Int):=by
  rw[show(8:Int)=((8:Nat):Int)from rfl,yo];exact u7 (by omega)
 have w4:IntKind.wrap .i64 ((((p+7)/8:Nat):Int)* 8)=(((p+7)/8* 8:Nat):Int):=by
  rw[show(((p+7)/8:Nat):Int)* 8=(((p+7)/8* 8:Nat):Int)by omega];exact u7 (by omega)
 have st:∀v,tN h r 1 1 [.int .i64 v] (some [.str s,.int .i64 p])=some (h.set r [.str s,.int .i64 v]):=fun v=>ue hf (by simp) rfl
 have q:bn .quo (.int .i64 ((p+7:Nat):Int)) (.int .i64 8)=some (.int .i64 (((p+7)/8:Nat):Int)):=by rw[rG _ _ _ (by omega),w3]
 simp only[I]at *
 simp only[AP.f16,go_sem,hg,w1,w2,q,w4,st]
theorem Ps (h:H) (r:Nat) (s:ByteArray) (p:Nat) (hg:h.get r=some [.str s,I p]):aQ AP.A 17 [.aC r 0] h=some (I p,h):=by
 refine tq (fn:=AP.f17) (e:=[(2,I p)]) rfl rfl rfl ?_ rfl
 simp only[I]at *
 simp only[AP.f17,go_sem,hg]
theorem yh {c:SC} {S:SS} {h:H} {ov:AV} (st:St c S h ov) (n:Nat) (m:Int) (hm:m=n) (hn:n≤16):∃h',aQ AP.A 38 [.aC c.s 0,I m] h=some (I ((u9 c n S).1:Nat),h')∧St c (u9 c n S).2 h' ov∧Fr c h ov h' ov:=by
 subst hm;exact IV st hn
theorem Hy {c:SC} {S:SS} {h:H} {ov:AV} (st:St c S h ov) {n least:Nat} (hn:n≤16) (hl:least<100000):∃h',aQ AP.A 73 [.aC c.s 0,I least,I n,I 0] h=some (I ((least+(u9 c n S).1:Nat)),h')∧St c (u9 c n S).2 h' ov∧Fr c h ov h' ov:=by
 obtain⟨h',k1,k2,k3⟩:=IV st hn
 refine⟨h', ?_,k2,k3⟩
 have hb:(u9 c n S).1<65536:=by
  unfold u9;split
  · have:=wH c.text S.at_ n
    have:=Q7 (show 0<2 by omega) hn
    simp at *;omega
  · simp
 have w:IntKind.wrap .i64 ((least:Int)+((u9 c n S).1:Nat))=((least+(u9 c n S).1:Nat):Int):=by
  rw[show(least:Int)+((u9 c n S).1:Nat)=((least+(u9 c n S).1:Nat):Int)by omega];exact u7 (by omega)
 refine tq (fn:=AP.f73) (e:=[(8,I ((least+(u9 c n S).1:Nat)))]) rfl rfl rfl ?_ rfl
 simp only[I]at *
 simp only[AP.f73,go_sem,k1,w]
theorem DT {c:SC} {S:SS} {h:H} {ov:AV} (st:St c S h ov) (he:S.e=0):∃h' S',aQ AP.A 73 [.aC c.s 0,I 0,I 0,I 600] h=some (I 0,h')∧St c S' h' ov∧Fr c h ov h' ov∧S'.e=700:=by
 obtain⟨h1,k1,k2,k3⟩:=wO st 700
 obtain⟨h',l1,l2,l3⟩:=IV k2 (n:=0) (by omega)
 have hS:vC 700 S={S with e:=700}:=by rw[vC,if_pos he]
 have hle:=st.ye
 have hg:u9 c 0 (vC 700 S)=(0,vC 700 S):=by
  rw[u9,if_pos (by rw[hS];exact hle)];rfl
 rw[hg]at l1 l2
 have l1':aQ AP.A 38 [.aC c.s 0,I 0] h1=some (I 0,h'):=l1
 clear l1
 refine⟨h',_, ?_,l2,k3.trans l3,by rw[hS]⟩
 have w:IntKind.wrap .i64 (0+0)=0:=tw (by omega) (by omega)
 refine tq (fn:=AP.f73) (e:=[(8,I 0)]) rfl rfl rfl ?_ rfl
 simp only[I]at *
 simp only[AP.f73,go_sem,k1,l1',w]
def yn (t:ByteArray) (l:List Int):Nat→Nat→Nat→Nat→Option (Int×Nat)
 |0,_,_,_=>none
 |k+1,n,v,p=>if p+1≤8* t.size then(match wW l n ((v* 2+vi t p 1:Nat):Int)with|some y=>some (y,p+1)|none=>yn t l k (n+1) (v* 2+vi t p 1) (p+1))else none
theorem FV {c:SC} {S:SS} {h:H} {ov:AV} (st:St c S h ov) (l:List Int) (v n:Nat) (hs:n=16∨(n≤15∧S.e≠0)):
 ∃e',Lp AP.A [0,1,5,6] AP.f60L0 [(0,.aC c.s 0),(1,vy l),(5,I v),(6,I n)] h=some (.exit 0,e',h)∧look e' 0=.aC c.s 0:=by
 have gs:=st.gs
 refine⟨[(0,.aC c.s 0),(1,vy l),(5,I v),(6,I n),(17,.bool false)],sV ?_,rfl⟩
 rcases hs with hn|⟨hn,he⟩
 · have c1:¬(n:Int)≤15:=by omega
   simp only[I]at *
   simp only[AP.f60L0,go_sem,QT c1]
 · have c1:(n:Int)≤15:=by omega
   have c2:(S.e==0)=false:=tR he
   simp only[I]at *
   simp only[AP.f60L0,go_sem,QV c1,gs,c2]
theorem FU {c : SC} (l : List Int) (hl : l.length < 100000) : ∀ (k n v : Nat) (S : SS) (h : H) (ov : AV), n + k = 16 → 1 ≤ n → v < 2 ^ (n - 1) → St c S h ov → S.e = 0 →
 ∃ h' S', St c S' h' ov ∧ Fr c h ov h' ov ∧ match yn c.text l k n v S.at_ with
   |some (y,p)=>S'={S with at_:=p}∧∃e',Lp AP.A [0,1,5,6] AP.f60L0 [(0,.aC c.s 0),(1,vy l),(5,I v),(6,I n)] h=some (.ret,e',h')∧look e' 4=I y
   |none=>(S'.e=0∨S'.e=700)∧∃e',Lp AP.A [0,1,5,6] AP.f60L0 [(0,.aC c.s 0),(1,vy l),(5,I v),(6,I n)] h=some (.exit 0,e',h')∧look e' 0=.aC c.s 0
 | 0, n, v, S, h, ov, hk, hn, hv, st, he => by
   obtain⟨e',q1,q2⟩:=FV st l v n (.inl (by omega))
   exact⟨h,S,st,Fr.refl _ _ _,by simp only[yn];exact⟨.inl he,e',q1,q2⟩⟩
 | k + 1, n, v, S, h, ov, hk, hn, hv, st, he => by
   have gs:=st.gs
   obtain⟨h1,k1,k2,k3⟩:=yh st 1 1 rfl (by omega)
   obtain⟨x,hx⟩:∃x,x=(u9 c 1 S).1:=⟨_,rfl⟩
   obtain⟨S1,hS1⟩:∃x,x=(u9 c 1 S).2:=⟨_,rfl⟩
   rw[←hx]at k1;rw[←hS1]at k2
   have hp:2^n≤2^15:=Q7 (by omega) (by omega)
   have h2:2^(n-1+1)=2^(n-1)* 2:=Nat.pow_succ 2 (n-1)
   rw[show n-1+1=n by omega]at h2
   obtain⟨P,hP⟩:∃P:Nat,P=2^(n-1):=⟨_,rfl⟩
   rw[←hP]at h2 hv
   obtain⟨Q,hQ⟩:∃Q:Nat,Q=2^n:=⟨_,rfl⟩
   rw[←hQ]at h2 hp
   simp only[Nat.reducePow]at hp
   have hx1:x<2:=by
    rw[hx];unfold u9;split
    · have:=wH c.text S.at_ 1;simpa using this
    · simp
   have hv':v* 2+x<Q:=by omega
   have w1:IntKind.wrap .i64 ((v:Int)* 2)=((v* 2:Nat):Int):=by
    rw[show(v:Int)* 2=((v* 2:Nat):Int)by omega];exact u7 (by omega)
   have w2:IntKind.wrap .i64 (((v* 2:Nat):Int)+(x:Int))=((v* 2+x:Nat):Int):=by
    rw[show((v* 2:Nat):Int)+(x:Int)=((v* 2+x:Nat):Int)by omega];exact u7 (by omega)
   have w3:IntKind.wrap .i64 ((n:Int)+1)=((n+1:Nat):Int):=u7 (n:=n+1) (by omega)
   have c1:(n:Int)≤15:=by omega
   have fc:=Ml h1 l hl n hn (by omega) ((v* 2+x:Nat):Int) (by omega) (by omega)
   have gs1:=k2.gs
   have step:(wW l n ((v* 2+x:Nat):Int)=none∨S1.e≠0)→aK (aQ AP.A) br AP.f60L0 (ax [(0,.aC c.s 0),(1,vy l),(5,I v),(6,I n)] [0,1,5,6]) h=some (.normal,[(0,.aC c.s 0),(1,vy l),(5,I (v* 2+x:Nat)),(6,I (n+1:Nat))],h1):=by
    intro hc
    rcases hc with hc|hc
    · rw[hc]at fc
      simp only[I]at *
      simp only[AP.f60L0,go_sem,QV c1,gs,he,k1,w1,w2,fc,w3]
    · have c2:(S1.e==0)=false:=tR hc
      cases hf:wW l n ((v* 2+x:Nat):Int)with
      | none =>
        rw[hf]at fc
        simp only[I]at *
        simp only[AP.f60L0,go_sem,QV c1,gs,he,k1,w1,w2,fc,w3]
      | some y =>
        rw[hf]at fc
        simp only[I]at *
        simp only[AP.f60L0,go_sem,QV c1,gs,he,k1,w1,w2,fc,w3,gs1,c2]
   by_cases hat:S.at_+1≤8* c.text.size
   · have eg:u9 c 1 S=(vi c.text S.at_ 1,{S with at_:=S.at_+1}):=by rw[u9,if_pos hat]
     rw[eg]at hx hS1
     dsimp only at hx hS1
     subst hx hS1
     rw[yn,if_pos hat]
     cases hf:wW l n ((v* 2+vi c.text S.at_ 1:Nat):Int)with
     | none =>
       obtain⟨h',S',q1,q2,q3⟩:=FU l hl k (n+1) (v* 2+vi c.text S.at_ 1) _ h1 ov (by omega) (by omega) (by rw[Nat.add_sub_cancel,←hQ];exact hv') k2 he
       refine⟨h',S',q1,k3.trans q2, ?_⟩
       dsimp only at q3 ⊢
       have sp:=step (.inl hf)
       cases hy:yn c.text l k (n+1) (v* 2+vi c.text S.at_ 1) (S.at_+1)with
       | none =>
         rw[hy]at q3
         obtain⟨q3,e',q4,q5⟩:=q3
         exact⟨q3,e',sW sp q4,q5⟩
       | some y =>
         rw[hy]at q3
         obtain⟨q3,e',q4,q5⟩:=q3
         exact⟨q3,e',sW sp q4,q5⟩
     | some y =>
       refine⟨h1,_,k2,k3,rfl,[(4,I y)],tB ?_,rfl⟩
       rw[hf]at fc
       simp only[I]at *
       simp only[AP.f60L0,go_sem,QV c1,gs,he,k1,w1,w2,fc,w3,gs1]
   · have eg:u9 c 1 S=(0,{S with e:=700}):=by rw[u9,if_neg hat,vC,if_pos he]
     rw[eg]at hx hS1
     dsimp only at hx hS1
     subst hx hS1
     rw[yn,if_neg hat]
     have hst:n+1=16∨(n+1≤15∧(700:Int)≠0):=by omega
     obtain⟨e',q1,q2⟩:=FV k2 l (v* 2+0) (n+1) hst
     exact⟨h1,_,k2,k3,.inr rfl,e',sW (step (.inr (by simp))) q1,q2⟩
theorem CP {c:SC} {S:SS} {h:H} {ov:AV} (l:List Int) (hl:l.length<100000) (st:St c S h ov) (he:S.e=0):
 ∃ h' S' y, aQ AP.A 60 [.aC c.s 0, vy l] h = some (I y, h') ∧ St c S' h' ov ∧ Fr c h ov h' ov ∧ match yn c.text l 15 1 0 S.at_ with
   |some (z,p)=>S'={S with at_:=p}∧y=z
   |none=>S'.e=700∧y=256:=by
 obtain⟨h1,S1,q1,q2,q3⟩:=FU l hl 15 1 0 S h ov (by omega) (by omega) (by simp) st he
 cases hy:yn c.text l 15 1 0 S.at_ with
 | some yp =>
   rw[hy]at q3
   obtain⟨q3,e',q4,q5⟩:=q3
   refine⟨h1,S1,yp.1, ?_,q1,q2,q3,rfl⟩
   refine tq (fn:=AP.f60) (e:=e') (vs:=[I yp.1]) rfl rfl rfl ?_ (by simp only[AP.f60,cr,mV,q5];rfl)
   have q6:Lp AP.A [0,1,5,6] AP.f60L0 [(0,.aC c.s 0),(1,vy l),(5,I 0),(6,I 1)] h=some (.ret,e',h1):=q4
   clear q4
   simp only[I]at *
   simp only[AP.f60,go_sem,rQ,q6]
 | none =>
   rw[hy]at q3
   obtain⟨q3,e',q4,q5⟩:=q3
   obtain⟨h2,r1,r2,r3⟩:=wO q1 700
   refine⟨h2,vC 700 S1,256, ?_,r2,q2.trans r3, ?_,rfl⟩
   · refine tq (fn:=AP.f60) (e:=[(4,I 256)]) rfl rfl rfl ?_ rfl
     have q6:Lp AP.A [0,1,5,6] AP.f60L0 [(0,.aC c.s 0),(1,vy l),(5,I 0),(6,I 1)] h=some (.exit 0,e',h1):=q4
     clear q4
     simp only[I]at *
     simp only[AP.f60,go_sem,rQ,q6,q5,r1]
   · rcases q3 with q3|q3<;>simp [vC,q3]
def lenOf (y:Nat):Option (Nat×Nat):=
 if y≤256∨285<y then none else if y=285 then some (258,0)else if y<265 then some (y-254,0)else some (3+(4+(y-257)%4)* 2^((y-257)/4-1),(y-257)/4-1)
def vB (y:Nat):Option (Nat×Nat):=
 if 30≤y then none else if y<4 then some (1+y,0)else some (1+(2+y%2)* 2^(y/2-1),y/2-1)
theorem Cs {y a b:Nat} (h:lenOf y=some (a,b)):a≤258∧b≤5∧0<a:=by
 have key:∀y<286,∀a b,lenOf y=some (a,b)→a≤258∧b≤5∧0<a:=by
  intro y hy a b h
  have:((lenOf y).map fun p=>decide (p.1≤258∧p.2≤5∧0<p.1))=(lenOf y).map fun _=>true:=by
   clear h
   revert y
   decide+kernel
  rw[h]at this
  simpa using this
 by_cases hy:y<286
 · exact key y hy a b h
 · rw[lenOf,if_pos (by omega)]at h;cases h
theorem AL {y a b:Nat} (h:vB y=some (a,b)):a≤24577∧b≤13∧0<a:=by
 have key:∀y<30,∀a b,vB y=some (a,b)→a≤24577∧b≤13∧0<a:=by
  intro y hy a b h
  have:((vB y).map fun p=>decide (p.1≤24577∧p.2≤13∧0<p.1))=(vB y).map fun _=>true:=by
   clear h
   revert y
   decide+kernel
  rw[h]at this
  simpa using this
 by_cases hy:y<30
 · exact key y hy a b h
 · rw[vB,if_pos (by omega)]at h;cases h
def CW (o:Option (Nat×Nat)):AV:=match o with
 |some p=>.bM [I p.1,I p.2,I 0]
 |none=>.bM [I 0,I 0,I 600]
theorem Ha (h:H) (y:Nat) (hy:y<1000000):aQ AP.A 74 [I y] h=some (CW (lenOf y),h):=by
 have d1:decide ((y:Int)≤256)=decide (y≤256):=by by_cases q:y≤256<;>simp [q]<;>omega
 have w1:IntKind.wrap .i64 ((y:Int)-256)=(y:Int)-256:=tw (by omega) (by omega)
 have w2:IntKind.wrap .i64 ((y:Int)-256-1)=(y:Int)-257:=by rw[show(y:Int)-256-1=(y:Int)-257 by omega];exact tw (by omega) (by omega)
 by_cases c1:y≤256
 · rw[lenOf,if_pos (.inl c1)]
   refine tL (fn:=AP.f74) (h2:=h.dJ) (e:=[(2,I 0),(3,I 0),(4,I 600)]) rfl rfl rfl ?_ rfl rfl
   have c1':(y:Int)≤256:=by omega
   simp only[I]at *
   simp only[AP.f74,go_sem,w1,w2,QV c1']
 have c1':¬(y:Int)≤256:=by omega
 by_cases c2:285<y
 · rw[lenOf,if_pos (.inr c2)]
   refine tL (fn:=AP.f74) (h2:=h.dJ) (e:=[(2,I 0),(3,I 0),(4,I 600)]) rfl rfl rfl ?_ rfl rfl
   have c2':(285:Int)<y:=by omega
   simp only[I]at *
   simp only[AP.f74,go_sem,w1,w2,QT c1',QV c2']
 have c2':¬(285:Int)<y:=by omega
 rw[lenOf,if_neg (by omega)]
 by_cases c3:y=285
 · rw[if_pos c3]
   refine tL (fn:=AP.f74) (h2:=h.dJ) (e:=[(2,I 258),(3,I 0),(4,I 0)]) rfl rfl rfl ?_ rfl rfl
   have c3':((y:Int)==285)=true:=tS (by omega)
   simp only[I]at *
   simp only[AP.f74,go_sem,w1,w2,QT c1',QT c2',c3']
 rw[if_neg c3]
 have c3':((y:Int)==285)=false:=tR (by omega)
 by_cases c4:y<265
 · rw[if_pos c4]
   refine tL (fn:=AP.f74) (h2:=h.dJ) (e:=[(2,I (y-254:Nat)),(3,I 0),(4,I 0)]) rfl rfl rfl ?_ rfl rfl
   have c4':(y:Int)-257<8:=by omega
   have w3:IntKind.wrap .i64 (3+((y:Int)-257))=((y-254:Nat):Int):=by rw[show 3+((y:Int)-257)=((y-254:Nat):Int)by omega];exact u7 (by omega)
   simp only[I]at *
   simp only[AP.f74,go_sem,w1,w2,QT c1',QT c2',c3',QV c4',w3]
 rw[if_neg c4]
 have c4':¬(y:Int)-257<8:=by omega
 obtain⟨k,hk⟩:∃k:Nat,(y:Int)-257=k:=QX (by omega)
 have hk':y-257=k:=by omega
 rw[hk]at w2 c4'
 rw[hk']
 have q1:bn .quo (.int .i64 (k:Int)) (.int .i64 4)=some (.int .i64 ((k/4:Nat):Int)):=by
  rw[rG _ _ _ (by omega),show(4:Int)=((4:Nat):Int)from rfl,yo,u7 (by omega)]
 have q2:bn .rem (.int .i64 (k:Int)) (.int .i64 4)=some (.int .i64 ((k%4:Nat):Int)):=by
  rw[rH _ _ _ (by omega),show(4:Int)=((4:Nat):Int)from rfl,CR]
 have w3:IntKind.wrap .i64 (((k/4:Nat):Int)-1)=((k/4-1:Nat):Int):=by rw[show((k/4:Nat):Int)-1=((k/4-1:Nat):Int)by omega];exact u7 (by omega)
 have w4:IntKind.wrap .i64 (4+((k%4:Nat):Int))=((4+k%4:Nat):Int):=by rw[show 4+((k%4:Nat):Int)=((4+k%4:Nat):Int)by omega];exact u7 (by omega)
 have hp:2^(k/4-1)≤2^5:=Q7 (by omega) (by omega)
 have hm:(4+k%4)* 2^(k/4-1)≤7* 2^5:=Nat.mul_le_mul (by omega) hp
 have q3:oV .shl .i64 ((4+k%4:Nat):Int) ((k/4-1:Nat):Int)=some (.int .i64 (((4+k%4)* 2^(k/4-1):Nat):Int)):=AF (by omega) (by omega)
 generalize (4+k%4)* 2^(k/4-1)=P at *
 have w5:IntKind.wrap .i64 (3+(P:Int))=((3+P:Nat):Int):=by rw[show 3+(P:Int)=((3+P:Nat):Int)by omega];exact u7 (by omega)
 refine tL (fn:=AP.f74) (h2:=h.dJ) (e:=[(2,I (3+P:Nat)),(3,I (k/4-1:Nat)),(4,I 0)]) rfl rfl rfl ?_ rfl rfl
 simp only[I]at *
 simp only[AP.f74,go_sem,w1,w2,QT c1',QT c2',c3',QT c4',q1,q2,w3,w4,q3,w5]
theorem E0 (h:H) (y:Nat) (hy:y<1000000):aQ AP.A 75 [I y] h=some (CW (vB y),h):=by
 have c0:¬(y:Int)<0:=by omega
 by_cases c1:30≤y
 · rw[vB,if_pos c1]
   refine tL (fn:=AP.f75) (h2:=h.dJ) (e:=[(2,I 0),(3,I 0),(4,I 600)]) rfl rfl rfl ?_ rfl rfl
   have c1':(30:Int)≤y:=by omega
   simp only[I]at *
   simp only[AP.f75,go_sem,QT c0,QV c1']
 have c1':¬(30:Int)≤y:=by omega
 rw[vB,if_neg c1]
 by_cases c2:y<4
 · rw[if_pos c2]
   refine tL (fn:=AP.f75) (h2:=h.dJ) (e:=[(2,I (1+y:Nat)),(3,I 0),(4,I 0)]) rfl rfl rfl ?_ rfl rfl
   have c2':(y:Int)<4:=by omega
   have w3:IntKind.wrap .i64 (1+(y:Int))=((1+y:Nat):Int):=by rw[show 1+(y:Int)=((1+y:Nat):Int)by omega];exact u7 (by omega)
   simp only[I]at *
   simp only[AP.f75,go_sem,QT c0,QT c1',QV c2',w3]
 rw[if_neg c2]
 have c2':¬(y:Int)<4:=by omega
 have q1:bn .quo (.int .i64 (y:Int)) (.int .i64 2)=some (.int .i64 ((y/2:Nat):Int)):=by
  rw[rG _ _ _ (by omega),show(2:Int)=((2:Nat):Int)from rfl,yo,u7 (by omega)]
 have q2:bn .rem (.int .i64 (y:Int)) (.int .i64 2)=some (.int .i64 ((y%2:Nat):Int)):=by
  rw[rH _ _ _ (by omega),show(2:Int)=((2:Nat):Int)from rfl,CR]
 have w3:IntKind.wrap .i64 (((y/2:Nat):Int)-1)=((y/2-1:Nat):Int):=by rw[show((y/2:Nat):Int)-1=((y/2-1:Nat):Int)by omega];exact u7 (by omega)
 have w4:IntKind.wrap .i64 (2+((y%2:Nat):Int))=((2+y%2:Nat):Int):=by rw[show 2+((y%2:Nat):Int)=((2+y%2:Nat):Int)by omega];exact u7 (by omega)
 have hp:2^(y/2-1)≤2^13:=Q7 (by omega) (by omega)
 have hm:(2+y%2)* 2^(y/2-1)≤3* 2^13:=Nat.mul_le_mul (by omega) hp
 have q3:oV .shl .i64 ((2+y%2:Nat):Int) ((y/2-1:Nat):Int)=some (.int .i64 (((2+y%2)* 2^(y/2-1):Nat):Int)):=AF (by omega) (by omega)
 generalize (2+y%2)* 2^(y/2-1)=P at *
 have w5:IntKind.wrap .i64 (1+(P:Int))=((1+P:Nat):Int):=by rw[show 1+(P:Int)=((1+P:Nat):Int)by omega];exact u7 (by omega)
 refine tL (fn:=AP.f75) (h2:=h.dJ) (e:=[(2,I (1+P:Nat)),(3,I (y/2-1:Nat)),(4,I 0)]) rfl rfl rfl ?_ rfl rfl
 simp only[I]at *
 simp only[AP.f75,go_sem,QT c0,QT c1',QT c2',q1,q2,w3,w4,q3,w5]
abbrev Rs:=Except Int (Nat×List Nat)
def Fin (r:Rs) (S:SS):Prop:=match r with
 | .ok q=>S=⟨q.1,q.2,0⟩
 | .error k=>S.e=k∧k≠0
theorem Et {c:SC} {S:SS} (b:Nat) (he:S.e=0) (hm:¬c.most≤S.out.length):CF c b S=⟨S.at_,S.out++[b],0⟩:=by
 simp only[CF,if_neg hm,he,if_true]
theorem A6 {c:SC} {S:SS} (b:Nat) (he:S.e=0) (hm:c.most≤S.out.length):(CF c b S).e=701:=by
 simp [CF,hm,vC,he]
def yd (t:ByteArray) (most:Int):Nat→Nat→List Nat→Rs
 |0,p,out=>.ok (p,out)
 |n+1,p,out=>if p+8≤8* t.size then(if most≤out.length then .error 701 else yd t most n (p+8) (out++[vi t p 8]))else .error 700
theorem xP {c:SC} {S:SS} {h:H} {ov:AV} (st:St c S h ov) (n:Nat) (hs:n=0∨S.e≠0):
 ∃e',Lp AP.A [0,2] AP.f39L0 [(0,.aC c.s 0),(2,I n)] h=some (.exit 0,e',h):=by
 have gs:=st.gs
 refine⟨[(0,.aC c.s 0),(2,I n),(26,.bool false)],sV ?_⟩
 by_cases hn:n=0
 · have c1:¬(0:Int)<n:=by omega
   simp only[I]at *
   simp only[AP.f39L0,go_sem,QT c1]
 · have c1:(0:Int)<n:=by omega
   have c2:(S.e==0)=false:=tR (by omega)
   simp only[I]at *
   simp only[AP.f39L0,go_sem,QV c1,gs,c2]
theorem CN {c : SC} : ∀ (n : Nat) (S : SS) (h : H) (ov : AV), St c S h ov → S.e = 0 → n ≤ 65535 →
 ∃e' h' ov' S',Lp AP.A [0,2] AP.f39L0 [(0,.aC c.s 0),(2,I n)] h=some (.exit 0,e',h')∧St c S' h' ov'∧Fr c h ov h' ov'∧Fin (yd c.text c.most n S.at_ S.out) S'
 | 0, S, h, ov, st, he, hn => by
   obtain⟨e',q⟩:=xP st 0 (.inl rfl)
   exact⟨e',h,ov,S,q,st,Fr.refl _ _ _,by simp only[yd,Fin];cases S;simp_all⟩
 | n + 1, S, h, ov, st, he, hn => by
   have gs:=st.gs
   obtain⟨h1,k1,k2,k3⟩:=yh st 8 8 rfl (by omega)
   have gs1:=k2.gs
   have c1:(0:Int)<((n+1:Nat):Int):=by omega
   have w1:IntKind.wrap .i64 (((n+1:Nat):Int)-1)=(n:Int):=by rw[show((n+1:Nat):Int)-1=(n:Int)by omega];exact u7 (by omega)
   by_cases hp:S.at_+8≤8* c.text.size
   · have eg:u9 c 8 S=(vi c.text S.at_ 8,{S with at_:=S.at_+8}):=by rw[u9,if_pos hp]
     rw[eg]at k1 k2 gs1
     dsimp only at k1 k2 gs1
     obtain⟨h2,ov2,p1,p2,p3⟩:=Jl k2 (b:=vi c.text S.at_ 8)
     have hb:=wH c.text S.at_ 8
     have w2:IntKind.wrap .u8 ((vi c.text S.at_ 8:Nat):Int)=((vi c.text S.at_ 8:Nat):Int):=wrap_u8 (by simpa using hb)
     have step:aK (aQ AP.A) br AP.f39L0 (ax [(0,.aC c.s 0),(2,I (n+1:Nat))] [0,2]) h=some (.normal,[(0,.aC c.s 0),(2,I n)],h2):=by
      simp only[I]at *
      simp only[AP.f39L0,go_sem,QV c1,gs,he,k1,gs1,w2,p1,w1]
     rw[yd,if_pos hp]
     by_cases hm:c.most≤S.out.length
     · rw[if_pos hm]
       have hl:=A6 (c:=c) (S:={S with at_:=S.at_+8}) (vi c.text S.at_ 8) he hm
       obtain⟨e',q⟩:=xP p2 n (.inr (by rw[hl];decide))
       exact⟨e',h2,ov2,_,sW step q,p2,k3.trans p3,hl,by decide⟩
     · rw[if_neg hm]
       rw[Et (S:={S with at_:=S.at_+8}) _ he hm]at p2
       obtain⟨e',h',ov',S',q1,q2,q3,q4⟩:=CN n _ h2 ov2 p2 rfl (by omega)
       exact⟨e',h',ov',S',sW step q1,q2,(k3.trans p3).trans q3,q4⟩
   · have eg:u9 c 8 S=(0,{S with e:=700}):=by rw[u9,if_neg hp,vC,if_pos he]
     rw[eg]at k1 k2 gs1
     dsimp only at k1 k2 gs1
     have step:aK (aQ AP.A) br AP.f39L0 (ax [(0,.aC c.s 0),(2,I (n+1:Nat))] [0,2]) h=some (.normal,[(0,.aC c.s 0),(2,I n)],h1):=by
      simp only[I]at *
      simp only[AP.f39L0,go_sem,QV c1,gs,he,k1,gs1,w1]
     rw[yd,if_neg hp]
     obtain⟨e',q⟩:=xP k2 n (.inr (by simp))
     exact⟨e',h1,ov,_,sW step q,k2,k3,rfl,by decide⟩
def BL (t:ByteArray) (most:Int) (p0:Nat) (out:List Nat):Rs:=
 let p:=(p0+7)/8* 8
 if p+32≤8* t.size then(if vi t p 16+vi t (p+16) 16=65535 then yd t most (vi t p 16) (p+32) out else .error 700)else .error 700
theorem JN {n:Nat} (hn:n<65536):bits .xor .i64 (n:Int) 65535=((65535-n:Nat):Int):=by
 have h1:n<2^16:=by simpa using hn
 show IntKind.wrap .i64 (((BitVec.ofInt 64 (n:Int)^^^BitVec.ofInt 64 ((65535:Nat):Int)).toNat:Nat):Int)=_
 rw[BitVec.toNat_xor,xG 64 n (by omega),xG 64 65535 (by omega)]
 have h2:n^^^65535=65535-n:=by
  have:65535-n=2^16-(n+1):=by omega
  rw[this]
  apply Nat.eq_of_testBit_eq
  intro i
  rw[Nat.testBit_two_pow_sub_succ h1,Nat.testBit_xor,show 65535=2^16-1 from rfl,Nat.testBit_two_pow_sub_one]
  by_cases hi:i<16
  · simp [hi]
  · have:n.testBit i=false:=Nat.testBit_lt_two_pow (Nat.lt_of_lt_of_le h1 (Q7 (by omega) (by omega)))
    simp [hi,this]
 rw[h2];exact u7 (by omega)
theorem St.align {c:SC} {S:SS} {h:H} {ov:AV} (st:St c S h ov):∃h',aQ AP.A 16 [.aC c.r 0] h=some (I 0,h')∧St c {S with at_:=(S.at_+7)/8* 8} h' ov∧Fr c h ov h' ov:=by
 have hle:=st.ye
 have:=st.Nx (p:=(S.at_+7)/8* 8) (by omega)
 exact⟨_,JW h c.r c.text S.at_ st.gr st.fr st.sz st.ye,this.1,this.2⟩
theorem JD {c : SC} {S : SS} {h : H} {ov : AV} (st : St c S h ov) (he : S.e = 0) :
 ∃h' ov' S',aQ AP.A 39 [.aC c.s 0] h=some (.bM [],h')∧St c S' h' ov'∧Fr c h ov h' ov'∧Fin (BL c.text c.most S.at_ S.out) S':=by
 have gs:=st.gs
 obtain⟨h1,a1,a2,a3⟩:=st.align
 obtain⟨p,hp⟩:∃p,p=(S.at_+7)/8* 8:=⟨_,rfl⟩
 rw[←hp]at a2
 have hS:BL c.text c.most S.at_ S.out=if p+32≤8* c.text.size then(if vi c.text p 16+vi c.text (p+16) 16=65535 then yd c.text c.most (vi c.text p 16) (p+32) S.out else .error 700)else .error 700:=by
  rw[hp];rfl
 rw[hS];clear hS
 obtain⟨h2,b1,b2,b3⟩:=yh a2 16 16 rfl (by omega)
 obtain⟨h3,d1,d2,d3⟩:=yh b2 16 16 rfl (by omega)
 obtain⟨n,hn⟩:∃n,n=(u9 c 16 {S with at_:=p}).1:=⟨_,rfl⟩
 obtain⟨S2,hS2⟩:∃n,n=(u9 c 16 {S with at_:=p}).2:=⟨_,rfl⟩
 obtain⟨m,hm⟩:∃n,n=(u9 c 16 S2).1:=⟨_,rfl⟩
 obtain⟨S3,hS3⟩:∃n,n=(u9 c 16 S2).2:=⟨_,rfl⟩
 rw[←hn]at b1;rw[←hS2]at b2 d1 d2;rw[←hm]at d1;rw[←hS3]at d2
 have hn16:n<65536:=by
  rw[hn];unfold u9;split
  · simpa using wH c.text p 16
  · simp
 have x1:=JN hn16
 by_cases hx:m=65535-n
 · have c1:((m:Int) !=((65535-n:Nat):Int))=false:=tT (by omega)
   have fin:∀e' h',Lp AP.A [0,2] AP.f39L0 [(0,.aC c.s 0),(2,I n)] h3=some (.exit 0,e',h')→aQ AP.A 39 [.aC c.s 0] h=some (.bM [],h'):=by
    intro e' h' q
    refine vQ (fn:=AP.f39) (e:=[]) rfl rfl rfl ?_ rfl
    simp only[I]at *
    simp only[AP.f39,go_sem,rQ,gs,a1,b1,d1,x1,c1,q]
   by_cases h32:p+32≤8* c.text.size
   · have e2:u9 c 16 {S with at_:=p}=(vi c.text p 16,{S with at_:=p+16}):=by rw[u9,if_pos (by show p+16≤_;omega)]
     rw[e2]at hn hS2;dsimp only at hn hS2;subst hS2
     have e3:u9 c 16 {S with at_:=p+16}=(vi c.text (p+16) 16,{S with at_:=p+16+16}):=by rw[u9,if_pos (by show p+16+16≤_;omega)]
     rw[e3]at hm hS3;dsimp only at hm hS3;subst hS3
     rw[if_pos h32,←hn,←hm,if_pos (by omega)]
     obtain⟨e',h',ov',S',q1,q2,q3,q4⟩:=CN n _ h3 ov d2 he (by omega)
     exact⟨h',ov',S',fin e' h' q1,q2,((a3.trans b3).trans d3).trans q3,q4⟩
   · rw [if_neg h32]
     have he3:S3.e=700:=by
      rw[hS3,hS2]
      unfold u9
      by_cases q1:p+16≤8* c.text.size
      · simp only[if_pos q1]
        rw[if_neg (by omega)];simp [vC,he]
      · simp only[if_neg q1,vC,he,if_true]
        split<;>simp
     obtain⟨e',q⟩:=xP d2 n (.inr (by rw[he3];decide))
     exact⟨h3,ov,S3,fin e' h3 q,d2,(a3.trans b3).trans d3,he3,by decide⟩
 · have c1:((m:Int) !=((65535-n:Nat):Int))=true:=tU (by omega)
   obtain⟨h4,f1,f2,f3⟩:=wO d2 700
   have he4:(vC 700 S3).e=700:=by
    have:S3.e=0∨S3.e=700:=by
     rw[hS3,hS2]
     unfold u9
     by_cases q1:p+16≤8* c.text.size
     · simp only[if_pos q1]
       split<;>simp [vC,he]
     · simp only[if_neg q1,vC,he,if_true]
       split<;>simp
    rcases this with q|q<;>simp [vC,q]
   obtain⟨e',q⟩:=xP f2 n (.inr (by rw[he4];decide))
   refine⟨h4,ov,vC 700 S3, ?_,f2,((a3.trans b3).trans d3).trans f3, ?_⟩
   · refine vQ (fn:=AP.f39) (e:=[]) rfl rfl rfl ?_ rfl
     simp only[I]at *
     simp only[AP.f39,go_sem,rQ,gs,a1,b1,d1,x1,c1,f1,q]
   · by_cases h32:p+32≤8* c.text.size
     · have e2:u9 c 16 {S with at_:=p}=(vi c.text p 16,{S with at_:=p+16}):=by rw[u9,if_pos (by show p+16≤_;omega)]
       rw[e2]at hn hS2;dsimp only at hn hS2;subst hS2
       have e3:u9 c 16 {S with at_:=p+16}=(vi c.text (p+16) 16,{S with at_:=p+16+16}):=by rw[u9,if_pos (by show p+16+16≤_;omega)]
       rw[e3]at hm hS3;dsimp only at hm hS3
       rw[if_pos h32,←hn,←hm,if_neg (by omega)]
       exact⟨he4,by decide⟩
     · rw[if_neg h32];exact⟨he4,by decide⟩
def Bj (most:Int) (d:Nat):Nat→List Nat→Except Int (List Nat)
 |0,out=>.ok out
 |n+1,out=>if most≤out.length then .error 701 else Bj most d n (out++[out.getD (out.length-d) 0])
def JO (l:List Nat):Prop:=∀b∈l,b<256
theorem yg {c:SC} {S:SS} {h:H} {ov:AV} (st:St c S h ov) (n d:Nat) (hs:n=0∨S.e≠0):
 ∃e',Lp AP.A [0,6,8] AP.f61L0 [(0,.aC c.s 0),(6,I n),(8,I d)] h=some (.exit 0,e',h):=by
 have gs:=st.gs
 refine⟨[(0,.aC c.s 0),(6,I n),(8,I d),(53,.bool false)],sV ?_⟩
 by_cases hn:n=0
 · have c1:¬(0:Int)<n:=by omega
   simp only[I]at *
   simp only[AP.f61L0,go_sem,QT c1]
 · have c1:(0:Int)<n:=by omega
   have c2:(S.e==0)=false:=tR (by omega)
   simp only[I]at *
   simp only[AP.f61L0,go_sem,QV c1,gs,c2]
theorem ng.elem {h:H} {v:AV} {cs:List AV} (o:ng h v cs) {i:Nat} {x:AV} (hx:cs[i]?=some x):∃id,v=.aD id 0 cs.length 1∧fG 1 v (I i)=some (.aC id i)∧h.get id=some cs:=by
 have hi:i<cs.length:=(uD.1 hx).1
 rcases o with ⟨rfl,rfl⟩|⟨id,rfl,h1,_⟩
 · simp at hi
 · exact⟨id,rfl,by simp [fG,j3 hi],h1⟩
theorem J2 {l:List Nat} {i:Nat} (h:i<l.length):(xi l)[i]?=some (.int .u8 (l.getD i 0:Nat)):=by
 simp [xi,uQ,h,List.getD]
theorem Df {c:SC} (d:Nat) (hd:0<d):∀(n:Nat) (S:SS) (h:H) (ov:AV),St c S h ov→S.e=0→d≤S.out.length→n≤65535→
 ∃ e' h' ov' S', Lp AP.A [0, 6, 8] AP.f61L0 [(0, .aC c.s 0), (6, I n), (8, I d)] h = some (.exit 0, e', h') ∧ St c S' h' ov' ∧ Fr c h ov h' ov' ∧ match Bj c.most d n S.out with
   | .ok o=>S'={S with out:=o}
   | .error k=>S'.e=k∧k≠0
 | 0, S, h, ov, st, he, hl, hn => by
   obtain⟨e',q⟩:=yg st 0 d (.inl rfl)
   exact⟨e',h,ov,S,q,st,Fr.refl _ _ _,by simp only[Bj]⟩
 | n + 1, S, h, ov, st, he, hl, hn => by
   have gs:=st.gs
   have hol:=st.ol
   have hml:=st.ml
   have ln:=st.own.len
   rw[yz]at ln
   have c1:(0:Int)<((n+1:Nat):Int):=by omega
   have w1:IntKind.wrap .i64 (((n+1:Nat):Int)-1)=(n:Int):=by rw[show((n+1:Nat):Int)-1=(n:Int)by omega];exact u7 (by omega)
   have w2:IntKind.wrap .i64 ((S.out.length:Int)-d)=((S.out.length-d:Nat):Int):=by rw[show(S.out.length:Int)-d=((S.out.length-d:Nat):Int)by omega];exact u7 (by omega)
   have hb:=J2 (l:=S.out) (i:=S.out.length-d) (by omega)
   obtain⟨id,i1,i2,i3⟩:=st.own.elem hb
   obtain⟨h2,ov2,p1,p2,p3⟩:=Jl st (b:=S.out.getD (S.out.length-d) 0)
   have step:aK (aQ AP.A) br AP.f61L0 (ax [(0,.aC c.s 0),(6,I (n+1:Nat)),(8,I d)] [0,6,8]) h=some (.normal,[(0,.aC c.s 0),(6,I n),(8,I d)],h2):=by
    clear i1
    simp only[I]at *
    simp only[AP.f61L0,go_sem,QV c1,gs,he,ln,w2,i2,i3,hb,p1,w1]
   rw[Bj]
   by_cases hm:c.most≤S.out.length
   · rw[if_pos hm]
     have hl:=A6 (c:=c) (S:=S) (S.out.getD (S.out.length-d) 0) he hm
     obtain⟨e',q⟩:=yg p2 n d (.inr (by rw[hl];decide))
     exact⟨e',h2,ov2,_,sW step q,p2,p3,hl,by decide⟩
   · rw[if_neg hm]
     rw[Et _ he hm]at p2
     obtain⟨e',h',ov',S',q1,q2,q3,q4⟩:=Df d hd n _ h2 ov2 p2 rfl (by simp;omega) (by omega)
     refine⟨e',h',ov',S',sW step q1,q2,p3.trans q3, ?_⟩
     dsimp only at q4 ⊢
     rw[he]
     exact q4
def Bi (t : ByteArray) (most : Int) (dl : List Int) (y : Nat) (p : Nat) (out : List Nat) : Rs :=
 match lenOf y with
 |none=>.error 700
 | some (least, extra) =>
   if p+extra≤8* t.size then
    match yn t dl 15 1 0 (p+extra)with
    |none=>.error 700
    | some (z, p2) => match vB z.toNat with
      |none=>.error 700
      | some (ld, xd) =>
        if p2+xd≤8* t.size∧ld+vi t p2 xd≤out.length then
         (match Bj most (ld+vi t p2 xd) (least+vi t p extra) out with
         | .ok o=>.ok (p2+xd,o)
         | .error k=>.error k)
        else .error 700
   else .error 700
theorem JG {l:List Int} {n:Nat} {y:Int} (h:y∈syms l n):0≤y∧y<l.length:=by
 unfold syms at h
 split at h
 · cases h
 · rw[List.mem_filterMap]at h
   obtain⟨q,hq,h⟩:=h
   split at h
   · obtain rfl:=uv h
     have:=List.mem_zipIdx hq
     omega
   · cases h
theorem IL {l:List Int} {n:Nat} {v y:Int} (h:wW l n v=some y):0≤y∧y<l.length:=by
 unfold wW at h
 split at h
 · exact JG (uL h)
 · cases h
theorem xZ {t : ByteArray} {l : List Int} : ∀ {k n v p : Nat} {y : Int} {p2 : Nat}, yn t l k n v p = some (y, p2) → 0 ≤ y ∧ y < l.length ∧ p < p2 ∧ p2 ≤ 8 * t.size
 |0,_,_,_,_,_,h=>by cases h
 | k + 1, n, v, p, y, p2, h => by
   rw[yn]at h
   split at h
   · split at h
     · rename_i hf
       obtain⟨rfl,rfl⟩:=ux (uv h)
       have:=IL hf
       omega
     · have:=xZ h
       omega
   · cases h
theorem IC {c : SC} {S : SS} {h : H} {ov : AV} (dl : List Int) (hdl : dl.length < 100000) (st : St c S h ov) (he : S.e = 0) (y : Nat) (hy : y < 100000) :
 ∃h' ov' S',aQ AP.A 61 [.aC c.s 0,I y,vy dl] h=some (.bM [],h')∧St c S' h' ov'∧Fr c h ov h' ov'∧Fin (Bi c.text c.most dl y S.at_ S.out) S':=by
 have lo:=Ha h y (by omega)
 unfold Bi
 cases hlo:lenOf y with
 | none =>
   rw[hlo]at lo
   obtain⟨h1,S1,k1,k2,k3,k4⟩:=DT st he
   have gs1:=k2.gs
   have c1:(S1.e !=0)=true:=tU (by omega)
   refine⟨h1,ov,S1, ?_,k2,k3,k4,by decide⟩
   refine tq (fn:=AP.f61) (e:=[(0,.aC c.s 0),(2,vy dl),(6,I 0),(20,.bool true)]) (vs:=[]) rfl rfl rfl ?_ rfl
   simp only[I,CW]at *
   simp only[AP.f61,go_sem,lo,k1,gs1,c1]
 | some le =>
   obtain⟨least,extra⟩:=le
   rw[hlo]at lo
   obtain⟨b1,b2,b3⟩:=Cs hlo
   obtain⟨h1,k1,k2,k3⟩:=Hy st (n:=extra) (least:=least) (by omega) (by omega)
   dsimp only
   by_cases hp:S.at_+extra≤8* c.text.size
   · have eg : u9 c extra S = (vi c.text S.at_ extra, { S with at_ := S.at_ + extra }) := by rw [u9, if_pos hp]
     rw[eg]at k1 k2
     dsimp only at k1 k2
     rw[if_pos hp]
     have gs1:=k2.gs
     have hve:=wH c.text S.at_ extra
     have hve2:2^extra≤2^5:=Q7 (by omega) b2
     obtain⟨h2,S2,z,s1,s2,s3,s4⟩:=CP dl hdl k2 he
     have gs2:=s2.gs
     have c1:(S.e !=0)=false:=tT he
     dsimp only at s4 gs1
     cases hz:yn c.text dl 15 1 0 (S.at_+extra)with
     | none =>
       rw[hz]at s4
       obtain⟨s4,s5⟩:=s4
       have c2:(S2.e !=0)=true:=tU (by omega)
       refine⟨h2,ov,S2, ?_,s2,k3.trans s3,s4,by decide⟩
       refine tq (fn:=AP.f61) (e:=[(0,.aC c.s 0),(6,I (least+vi c.text S.at_ extra:Nat)),(7,I z),(28,.bool true)]) (vs:=[]) rfl rfl rfl ?_ rfl
       simp only[I,CW]at *
       simp only[AP.f61,go_sem,lo,k1,gs1,c1,s1,gs2,c2]
     | some zp =>
       obtain⟨z2,p2⟩:=zp
       rw[hz]at s4
       obtain⟨s4,s5⟩:=s4
       subst s5 s4
       have zb:=xZ hz
       obtain⟨zn,hzn⟩:∃n:Nat,z=n:=QX zb.1
       subst hzn
       have dob:=E0 h2 zn (by omega)
       have c2:(S.e !=0)=false:=tT he
       dsimp only at gs2 ⊢
       rw[Int.toNat_natCast]
       cases hdo:vB zn with
       | none =>
         rw[hdo]at dob
         obtain⟨h3,S3,v1,v2,v3,v4⟩:=DT s2 he
         have gs3:=v2.gs
         have ln:=v2.own.len
         rw[yz]at ln
         have hn0:¬((S3.out.length:Int)<0):=by omega
         obtain⟨e',q⟩:=yg v2 (least+vi c.text S.at_ extra) 0 (.inr (by rw[v4];decide))
         refine⟨h3,ov,S3, ?_,v2,(k3.trans s3).trans v3,v4,by decide⟩
         refine vQ (fn:=AP.f61) (e:=[]) (vs:=[]) rfl rfl rfl ?_ rfl
         have q':Lp AP.A [0,6,8] AP.f61L0 [(0,.aC c.s 0),(6,I (least+vi c.text S.at_ extra:Nat)),(8,I 0)] h3=some (.exit 0,e',h3):=q
         clear q
         simp only[I,CW]at *
         simp only[AP.f61,go_sem,rQ,lo,k1,gs1,c1,s1,gs2,c2,dob,v1,gs3,ln,QT hn0,q']
       | some lx =>
         obtain⟨ld,xd⟩:=lx
         rw[hdo]at dob
         obtain⟨d1,d2,d3⟩:=AL hdo
         obtain⟨h3,v1,v2,v3⟩:=Hy s2 (n:=xd) (least:=ld) (by omega) (by omega)
         obtain⟨x,hx⟩:∃x,x=(u9 c xd {S with at_:=p2}).1:=⟨_,rfl⟩
         obtain⟨S3,hS3⟩:∃x,x=(u9 c xd {S with at_:=p2}).2:=⟨_,rfl⟩
         rw[←hx]at v1;rw[←hS3]at v2
         have ho3:S3.out=S.out:=by rw[hS3];unfold u9;split<;>simp [vC];split<;>rfl
         have gs3:=v2.gs
         have ln:=v2.own.len
         rw[yz]at ln
         dsimp only
         by_cases hbk:S3.out.length<ld+x
         · have hbk':(S3.out.length:Int)<((ld+x:Nat):Int):=by omega
           obtain⟨h4,f1,f2,f3⟩:=wO v2 700
           have he4:(vC 700 S3).e=700:=by
            have:S3.e=0∨S3.e=700:=by
             rw[hS3];unfold u9;split
             · exact .inl he
             · right;simp [vC,he]
            rcases this with q|q<;>simp [vC,q]
           have hneg:¬(p2+xd≤8* c.text.size∧ld+vi c.text p2 xd≤S.out.length):=by
            intro ⟨q1,q2⟩
            have:u9 c xd {S with at_:=p2}=(vi c.text p2 xd,{S with at_:=p2+xd}):=by rw[u9,if_pos q1]
            rw[this]at hx;dsimp only at hx;rw[ho3]at hbk;omega
           rw[if_neg hneg]
           obtain⟨e',q⟩:=yg f2 (least+vi c.text S.at_ extra) (ld+x) (.inr (by rw[he4];decide))
           refine⟨h4,ov,vC 700 S3, ?_,f2,((k3.trans s3).trans v3).trans f3,he4,by decide⟩
           refine vQ (fn:=AP.f61) (e:=[]) (vs:=[]) rfl rfl rfl ?_ rfl
           simp only[I,CW]at *
           simp only[AP.f61,go_sem,rQ,lo,k1,gs1,c1,s1,gs2,c2,dob,v1,gs3,ln,QV hbk',f1,q]
         · have hbk':¬(S3.out.length:Int)<((ld+x:Nat):Int):=by omega
           have fin:∀e' h',Lp AP.A [0,6,8] AP.f61L0 [(0,.aC c.s 0),(6,I (least+vi c.text S.at_ extra:Nat)),(8,I (ld+x:Nat))] h3=some (.exit 0,e',h')→aQ AP.A 61 [.aC c.s 0,I y,vy dl] h=some (.bM [],h'):=by
            intro e' h' q
            refine vQ (fn:=AP.f61) (e:=[]) (vs:=[]) rfl rfl rfl ?_ rfl
            simp only[I,CW]at *
            simp only[AP.f61,go_sem,rQ,lo,k1,gs1,c1,s1,gs2,c2,dob,v1,gs3,ln,QT hbk',q]
           by_cases hp2:p2+xd≤8* c.text.size
           · have:u9 c xd {S with at_:=p2}=(vi c.text p2 xd,{S with at_:=p2+xd}):=by rw[u9,if_pos hp2]
             rw[this]at hx hS3;dsimp only at hx hS3
             subst hx hS3
             dsimp only at hbk
             rw[if_pos ⟨hp2,by omega⟩]
             obtain⟨e',h',ov',S',q1,q2,q3,q4⟩:=Df (c:=c) (ld+vi c.text p2 xd) (by omega) (least+vi c.text S.at_ extra) _ h3 ov v2 he (by dsimp only;omega) (by omega)
             refine⟨h',ov',S',fin e' h' q1,q2,((k3.trans s3).trans v3).trans q3, ?_⟩
             dsimp only at q4
             cases hcl:Bj c.most (ld+vi c.text p2 xd) (least+vi c.text S.at_ extra) S.out with
             |ok o=>rw[hcl]at q4;rw[he]at q4;exact q4
             |error k=>rw[hcl]at q4;exact q4
           · rw[if_neg (fun q=>hp2 q.1)]
             have he3:S3.e=700:=by
              rw[hS3,u9,if_neg hp2];simp [vC,he]
             obtain⟨e',q⟩:=yg v2 (least+vi c.text S.at_ extra) (ld+x) (.inr (by rw[he3];decide))
             exact⟨h3,ov,S3,fin e' h3 q,v2,(k3.trans s3).trans v3,he3,by decide⟩
   · have eg:u9 c extra S=(0,{S with e:=700}):=by rw[u9,if_neg hp,vC,if_pos he]
     rw[eg]at k1 k2
     dsimp only at k1 k2
     rw[if_neg hp]
     have gs1:=k2.gs
     refine⟨h1,ov,_, ?_,k2,k3,rfl,by decide⟩
     refine tq (fn:=AP.f61) (e:=[(0,.aC c.s 0),(2,vy dl),(6,I (least+0:Nat)),(20,.bool true)]) (vs:=[]) rfl rfl rfl ?_ rfl
     simp only[I,CW]at *
     simp only[AP.f61,go_sem,lo,k1,gs1]
def wT (t : ByteArray) (most : Int) (ll dl : List Int) : Nat → Nat → List Nat → Rs
 |0,_,_=>.error 700
 | k + 1, p, out => match yn t ll 15 1 0 p with
   |none=>.error 700
   | some (y, p1) =>
     if y<256 then(if most≤out.length then .error 701 else wT t most ll dl k p1 (out++[y.toNat]))
     else if y=256 then .ok (p1,out)
     else match Bi t most dl y.toNat p1 out with
      | .ok (p2,o)=>wT t most ll dl k p2 o
      | .error e=>.error e
theorem EW {t : ByteArray} {most : Int} {dl : List Int} {y p : Nat} {out o : List Nat} {p2 : Nat} (h : Bi t most dl y p out = .ok (p2, o)) : p ≤ p2 ∧ p2 ≤ 8 * t.size := by
 unfold Bi at h
 split at h
 · cases h
 · split at h
   · split at h
     · cases h
     · rename_i hs
       have:=xZ hs
       split at h
       · cases h
       · split at h
         · rename_i hq
           split at h
           · have:=Rt (fun r:Rs=>match r with| .ok q=>q.1|_=>0) h
             dsimp only at this
             omega
           · cases h
         · cases h
   · cases h
theorem B5 {c:SC} {S:SS} {h:H} {ov:AV} (st:St c S h ov) (a b:AV) (hs:S.e≠0):
 ∃e',Lp AP.A [0,1,2] AP.f40L0 [(0,.aC c.s 0),(1,a),(2,b)] h=some (.exit 0,e',h):=by
 have gs:=st.gs
 refine⟨[(0,.aC c.s 0),(1,a),(2,b),(11,.bool false)],sV ?_⟩
 have c2:(S.e==0)=false:=tR hs
 simp only[I]at *
 simp only[AP.f40L0,go_sem,gs,c2]
theorem zK {c : SC} (ll dl : List Int) (hll : ll.length < 100000) (hdl : dl.length < 100000) : ∀ (k : Nat) (S : SS) (h : H) (ov : AV), St c S h ov → S.e = 0 → 8 * c.text.size < S.at_ + k →
 ∃e' h' ov' S',(Lp AP.A [0,1,2] AP.f40L0 [(0,.aC c.s 0),(1,vy ll),(2,vy dl)] h=some (.ret,e',h')∨Lp AP.A [0,1,2] AP.f40L0 [(0,.aC c.s 0),(1,vy ll),(2,vy dl)] h=some (.exit 0,e',h'))∧St c S' h' ov'∧Fr c h ov h' ov'∧Fin (wT c.text c.most ll dl k S.at_ S.out) S'
 |0,S,h,ov,st,he,hk=>by have:=st.ye;omega
 | k + 1, S, h, ov, st, he, hk => by
   have gs:=st.gs
   obtain⟨h1,S1,z,s1,s2,s3,s4⟩:=CP ll hll st he
   rw[wT]
   cases hz:yn c.text ll 15 1 0 S.at_ with
   | none =>
     rw[hz]at s4
     obtain⟨s4,s5⟩:=s4
     subst s5
     refine⟨[(0,.aC c.s 0),(1,vy ll),(2,vy dl),(6,I 256),(26,.bool true)],h1,ov,S1,.inl (tB ?_),s2,s3,s4,by decide⟩
     simp only[I]at *
     simp only[AP.f40L0,go_sem,gs,he,s1]
   | some zp =>
     obtain⟨z2,p1⟩:=zp
     rw[hz]at s4
     obtain⟨s4,s5⟩:=s4
     subst s5 s4
     have zb:=xZ hz
     obtain⟨y,hy⟩:∃n:Nat,z=n:=QX zb.1
     subst hy
     dsimp only
     by_cases c1:(y:Int)<256
     · rw[if_pos c1]
       have w1:IntKind.wrap .u8 (y:Int)=y:=wrap_u8 (by omega)
       obtain⟨h2,ov2,p1',p2',p3'⟩:=Jl s2 (b:=y)
       have step:aK (aQ AP.A) br AP.f40L0 (ax [(0,.aC c.s 0),(1,vy ll),(2,vy dl)] [0,1,2]) h=some (.normal,[(0,.aC c.s 0),(1,vy ll),(2,vy dl)],h2):=by
        simp only[I]at *
        simp only[AP.f40L0,go_sem,gs,he,s1,QV c1,w1,p1']
       by_cases hm:c.most≤S.out.length
       · rw[if_pos hm]
         have hl:=A6 (c:=c) (S:={S with at_:=p1}) y he hm
         obtain⟨e',q⟩:=B5 p2' (vy ll) (vy dl) (by rw[hl];decide)
         exact⟨e',h2,ov2,_,.inr (sW step q),p2',s3.trans p3',hl,by decide⟩
       · rw[if_neg hm]
         rw[Et (S:={S with at_:=p1}) _ he hm]at p2'
         obtain⟨e',h',ov',S',q1,q2,q3,q4⟩:=zK ll dl hll hdl k _ h2 ov2 p2' rfl (by dsimp only;omega)
         refine⟨e',h',ov',S', ?_,q2,(s3.trans p3').trans q3,q4⟩
         rcases q1 with q1|q1
         · exact .inl (sW step q1)
         · exact .inr (sW step q1)
     · rw [if_neg c1]
       by_cases c2:(y:Int)=256
       · rw[if_pos c2]
         refine⟨[(0,.aC c.s 0),(1,vy ll),(2,vy dl),(6,I y),(26,.bool true)],h1,ov,_,.inl (tB ?_),s2,s3, ?_⟩
         · have c2':=tS c2
           simp only[I]at *
           simp only[AP.f40L0,go_sem,gs,he,s1,QT c1,c2']
         · simp only[Fin];rw[he]
       · rw[if_neg c2]
         have c2':=tR c2
         obtain⟨h2,ov2,S2,r1,r2,r3,r4⟩:=IC dl hdl s2 he y (by omega)
         have step:aK (aQ AP.A) br AP.f40L0 (ax [(0,.aC c.s 0),(1,vy ll),(2,vy dl)] [0,1,2]) h=some (.normal,[(0,.aC c.s 0),(1,vy ll),(2,vy dl)],h2):=by
          simp only[I]at *
          simp only[AP.f40L0,go_sem,gs,he,s1,QT c1,c2',r1]
         dsimp only at r4
         rw[Int.toNat_natCast]
         cases hc:Bi c.text c.most dl y p1 S.out with
         | error q =>
           rw[hc]at r4
           obtain⟨e',q'⟩:=B5 r2 (vy ll) (vy dl) (by rw[r4.1];exact r4.2)
           exact⟨e',h2,ov2,S2,.inr (sW step q'),r2,s3.trans r3,r4⟩
         | ok q =>
           obtain⟨p2,o⟩:=q
           rw[hc]at r4
           simp only[Fin]at r4
           subst r4
           have hge:=EW hc
           obtain⟨e',h',ov',S',q1,q2,q3,q4⟩:=zK ll dl hll hdl k _ h2 ov2 r2 rfl (by dsimp only;omega)
           refine⟨e',h',ov',S', ?_,q2,(s3.trans r3).trans q3,q4⟩
           rcases q1 with q1|q1
           · exact .inl (sW step q1)
           · exact .inr (sW step q1)
theorem GR {c:SC} {S:SS} {h:H} {ov:AV} (ll dl:List Int) (hll:ll.length<100000) (hdl:dl.length<100000) (st:St c S h ov) (he:S.e=0):
 ∃h' ov' S',aQ AP.A 40 [.aC c.s 0,vy ll,vy dl] h=some (.bM [],h')∧St c S' h' ov'∧Fr c h ov h' ov'∧Fin (wT c.text c.most ll dl (8* c.text.size+1) S.at_ S.out) S':=by
 obtain⟨e',h',ov',S',q1,q2,q3,q4⟩:=zK ll dl hll hdl (8* c.text.size+1) S h ov st he (by omega)
 refine⟨h',ov',S', ?_,q2,q3,q4⟩
 rcases q1 with q1|q1
 · refine tq (fn:=AP.f40) (e:=e') (vs:=[]) rfl rfl rfl ?_ rfl
   simp only[AP.f40,go_sem,rQ,q1]
 · refine vQ (fn:=AP.f40) (e:=[]) (vs:=[]) rfl rfl rfl ?_ rfl
   simp only[AP.f40,go_sem,rQ,q1]
theorem vp (h:H):∀id c,h.get id=some c→h.dJ.get id=some c:=fun _ _ q=>q
def Ch (P:AV→Bool):List AV→Nat→Int
 |[],_=> -1
 |v::r,i=>if P v then(i:Int)else Ch P r (i+1)
theorem E9 (P:AV→Bool):∀(l:List AV) (i:Nat),(0≤Ch P l i)↔l.any P=true
 |[],i=>by simp [Ch]
 | v :: r, i => by
   rw[Ch]
   by_cases h:P v
   · rw[if_pos h];simp [h]
   · rw[if_neg h,E9 P r];simp [h]
theorem Ck {x fv : AV} {cs : List AV} (P : AV → Bool) (hP : ∀ v ∈ cs, ∀ g : H, j7 (aQ AP.A) [v] g fv = some (.bool (P v), g)) (hl : cs.length < 1000000000) (h : H) (rd : Rd h x cs) :
 ∀ (m i : Nat), m + i = cs.length → (∃ e', Lp AP.A [0, 1, 7, 8] AP.f84L0 [(0, x), (1, fv), (7, I cs.length), (8, I i)] h = some (.exit 0, e', h) ∧ Ch P (cs.drop i) i = -1) ∨
   ∃e',Lp AP.A [0,1,7,8] AP.f84L0 [(0,x),(1,fv),(7,I cs.length),(8,I i)] h=some (.ret,e',h)∧look e' 4=I (Ch P (cs.drop i) i)
 | 0, i, hm => by
   left
   refine⟨[(0,x),(1,fv),(7,I cs.length),(8,I i),(9,.bool false)],sV ?_,by rw[List.drop_eq_nil_of_le (by omega)];rfl⟩
   have c1:¬(i:Int)<(cs.length:Int):=by omega
   simp only[I]at *
   simp only[AP.f84L0,go_sem,QT c1]
 | m + 1, i, hm => by
   have hi:i<cs.length:=by omega
   obtain⟨v,hv⟩:∃v,cs[i]?=some v:=⟨_,QR hi⟩
   have hd:cs.drop i=v::cs.drop (i+1):=by
    rw[List.drop_eq_getElem_cons hi];rw[QR hi]at hv;rw[uv hv]
   obtain⟨p,p1,p2⟩:=rd.elem hv
   have p3:=p2 h (fun _ _ q=>q)
   have c1:(i:Int)<(cs.length:Int):=by omega
   have hPv:=hP v (uL hv) h
   have w1:IntKind.wrap .i64 ((i:Int)+1)=((i+1:Nat):Int):=u7 (n:=i+1) (by omega)
   rw[hd,Ch]
   cases hb:P v with
   | true =>
     right
     rw[hb]at hPv
     rw[if_pos rfl]
     refine⟨[(4,I i)],tB ?_,rfl⟩
     simp only[I]at *
     simp only[AP.f84L0,go_sem,QV c1,p1,p3,hPv]
   | false =>
     rw[hb]at hPv
     have step:aK (aQ AP.A) br AP.f84L0 (ax [(0,x),(1,fv),(7,I cs.length),(8,I i)] [0,1,7,8]) h=some (.normal,[(0,x),(1,fv),(7,I cs.length),(8,I (i+1:Nat))],h):=by
      simp only[I]at *
      simp only[AP.f84L0,go_sem,QV c1,p1,p3,hPv,w1]
     rw[if_neg (by decide)]
     rcases Ck P hP hl h rd m (i+1) (by omega)with ⟨e',q1,q2⟩|⟨e',q1,q2⟩
     · exact .inl ⟨e',sW step q1,q2⟩
     · exact .inr ⟨e',sW step q1,q2⟩
theorem Kh {x fv:AV} {cs:List AV} (P:AV→Bool) (hP:∀v∈cs,∀g:H,j7 (aQ AP.A) [v] g fv=some (.bool (P v),g)) (hl:cs.length<1000000000) (h:H) (rd:Rd h x cs):
 aQ AP.A 84 [x,fv] h=some (I (Ch P cs 0),h):=by
 have rd':=rd.mono (vp h)
 have ln:=rd.len
 rcases Ck P hP hl h.dJ rd' cs.length 0 (by omega)with ⟨e',q1,q2⟩|⟨e',q1,q2⟩
 · rw[Ra]at q2
   rw[q2]
   refine tL (fn:=AP.f84) (h2:=h.dJ) (e:=[(4,I (-1))]) rfl rfl rfl ?_ rfl rfl
   have q1':Lp AP.A [0,1,7,8] AP.f84L0 [(0,x),(1,fv),(7,I cs.length),(8,I 0)] h.dJ=some (.exit 0,e',h.dJ):=q1
   clear q1
   simp only[I]at *
   simp only[AP.f84,go_sem,rQ,ln,q1']
 · rw[Ra]at q2
   refine tL (fn:=AP.f84) (h2:=h.dJ) (e:=e') (vs:=[I (Ch P cs 0)]) rfl rfl rfl ?_ (by simp only[AP.f84,cr,mV,q2];rfl) rfl
   have q1':Lp AP.A [0,1,7,8] AP.f84L0 [(0,x),(1,fv),(7,I cs.length),(8,I 0)] h.dJ=some (.ret,e',h.dJ):=q1
   clear q1
   simp only[I]at *
   simp only[AP.f84,go_sem,rQ,ln,q1']
theorem B8 {x fv:AV} {cs:List AV} (P:AV→Bool) (hP:∀v∈cs,∀g:H,j7 (aQ AP.A) [v] g fv=some (.bool (P v),g)) (hl:cs.length<1000000000) (h:H) (rd:Rd h x cs):
 aQ AP.A 83 [x,fv] h=some (.bool (cs.any P),h):=by
 have k1:=Kh P hP hl h.dJ (rd.mono (vp h))
 have ha:=E9 P cs 0
 refine tL (fn:=AP.f83) (h2:=h.dJ) (e:=[(4,.bool (cs.any P))]) rfl rfl rfl ?_ rfl rfl
 cases hb:cs.any P with
 | true =>
   have c1:0≤Ch P cs 0:=ha.2 hb
   simp only[I]at *
   simp only[AP.f83,go_sem,k1,QV c1]
 | false =>
   have c1:¬0≤Ch P cs 0:=by rw[ha,hb];decide
   simp only[I]at *
   simp only[AP.f83,go_sem,k1,QT c1]
def DZ (v:AV):Bool:=match v with| .int _ n=>decide (n<0)||decide (15<n)|_=>true
theorem NQ (n:Int) (h:H):aQ AP.A 82 [I n] h=some (.bool (DZ (I n)),h):=by
 by_cases c1:n<0
 · refine tL (fn:=AP.f82) (h2:=h.dJ) (e:=[(2,.bool true)]) rfl rfl rfl ?_ rfl ?_
   · simp only[I]at *
     simp only[AP.f82,go_sem,QV c1]
   · simp [DZ,I,c1];rfl
 · refine tL (fn:=AP.f82) (h2:=h.dJ) (e:=[(2,.bool (decide (15<n)))]) rfl rfl rfl ?_ rfl ?_
   · simp only[I]at *
     simp only[AP.f82,go_sem,QT c1]
   · simp [DZ,I,c1];rfl
def zQ (l:List Int):Bool:=decide (1≤l.length)&&decide (l.length≤288)&& !((ints l).any DZ)
theorem KL (h:H) (x:AV) (l:List Int) (hl:l.length<100000) (rd:Rd h x (ints l)):aQ AP.A 81 [x] h=some (.bool (zQ l),h):=by
 have hP:∀v∈ints l,∀g:H,j7 (aQ AP.A) [v] g (.fn 82 [] [])=some (.bool (DZ v),g):=by
  intro v hv g
  obtain⟨n,_,rfl⟩:=QZ.1 hv
  rw[nC];exact NQ n g
 have k1:=B8 DZ hP (by simp;omega) h.dJ (rd.mono (vp h))
 have ln:=rd.len
 rw[pC]at ln
 refine tL (fn:=AP.f81) (h2:=h.dJ) (e:=[(2,.bool (zQ l))]) rfl rfl rfl ?_ rfl rfl
 unfold zQ
 by_cases c1:1≤l.length
 · have c1':(1:Int)≤(l.length:Int):=by omega
   by_cases c2:l.length≤288
   · have c2':(l.length:Int)≤288:=by omega
     simp only[I]at *
     simp only[AP.f81,go_sem,ln,QV c1',QV c2',QV c1,QV c2,k1,Bool.true_and]
   · have c2':¬(l.length:Int)≤288:=by omega
     simp only[I]at *
     simp only[AP.f81,go_sem,ln,QV c1',QT c2',QV c1,QT c2,Bool.true_and,Bool.false_and]
 · have c1':¬(1:Int)≤(l.length:Int):=by omega
   simp only[I]at *
   simp only[AP.f81,go_sem,ln,QT c1',QT c1,Bool.false_and]
def vt (l:List Int):Int:=if zQ l=false then 300 else if vr l 15<0 then 301 else if 0<vr l 15 then 302 else 0
theorem AZ {l:List Int} (h:zQ l=true):∀y∈l,0≤y∧y<16:=by
 intro y hy
 simp only[zQ,uI,Bool.not_eq_true',List.any_eq_false]at h
 have:=h.2 (I y) (QZ.2 ⟨y,hy,rfl⟩)
 simp [DZ,I]at this
 omega
theorem D4 (h : H) (x : AV) (l : List Int) (hl : l.length < 100000) (rd : Rd h x (ints l)) : aQ AP.A 65 [x] h = some (I (vt l), h) := by
 have rd':=rd.mono (vp h)
 have k1:=KL h.dJ x l hl rd'
 unfold vt
 by_cases hm:zQ l=true
 · have k2:=yW h.dJ x l hl (AZ hm) rd'
   have hb:vy l=.aJ (nh 49 (wq l)) 0:=rfl
   have g:(nh 49 (wq l))[48]?=some (I (vr l 15)):=by rw[fE (by omega)];rfl
   rw[hb]at k2
   clear hb
   generalize nh 49 (wq l)=T at k2 g
   rw[hm]at k1 ⊢
   rw[if_neg (by decide)]
   by_cases c1:vr l 15<0
   · rw[if_pos c1]
     refine tL (fn:=AP.f65) (h2:=h.dJ) (e:=[(2,I 301)]) rfl rfl rfl ?_ rfl rfl
     simp only[I]at *
     simp only[AP.f65,go_sem,k1,k2,g,QV c1]
   · rw[if_neg c1]
     by_cases c2:0<vr l 15
     · rw[if_pos c2]
       refine tL (fn:=AP.f65) (h2:=h.dJ) (e:=[(2,I 302)]) rfl rfl rfl ?_ rfl rfl
       simp only[I]at *
       simp only[AP.f65,go_sem,k1,k2,g,QT c1,QV c2]
     · rw[if_neg c2]
       refine tL (fn:=AP.f65) (h2:=h.dJ) (e:=[(2,I 0)]) rfl rfl rfl ?_ rfl rfl
       simp only[I]at *
       simp only[AP.f65,go_sem,k1,k2,g,QT c1,QT c2]
 · have hm':zQ l=false:=by simpa using hm
   rw[hm']at k1 ⊢
   rw[if_pos rfl]
   refine tL (fn:=AP.f65) (h2:=h.dJ) (e:=[(2,I 300)]) rfl rfl rfl ?_ rfl rfl
   simp only[I]at *
   simp only[AP.f65,go_sem,k1]
def JE:List Int→Int→Int
 |[],s=>s
 |x::r,s=>JE r (s+x)
theorem Bw {x:AV} {l:List Int} (hl:l.length<100000) (hr:∀y∈l,0≤y∧y<16) (h:H) (rd:Rd h x (ints l)):
 ∀(q p:List Int) (s:Int),l=p++q→0≤s→s≤16* p.length→∃e',Lp AP.A [3,6,7,8] AP.f66L0 [(3,I s),(6,x),(7,I l.length),(8,I p.length)] h=some (.exit 0,e',h)∧look e' 3=I (JE q s)
 | [], p, s, hpq, hs0, hs1 => by
   refine⟨[(3,I s),(6,x),(7,I l.length),(8,I p.length),(9,.bool false)],sV ?_,rfl⟩
   have c1:¬(p.length:Int)<(l.length:Int):=by rw[hpq];simp
   simp only[I]at *
   simp only[AP.f66L0,go_sem,QT c1]
 | y :: q, p, s, hpq, hs0, hs1 => by
   have hlen:l.length=p.length+(q.length+1):=by rw[hpq];simp
   have c1:(p.length:Int)<(l.length:Int):=by omega
   have hy:=hr y (by rw[hpq];simp)
   have hv:(ints l)[p.length]?=some (I y):=sB (by rw[hpq];simp)
   obtain⟨a,p1,p2⟩:=rd.elem hv
   have p3:=p2 h (fun _ _ q=>q)
   have w1:IntKind.wrap .i64 (s+y)=s+y:=tw (by omega) (by omega)
   have w2:IntKind.wrap .i64 ((p.length:Int)+1)=(((p++[y]).length:Nat):Int):=by
    rw[u1];exact u7 (n:=p.length+1) (by omega)
   have step:aK (aQ AP.A) br AP.f66L0 (ax [(3,I s),(6,x),(7,I l.length),(8,I p.length)] [3,6,7,8]) h=some (.normal,[(3,I (s+y)),(6,x),(7,I l.length),(8,I (p++[y]).length)],h):=by
    simp only[I]at *
    simp only[AP.f66L0,sg,qp,qm,qo,qn,oF,sK,sJ,sh,sq,sx,su,r9,sf,r8,rZ,rU,rW,rD,rE,pN,ni,mD,mJ,kN,rS,rR,oJ,oK,sM,qS,sH,qE,ou,om,Nat.reduceEqDiff,ne_eq,not_false_eq_true,lG,lj,QV c1,p1,p3,w1,w2]
   obtain⟨e',q1,q2⟩:=Bw hl hr h rd q (p++[y]) (s+y) (by rw[hpq];simp) (by omega) (by simp;omega)
   exact⟨e',sW step q1,q2⟩
def wV (l:List Int):Bool:=decide (JE l 0≤1)
theorem Jt (h:H) (x:AV) (l:List Int) (hl:l.length<100000) (hr:∀y∈l,0≤y∧y<16) (rd:Rd h x (ints l)):aQ AP.A 66 [x] h=some (.bool (wV l),h):=by
 have rd':=rd.mono (vp h)
 have ln:=rd.len
 rw[pC]at ln
 obtain⟨e',q1,q2⟩:=Bw hl hr h.dJ rd' l [] 0 rfl (by omega) (by simp)
 have q1':Lp AP.A [3,6,7,8] AP.f66L0 [(3,I 0),(6,x),(7,I l.length),(8,I 0)] h.dJ=some (.exit 0,e',h.dJ):=q1
 clear q1
 refine tL (fn:=AP.f66) (h2:=h.dJ) (e:=[(2,.bool (wV l))]) rfl rfl rfl ?_ rfl rfl
 simp only[I,wV]at *
 simp only[AP.f66,go_sem,rQ,ln,q1',q2]
theorem CY {n:Nat} (h:n<18446744073709551616):IntKind.wrap .u64 (n:Int)=n:=by
 have e:IntKind.wrap .u64 (n:Int)=(n:Int)%18446744073709551616:=by simp [IntKind.wrap,IntKind.bits,IntKind.signed]
 rw[e];omega
theorem BN {a:Nat} (ha:a<4294967296):bits .and .u64 (a:Int) 4294967295=(a:Int):=by
 show IntKind.wrap .u64 (((BitVec.ofInt 64 (a:Int)&&&BitVec.ofInt 64 ((4294967295:Nat):Int)).toNat:Nat):Int)=_
 rw[BitVec.toNat_and,xG 64 a (by omega),xG 64 4294967295 (by omega)]
 rw[show 4294967295=2^32-1 from rfl,Nat.and_two_pow_sub_one_eq_mod,Nat.mod_eq_of_lt (by simpa using ha)]
 exact CY (by omega)
theorem Hr {a:Nat} (ha:a<4294967296):oV .shr .u64 (a:Int) 32=some (.int .u64 0):=by
 have:(a:Int).fdiv 4294967296=0:=by rw[Int.fdiv_eq_ediv_of_nonneg _ (by omega)];omega
 simp [oV,IntKind.bits,this]
theorem Kk (h:H) (a b:Nat) (ha:a<4294967296) (hb:b<4294967296) (hab:a* b<4294967296):aQ AP.A 78 [.int .u64 a,.int .u64 b] h=some (.bM [.int .u64 0,.int .u64 (a* b:Nat)],h):=by
 have a1:=BN ha
 have a2:=BN hb
 have s1:=Hr ha
 have s2:=Hr hb
 have s3:=Hr hab
 have w1:IntKind.wrap .u64 ((a:Int)* b)=((a* b:Nat):Int):=by rw[show(a:Int)* b=((a* b:Nat):Int)by simp];exact CY (by omega)
 have w0:IntKind.wrap .u64 0=0:=by decide
 have z1:(0:Int)* b=0:=by omega
 have z2:(a:Int)* 0=0:=by omega
 have s0:oV .shr .u64 0 32=some (.int .u64 0):=Hr (a:=0) (by omega)
 have a0:bits .and .u64 0 4294967295=0:=BN (a:=0) (by omega)
 refine tL (fn:=AP.f78) (h2:=h.dJ) (e:=[(4,.int .u64 0),(5,.int .u64 (a* b:Nat))]) rfl rfl rfl ?_ rfl rfl
 simp only[AP.f78,go_sem,a1,a2,s1,s2,s3,w1,w0,z1,z2,s0,a0,Int.zero_mul,Int.add_zero]
theorem Pf (h:H) (a b:Nat) (ha:a<4294967296) (hb:b<4294967296) (hab:a* b<4294967296):aQ AP.A 63 [.int .u64 a,.int .u64 b] h=some (.bM [.int .u64 0,.int .u64 (a* b:Nat)],h):=by
 have k:=Kk h.dJ a b ha hb hab
 refine tL (fn:=AP.f63) (h2:=h.dJ) (e:=[(4,.int .u64 0),(5,.int .u64 (a* b:Nat))]) rfl rfl rfl ?_ rfl rfl
 simp only[AP.f63,go_sem,k]
theorem xY:∀(B V A C:List AV),V.length=B.length→setFrom (A++(B++C)) A.length V=A++(V++C)
 |[],[],A,C,_=>rfl
 | b :: B, v :: V, A, C, h => by
   rw[oU]
   have h1:(A++(b::B++C)).set A.length v=(A++[v])++(B++C):=by
    rw[List.set_append_right _ _ (uH _)];simp
   rw[h1]
   have h2:=xY B V (A++[v]) C (by simpa using h)
   rw[u1]at h2
   rw[show A.length+1=A.length+[v].length by rfl,h2];simp
 |[],v::V,A,C,h=>by simp at h
 |b::B,[],A,C,h=>by simp at h
theorem HC (n:Nat) {v:AV} (hv:v.sc=true):AV.aB (List.replicate n v)=true:=by
 induction n with
 |zero=>rfl
 |succ n ih=>rw[List.replicate_succ,pT,hv,ih];rfl
theorem Ev (v:AV):∀n,dC n [v]=List.replicate n v
 |0=>rfl
 |n+1=>by rw[dC,Ev v n];rfl
theorem Jp {k y:Nat} (h:k≤y):jX (I k) y=some k:=by
 simp [jX,nu,I];omega
theorem Iu {h:H} {id N k:Nat} {cs:List AV} (hg:h.get id=some cs) (hN:cs.length=N) (hk:k≤N):rK h 1 (.aD id 0 N 1) (some (I k)) none none=some (.aD id k (N-k) 1):=by
 simp [rK,hg,hN,aA,Jp hk]
theorem Ga {h:H} {id N M k:Nat} {cs:List AV} (hg:h.get id=some cs) (hN:cs.length=N) (hM:M≤N) (hk:k≤N):rK h 1 (.aD id 0 M 1) none (some (I k)) none=some (.aD id 0 k 1):=by
 have:jX (I k) N=some k:=Jp hk
 simp [rK,hg,hN,aA,this,hM]
def yD (v:AV) (k N:Nat):List AV:=List.replicate k v++List.replicate (N-k) (I 0)
theorem Jm {v:AV} {k N:Nat} (h:k≤N):(yD v k N).length=N:=by simp [yD];omega
theorem FK {v:AV} {k N m:Nat} (h:k+m≤N):setFrom (yD v k N) k (List.replicate m v)=yD v (k+m) N:=by
 have e:List.replicate (N-k) (I 0)=List.replicate m (I 0)++List.replicate (N-(k+m)) (I 0):=by
  rw[List.replicate_append_replicate];congr 1;omega
 have:=xY (List.replicate m (I 0)) (List.replicate m v) (List.replicate k v) (List.replicate (N-(k+m)) (I 0)) (by simp)
 rw[Q5]at this
 rw[yD,e,this,yD,←Q2,List.replicate_append_replicate]
theorem Bu (v : AV) (hv : v.sc = true) (N id : Nat) (hN : N < 1000000000) : ∀ (f k : Nat) (h : H), N - k ≤ f → 0 < k → k ≤ N → h.get id = some (yD v k N) → h.floor ≤ id →
 ∃e' h',Lp AP.A [7,8] AP.f43L0 [(7,.aD id 0 N 1),(8,I k)] h=some (.exit 0,e',h')∧look e' 7=.aD id 0 N 1∧h'.get id=some (yD v N N)∧h'.next=h.next
 | f, k, h, hf, hk, hkN, hg, hfl => by
   by_cases hlt:k<N
   · have c1:(k:Int)<(N:Int):=by omega
     have hlen:=Jm (v:=v) hkN
     have s1:=Iu hg hlen hkN
     have s2:=Ga hg hlen (uH N) hkN
     obtain⟨m,hm⟩:∃m,m=Nat.min k (N-k):=⟨_,rfl⟩
     have hm1:0<m∧m≤k∧k+m≤N:=by
      rw[hm];have:Nat.min k (N-k)=min k (N-k):=rfl
      rw[this];omega
     have hsrc:aR h 1 (.aD id 0 k 1)=some (k,List.replicate k v):=by
      simp only[aR,if_true,hg,uE]
      rw[if_pos (by rw[hlen];omega)]
      simp [yD]
     have cp:gR h 1 (.aD id k (N-k) 1) (.aD id 0 k 1)=some (I m,h.set id (yD v (k+m) N)):=by
      unfold gR
      rw[hsrc,uE]
      simp only[HC k hv,hfl,and_self,true_and,if_true,hg,uE,hlen]
      rw[if_pos (by omega),←hm,Nat.mul_one,List.take_replicate,Nat.min_eq_left hm1.2.1,FK hm1.2.2];rfl
     have w1:IntKind.wrap .i64 ((k:Int)+m)=((k+m:Nat):Int):=by rw[show(k:Int)+m=((k+m:Nat):Int)by omega];exact u7 (by omega)
     have al:iO false (.aD id 0 N 1)=some (I N):=rfl
     have step:aK (aQ AP.A) br AP.f43L0 (ax [(7,.aD id 0 N 1),(8,I k)] [7,8]) h=some (.normal,[(7,.aD id 0 N 1),(8,I (k+m:Nat))],h.set id (yD v (k+m) N)):=by
      simp only[I]at *
      simp only[AP.f43L0,go_sem,al,QV c1,QU,Rp,s1,s2,cp,w1]
     match f,hf with
     |0,hf=>omega
     | f + 1, hf =>
       obtain⟨e',h',q1,q2,q3,q4⟩:=Bu v hv N id hN f (k+m) (h.set id (yD v (k+m) N)) (by omega) (by omega) (by omega) (by rw[H.dh,if_pos rfl,hg];rfl) (by simpa using hfl)
       exact⟨e',h',sW step q1,q2,q3,by rw[q4];simp⟩
   · have hkN':k=N:=by omega
     subst hkN'
     have c1:¬(k:Int)<(k:Int):=by omega
     have al:iO false (.aD id 0 k 1)=some (I k):=rfl
     refine⟨[(7,.aD id 0 k 1),(8,I k),(37,.bool false)],h,sV ?_,rfl,hg,rfl⟩
     simp only[I]at *
     simp only[AP.f43L0,go_sem,al,QT c1]
theorem xN (h : H) (x : AV) (y : Int) (N : Nat) (hN : N < 1000000000) (rd : Rd h x [I y]) : aQ AP.A 43 [x, I N] h = some (.aU false (ints (List.replicate N y)) 0 N 1, h) := by
 have rd':=rd.mono (vp h)
 have ln:=rd.len
 have mc:=Pf h.dJ 1 N (by omega) (by omega) (by omega)
 rw[Nat.one_mul]at mc
 have mc':aQ AP.A 63 [.int .u64 1,.int .u64 N] h.dJ=some (.bM [.int .u64 0,.int .u64 N],h.dJ):=mc
 clear mc
 have c0:¬(N:Int)<0:=by omega
 have w1:IntKind.wrap .u64 1=1:=by decide
 have w2:IntKind.wrap .u64 (N:Int)=N:=CY (by omega)
 have w3:IntKind.wrap .i64 (N:Int)=N:=u7 (by omega)
 have c1:¬(0:Int)<0:=by omega
 have c2:¬(9223372036854775807:Int)<(N:Int):=by omega
 obtain⟨id,hid⟩:∃i,i=h.next:=⟨_,rfl⟩
 obtain⟨g1,hg1⟩:∃g,g=h.dJ.alloc (List.replicate N (I 0)):=⟨_,rfl⟩
 have e1:g1.get id=some (List.replicate N (I 0)):=by rw[hg1,H.aV,if_pos (by rw[hid];rfl)]
 have bt:aX [(29,I N),(28,.int .u64 N),(0,x),(6,.int .u64 N)] (.iF 1 8 [I 0] (.t 29) (.t 29))=some (List.replicate N (I 0),fun i=>.aD i 0 N 1):=by
  have c3:(8:Int)* N≤281474976710656:=by omega
  have c4:(N:Int)≤9223372036854775807:=by omega
  simp [aX,I,Ev,c3,c4]
 have hcp : ∃ (k : Nat) (h2 : H), gR g1 1 (.aD id 0 N 1) x = some (I k, h2) ∧ ((k = 0 ∧ N = 0) ∨ (k = 1 ∧ 0 < N)) ∧ h2.get id = some (yD (I y) k N) ∧ h2.floor = h.next ∧ h2.next = g1.next := by
  have rd2:aR g1 1 x=some (1,[I y]):=(rd.mono (fun i c q=>by rw[hg1,H.aV,if_neg (by have:=h.lt _ _ q;show i≠h.next;omega)];exact q)).1
  refine⟨Nat.min 1 N,g1.set id (yD (I y) (Nat.min 1 N) N), ?_, ?_,by rw[H.dh,if_pos rfl,e1];rfl,by rw[hg1];simp,by simp⟩
  · unfold gR
    rw[rd2,uE]
    have hf:g1.floor≤id:=by rw[hg1,hid];simp
    have ha:AV.aB [I y]=true:=rfl
    simp only[ha,hf,and_self,true_and,if_true,e1,uE,Q5]
    rw[if_pos (by omega),Nat.mul_one]
    have hz:List.replicate N (I 0)=yD (I y) 0 N:=by simp [yD]
    rw[hz]
    have ht:[I y].take (Nat.min 1 N)=List.replicate (Nat.min 1 N) (I y):=by
     cases N with
     |zero=>rfl
     | succ n => have : Nat.min 1 (n + 1) = 1 := by show min 1 (n + 1) = 1; omega
                 rw[this];rfl
    rw[ht,FK (by show 0+min 1 N≤N;omega),uM];rfl
  · cases N with
    |zero=>left;exact⟨rfl,rfl⟩
    |succ n=>right;exact⟨by show min 1 (n+1)=1;omega,by omega⟩
 obtain⟨k,h2,cp1,cp2,cp3,cp4,cp5⟩:=hcp
 have lp:∃e' h3,Lp AP.A [7,8] AP.f43L0 [(7,.aD id 0 N 1),(8,I k)] h2=some (.exit 0,e',h3)∧look e' 7=.aD id 0 N 1∧h3.get id=some (yD (I y) N N):=by
  rcases cp2 with ⟨rfl,rfl⟩|⟨rfl,hN0⟩
  · refine⟨[(7,.aD id 0 0 1),(8,I 0),(37,.bool false)],h2,sV ?_,rfl,cp3⟩
    have al:iO false (.aD id 0 0 1)=some (I 0):=rfl
    simp only[I]at *
    simp only[AP.f43L0,go_sem,al,Int.natCast_zero]
  · obtain⟨e',h',q1,q2,q3,_⟩:=Bu (I y) rfl N id hN N 1 h2 (by omega) (by omega) (by omega) cp3 (by rw[cp4,hid];exact uH _)
    exact⟨e',h',q1,q2,q3⟩
 obtain⟨e',h3,q1,q2,q3⟩:=lp
 refine tL (fn:=AP.f43) (h2:=h3) (e:=[(4,.aD id 0 N 1)]) (vs:=[.aD id 0 N 1]) rfl rfl rfl ?_ rfl ?_
 · have al:iO false x=some (I 1):=ln
   have hn:h.dJ.next=id:=by rw[hid];rfl
   simp only[I]at *
   simp only[AP.f43,go_sem,al,QT c0,w1,w2,w3,mc',QT c1,QT c2,bt,←hg1,hn,cp1,rQ,q1,q2]
 · have hr:yD (I y) N N=ints (List.replicate N y):=by simp [yD,ints]
   show snap h3.get h.next 16 true (.aD id 0 N 1)=_
   unfold snap
   rw[if_neg (by omega),q3,uE,hr,if_pos (by simp)]
   have ht:((ints (List.replicate N y)).drop 0).take (N* 1)=ints (List.replicate N y):=by
    rw[Ra,Nat.mul_one,uW (by simp)]
   rw[ht,wZ];rfl
theorem Ni (h:H) (N:Nat) (hN0:0<N) (hN:N<1000000000):aQ AP.A 76 [.aO,I N] h=some (.aD h.next 0 0 1,h.alloc (List.replicate N (I 0))):=by
 have c0:¬(N:Int)<0:=by omega
 have c1:(0:Int)<N:=by omega
 have w0:IntKind.wrap .i64 (0-0)=0:=by decide
 have w1:IntKind.wrap .i64 ((N:Int)-0)=N:=by rw[Int.sub_zero];exact u7 (by omega)
 have a1:pO .aO=some (I 0):=rfl
 have a2:iO false .aO=some (I 0):=rfl
 have a3:rK h 1 .aO none (some (I 0)) none=some .aO:=rfl
 have a4:gQ h 1 8 [I 0] .aO (I N)=some (.aD h.next 0 N 1,h.alloc (List.replicate N (I 0))):=by
  have c3:(N:Int)≤281474976710656:=by omega
  have c4:(N:Int)* 8≤281474976710656:=by omega
  have c5:roomy 8 N=true:=by simp [roomy];omega
  simp [gQ,I,c3,c4,c5,Ev,hN0]
 have a5:rK (h.alloc (List.replicate N (I 0))) 1 (.aD h.next 0 N 1) none (some (I 0)) none=some (.aD h.next 0 0 1):=
  Ga (by rw[H.aV,if_pos rfl]) (by simp) (uH _) (Nat.zero_le _)
 refine tq (fn:=AP.f76) (e:=[(4,.aD h.next 0 0 1)]) rfl rfl rfl ?_ rfl
 simp only[I]at *
 simp only[AP.f76,go_sem,QT c0,QV c1,w0,w1,a1,a2,QU,Rp,a3,a4,a5]
def cat (ps:List (AV×List Int)):List Int:=ps.flatMap (·.2)
theorem EO (p:AV×List Int) (ps:List (AV×List Int)):cat (p::ps)=p.2++cat ps:=by simp [cat]
theorem Ag {h:H} {x:AV} {all:List (AV×List Int)} (rd:Rd h x (all.map (·.1))) (hp:∀p∈all,Rd h p.1 (ints p.2)) (hT:(cat all).length<1000000000) (hA:all.length<1000000000):
 ∀(ps qs:List (AV×List Int)),all=qs++ps→
 ∃e',Lp AP.A [0,3,9,10,11] AP.f62L1 [(0,x),(3,I (cat qs).length),(9,x),(10,I all.length),(11,I qs.length)] h=some (.exit 0,e',h)∧look e' 0=x∧look e' 3=I (cat all).length
 | [], qs, hq => by
   rw[Q8]at hq;subst hq
   refine⟨[(0,x),(3,I (cat all).length),(9,x),(10,I all.length),(11,I all.length),(12,.bool false)],sV ?_,rfl,rfl⟩
   have c1:¬(all.length:Int)<(all.length:Int):=by omega
   simp only[I]at *
   simp only[AP.f62L1,go_sem,QT c1]
 | p :: ps, qs, hq => by
   have hlen:all.length=qs.length+(ps.length+1):=by rw[hq];simp
   have hct:(cat all).length=(cat qs).length+(p.2.length+(cat ps).length):=by rw[hq];simp [cat]
   have c1:(qs.length:Int)<(all.length:Int):=by omega
   have hv:(all.map (·.1))[qs.length]?=some p.1:=by rw[hq];simp
   obtain⟨a,p1,p2⟩:=rd.elem hv
   have p3:=p2 h (fun _ _ q=>q)
   have ln:=(hp p (by rw[hq];simp)).len
   rw[pC]at ln
   have w1:IntKind.wrap .i64 (((cat qs).length:Int)+p.2.length)=((cat (qs++[p])).length:Int):=by
    rw[show((cat qs).length:Int)+p.2.length=((cat (qs++[p])).length:Int)by simp [cat]];exact u7 (by simp [cat]at *;omega)
   have c2:¬((cat (qs++[p])).length:Int)<0:=by omega
   have w2:IntKind.wrap .i64 ((qs.length:Int)+1)=((qs++[p]).length:Int):=by
    rw[u1];exact u7 (n:=qs.length+1) (by omega)
   obtain⟨e',q1,q2,q3⟩:=Ag rd hp hT hA ps (qs++[p]) (by rw[hq];simp)
   have step:aK (aQ AP.A) br AP.f62L1 (ax [(0,x),(3,I (cat qs).length),(9,x),(10,I all.length),(11,I qs.length)] [0,3,9,10,11]) h=some (.normal,[(0,x),(3,I (cat (qs++[p])).length),(9,x),(10,I all.length),(11,I (qs++[p]).length)],h):=by
    generalize hB:(qs++[p]).length=B at *
    simp only[I]at *
    simp only[AP.f62L1,go_sem,QV c1,p1,p3,ln,w1,QT c2,w2]
   exact⟨e',sW step q1,q2,q3⟩
theorem Ah {h0 : H} {x : AV} {all : List (AV × List Int)} (rd : Rd h0 x (all.map (·.1))) (hp : ∀ p ∈ all, Rd h0 p.1 (ints p.2)) (hT : (cat all).length < 1000000000) (hA : all.length < 1000000000) (id : Nat) (hid : h0.next ≤ id) :
 ∀(ps qs:List (AV×List Int)) (h:H),all=qs++ps→h.floor≤id→h.get id=some (ints (cat qs)++List.replicate (cat ps).length (I 0))→(∀i c,h0.get i=some c→h.get i=some c)→
 ∃e' h',Lp AP.A [6,25,26,27] AP.f62L0 [(6,.aD id 0 (cat qs).length 1),(25,x),(26,I all.length),(27,I qs.length)] h=some (.exit 2,e',h')∧look e' 6=.aD id 0 (cat all).length 1∧h'.get id=some (ints (cat all))
 | [], qs, h, hq, hf, hg, hm => by
   rw[Q8]at hq;subst hq
   refine⟨[(6,.aD id 0 (cat all).length 1),(25,x),(26,I all.length),(27,I all.length),(28,.bool false)],h,sV ?_,rfl,by rw[hg];simp [cat]⟩
   have c1:¬(all.length:Int)<(all.length:Int):=by omega
   simp only[I]at *
   simp only[AP.f62L0,go_sem,QT c1]
 | p :: ps, qs, h, hq, hf, hg, hm => by
   have hlen:all.length=qs.length+(ps.length+1):=by rw[hq];simp
   have hct:(cat all).length=(cat qs).length+(p.2.length+(cat ps).length):=by rw[hq];simp [cat]
   have hcq:(cat (qs++[p])).length=(cat qs).length+p.2.length:=by simp [cat]
   have c1:(qs.length:Int)<(all.length:Int):=by omega
   have hv:(all.map (·.1))[qs.length]?=some p.1:=by rw[hq];simp
   obtain⟨a,p1,p2⟩:=rd.elem hv
   have p3:=p2 h hm
   have src:=((hp p (by rw[hq];simp)).mono hm).1
   rw[pC]at src
   have w2:IntKind.wrap .i64 ((qs.length:Int)+1)=((qs++[p]).length:Int):=by
    rw[u1];exact u7 (n:=qs.length+1) (by omega)
   have hz:List.replicate (cat (p::ps)).length (I 0)=List.replicate p.2.length (I 0)++List.replicate (cat ps).length (I 0):=by
    rw[List.replicate_append_replicate,EO,u1]
   have hap:∃h1,km h 1 8 (.aD id 0 (cat qs).length 1) p.1=some (.aD id 0 (cat (qs++[p])).length 1,h1)∧h1.floor=h.floor∧h1.get id=some (ints (cat (qs++[p]))++List.replicate (cat ps).length (I 0))∧∀i c,h0.get i=some c→h1.get i=some c:=by
    by_cases h0':p.2.length=0
    · have hp2:p.2=[]:=List.length_eq_zero_iff.1 h0'
      refine⟨h, ?_,rfl, ?_,hm⟩
      · unfold km
        rw[src,uE]
        unfold dF
        rw[if_pos (by simp [h0']),hcq,h0',Nat.add_zero]
      · rw[hg,EO,hp2];simp [cat,hp2]
    · refine⟨h.set id (ints (cat (qs++[p]))++List.replicate (cat ps).length (I 0)), ?_,by simp,by rw[H.dh,if_pos rfl,hg];rfl,fun i c q=> ?_⟩
      · unfold km
        rw[src,uE]
        have hs:setFrom (ints (cat qs)++List.replicate (cat (p::ps)).length (I 0)) (cat qs).length (ints p.2)=ints (cat (qs++[p]))++List.replicate (cat ps).length (I 0):=by
         have:=xY (List.replicate p.2.length (I 0)) (ints p.2) (ints (cat qs)) (List.replicate (cat ps).length (I 0)) (by simp)
         rw[pC]at this
         rw[hz,this];simp [cat,py]
        unfold dF
        dsimp only
        rw[if_neg h0',if_neg (by simp [jz])]
        rw[if_pos ⟨rfl,hf⟩,hg,uE,if_pos (by rw[hz];simp)]
        rw[Nat.mul_one,uM,hs,hcq]
      · rw[H.dh,if_neg (by have:=h0.lt _ _ q;omega)];exact hm i c q
   obtain⟨h1,ap1,ap2,ap3,ap4⟩:=hap
   obtain⟨e',h',q1,q2,q3⟩:=Ah rd hp hT hA id hid ps (qs++[p]) h1 (by rw[hq];simp) (by rw[ap2];exact hf) ap3 ap4
   have step:aK (aQ AP.A) br AP.f62L0 (ax [(6,.aD id 0 (cat qs).length 1),(25,x),(26,I all.length),(27,I qs.length)] [6,25,26,27]) h=some (.normal,[(6,.aD id 0 (cat (qs++[p])).length 1),(25,x),(26,I all.length),(27,I (qs++[p]).length)],h1):=by
    generalize hB:(qs++[p]).length=B at *
    simp only[I]at *
    simp only[AP.f62L0,go_sem,QV c1,p1,p3,ap1,w2]
   exact⟨e',h',sW step q1,q2,q3⟩
def vR (l:List Int):AV:=.aU false (ints l) 0 l.length 1
theorem xn (h:H) (l:List Int):Rd h (vR l) (ints l):=by
 refine⟨?_,by intro s e;cases e⟩
 simp [aR,vR,uW]
theorem B7 (h:H) (x:AV) (ps:List (AV×List Int)) (rd:Rd h x (ps.map (·.1))) (hp:∀p∈ps,Rd h p.1 (ints p.2)) (hT:(cat ps).length<1000000000) (hA:ps.length<1000000000) (h0:0<(cat ps).length):aQ AP.A 62 [x] h=some (vR (cat ps),h):=by
 have rd':=rd.mono (vp h)
 have hp':∀p∈ps,Rd h.dJ p.1 (ints p.2):=fun p q=>(hp p q).mono (vp h)
 have ln:=rd.len
 rw[Ru]at ln
 obtain⟨e1,a1,a2,a3⟩:=Ag rd' hp' hT hA ps [] rfl
 have a1':Lp AP.A [0,3,9,10,11] AP.f62L1 [(0,x),(3,I 0),(9,x),(10,I ps.length),(11,I 0)] h.dJ=some (.exit 0,e1,h.dJ):=a1
 clear a1
 have gc:=Ni h.dJ (cat ps).length h0 hT
 obtain⟨h1,hh1⟩:∃g,g=h.dJ.alloc (List.replicate (cat ps).length (I 0)):=⟨_,rfl⟩
 rw[←hh1]at gc
 obtain⟨e2,h2,b1,b2,b3⟩:=Ah rd' hp' hT hA h.next (uH _) ps [] h1 rfl (by rw[hh1];simp) (by rw[hh1,H.aV,if_pos (show h.next=h.dJ.next from rfl)];rfl)
  (fun i c q=>by rw[hh1,H.aV,if_neg (by have:=h.dJ.lt _ _ q;omega)];exact q)
 have b1':Lp AP.A [6,25,26,27] AP.f62L0 [(6,.aD h.next 0 0 1),(25,x),(26,I ps.length),(27,I 0)] h1=some (.exit 2,e2,h2):=b1
 clear b1
 have hn:h.dJ.next=h.next:=rfl
 refine tL (fn:=AP.f62) (h2:=h2) (e:=[(2,.aD h.next 0 (cat ps).length 1)]) (vs:=[.aD h.next 0 (cat ps).length 1]) rfl rfl rfl ?_ rfl ?_
 · simp only[I]at *
   simp only[AP.f62,go_sem,ln,rQ,a1',a2,a3,gc,hn,b1',b2]
 · show snap h2.get h.next 16 true (.aD h.next 0 (cat ps).length 1)=_
   unfold snap
   rw[if_neg (by omega),b3,uE,if_pos (by simp)]
   have ht:((ints (cat ps)).drop 0).take ((cat ps).length* 1)=ints (cat ps):=by
    rw[Ra,Nat.mul_one,uW (by simp)]
   rw[ht,wZ];rfl
def vI:List Int:=List.replicate 144 8++(List.replicate 112 9++(List.replicate 24 7++List.replicate 8 8))
theorem NT (e:Env) (n:Int):aX e (.cA 1 1 [.int .i64 0] [(0,.c (.int .i64 n))])=some ([I n],fun i=>.aD i 0 1 1):=rfl
theorem zq (h:H) (n:Int):Rd (h.alloc [I n]) (.aD h.next 0 1 1) [I n]:=by
 refine⟨?_,by intro s e;cases e⟩
 simp [aR,H.aV]
theorem GZ (h:H):aQ AP.A 42 [] h=some (vR vI,h):=by
 have r1:=xN (h.dJ.alloc [I 8]) (.aD h.dJ.next 0 1 1) 8 144 (by omega) (zq _ _)
 have r2:=xN ((h.dJ.alloc [I 8]).alloc [I 9]) (.aD (h.dJ.alloc [I 8]).next 0 1 1) 9 112 (by omega) (zq _ _)
 have r3:=xN (((h.dJ.alloc [I 8]).alloc [I 9]).alloc [I 7]) (.aD ((h.dJ.alloc [I 8]).alloc [I 9]).next 0 1 1) 7 24 (by omega) (zq _ _)
 have r4:=xN ((((h.dJ.alloc [I 8]).alloc [I 9]).alloc [I 7]).alloc [I 8]) (.aD (((h.dJ.alloc [I 8]).alloc [I 9]).alloc [I 7]).next 0 1 1) 8 8 (by omega) (zq _ _)
 obtain⟨g4,hg4⟩:∃g,g=(((h.dJ.alloc [I 8]).alloc [I 9]).alloc [I 7]).alloc [I 8]:=⟨_,rfl⟩
 obtain⟨v1,hv1⟩:∃v,v=AV.aU false (ints (List.replicate 144 8)) 0 144 1:=⟨_,rfl⟩
 obtain⟨v2,hv2⟩:∃v,v=AV.aU false (ints (List.replicate 112 9)) 0 112 1:=⟨_,rfl⟩
 obtain⟨v3,hv3⟩:∃v,v=AV.aU false (ints (List.replicate 24 7)) 0 24 1:=⟨_,rfl⟩
 obtain⟨v4,hv4⟩:∃v,v=AV.aU false (ints (List.replicate 8 8)) 0 8 1:=⟨_,rfl⟩
 have hc:cat [(v1,List.replicate 144 8),(v2,List.replicate 112 9),(v3,List.replicate 24 7),(v4,List.replicate 8 8)]=vI:=by
  simp only[cat,vI,QW,List.flatMap_nil,Q8]
 have hfl:vI.length=288:=by simp only[vI,u1,Q5]
 have cc:=B7 (g4.alloc [v1,v2,v3,v4]) (.aD g4.next 0 4 1) [(v1,List.replicate 144 8),(v2,List.replicate 112 9),(v3,List.replicate 24 7),(v4,List.replicate 8 8)]
  ⟨by simp [aR,H.aV],by intro s e;cases e⟩
  (by
    intro p hp
    simp only[uY,List.not_mem_nil,or_false]at hp
    rcases hp with rfl|rfl|rfl|rfl
    · rw[hv1];exact xn _ _
    · rw[hv2];exact xn _ _
    · rw[hv3];exact xn _ _
    · rw[hv4];exact xn _ _) (by rw[hc,hfl];omega) (by simp) (by rw[hc,hfl];omega)
 rw[hc]at cc
 have bt:∀e:Env,look e 2=v1→look e 4=v2→look e 6=v3→look e 8=v4→aX e (.cA 1 4 [.aO] [(0,.t 2),(1,.t 4),(2,.t 6),(3,.t 8)])=some ([v1,v2,v3,v4],fun i=>.aD i 0 4 1):=by
  intro e q1 q2 q3 q4
  simp only[aX,QY,Rw,rS,q1,q2,q3,q4]
  rw[hv1,hv2,hv3,hv4];rfl
 refine tL (fn:=AP.f42) (h2:=g4.alloc [v1,v2,v3,v4]) (e:=[(0,vR vI)]) rfl rfl rfl ?_ rfl ?_
 · rw[←hv1]at r1;rw[←hv2]at r2;rw[←hv3]at r3;rw[←hv4]at r4
   rw[←hg4]at r4
   have r1':aQ AP.A 43 [.aD h.dJ.next 0 1 1,I 144] (h.dJ.alloc [I 8])=some (v1,h.dJ.alloc [I 8]):=r1
   have r2':aQ AP.A 43 [.aD (h.dJ.alloc [I 8]).next 0 1 1,I 112] ((h.dJ.alloc [I 8]).alloc [I 9])=some (v2,(h.dJ.alloc [I 8]).alloc [I 9]):=r2
   have r3':aQ AP.A 43 [.aD ((h.dJ.alloc [I 8]).alloc [I 9]).next 0 1 1,I 24] (((h.dJ.alloc [I 8]).alloc [I 9]).alloc [I 7])=some (v3,((h.dJ.alloc [I 8]).alloc [I 9]).alloc [I 7]):=r3
   have r4':aQ AP.A 43 [.aD (((h.dJ.alloc [I 8]).alloc [I 9]).alloc [I 7]).next 0 1 1,I 8] g4=some (v4,g4):=r4
   clear r1 r2 r3 r4 hv1 hv2 hv3 hv4 hc
   simp only[I]at *
   simp only[AP.f42,go_sem,NT,I,r1',r2',r3',←hg4,r4']
   rw[bt _ rfl rfl rfl rfl]
   simp only[lZ,sg,go_sem,cc]
 · simp only[dc];unfold snap vR;rfl
def vq:List Int:=[16,17,18,0,8,7,9,6,10,5,11,4,12,3,13,2,14,1,15]
theorem Hf (h:H):aQ AP.A 79 [] h=some (vR vq,h):=by
 have b:aX [] (.cA 1 19 [.int .i64 0] [(0,(.c (.int .i64 16))),(1,(.c (.int .i64 17))),(2,(.c (.int .i64 18))),(3,(.c (.int .i64 0))),(4,(.c (.int .i64 8))),(5,(.c (.int .i64 7))),(6,(.c (.int .i64 9))),(7,(.c (.int .i64 6))),(8,(.c (.int .i64 10))),(9,(.c (.int .i64 5))),(10,(.c (.int .i64 11))),(11,(.c (.int .i64 4))),(12,(.c (.int .i64 12))),(13,(.c (.int .i64 3))),(14,(.c (.int .i64 13))),(15,(.c (.int .i64 2))),(16,(.c (.int .i64 14))),(17,(.c (.int .i64 1))),(18,(.c (.int .i64 15)))])=some (ints vq,fun i=>.aD i 0 19 1):=rfl
 refine tL (fn:=AP.f79) (h2:=h.dJ.alloc (ints vq)) (e:=[(0,.aD h.next 0 19 1)]) (vs:=[.aD h.next 0 19 1]) rfl rfl rfl ?_ rfl ?_
 · have hn:h.dJ.next=h.next:=rfl
   simp only[AP.f79,go_sem,b,hn]
 · show snap (h.dJ.alloc (ints vq)).get h.next 16 true (.aD h.next 0 19 1)=_
   unfold snap
   rw[if_neg (by omega),H.aV,if_pos (show h.next=h.dJ.next from rfl),uE,if_pos (by decide)]
   rw[show((ints vq).drop 0).take (19* 1)=ints vq from rfl,wZ];rfl
def IY (c:ae) (d:Option Nat) (r:List aj) (e:Env) (p:Option (AV×H)):Option (Env×H×List H):=p.bind fun q=>aM c r (aL d q.1 e) q.2
theorem D9 (c:ae) (d:Option Nat) (r:List aj) (e:Env) (v:AV) (h:H):IY c d r e (some (v,h))=aM c r (aL d v e) h:=uz rfl rfl
def H9 (aN:Bool) (h:H) (p:Option (Env×H×List H)):Option (Env×H×List H):=p.bind fun q=>some (q.1,q.2.1,if aN then h::q.2.2 else q.2.2)
theorem Ep (h:H) (e:Env) (h':H) (gs:List H):H9 true h (some (e,h',gs))=some (e,h',h::gs):=uz rfl rfl
theorem Eo (h:H) (e:Env) (h':H) (gs:List H):H9 false h (some (e,h',gs))=some (e,h',gs):=uz rfl rfl
theorem Az (c:ae) (e:Env) (h:H):aM c [] e h=some (e,h,[h]):=uz rfl rfl
theorem DG (c:ae) (o:aj) (r:List aj) (e:Env) (h:H):aM c (o::r) e h=H9 o.op.aN h (IY c o.dst r e (ai c o e h)):=by
 rw[aM]
 unfold H9 IY
 cases hv:ai c o e h with
 |none=>rfl
 | some q =>
   obtain⟨v,h'⟩:=q
   simp only[uE]
theorem Ei (c:ae) (d:Option Nat) (op:bU) (r:List aj) (e:Env) (h:H):aM c (⟨d,op,none⟩::r) e h=H9 op.aN h (IY c d r e (ah c e h op)):=DG _ _ _ _ _
theorem Jb (c:ae) (d:Option Nat) (op:bU) (g:Nat) (w:Bool) (r:List aj) (e:Env) (h:H):aM c (⟨d,op,some (g,w)⟩::r) e h=H9 op.aN h (IY c d r e (kL w c e h op (look e g))):=DG _ _ _ _ _
theorem Im {c:ae} {l:bH} {e e':Env} {h h':H} {gs:List H} (ord:List Nat) (ops:List aj) (fl:List (Nat×List Nat)) (vN:List Nat) (h1:aM c ops e h=some (e',h',gs)) (h2:aY c ops e' gs fl=true):aK c l (.iC ord ops fl vN) e h=some (.normal,ax e' vN,h'):=by
 rw[aK,h1,uE]
 dsimp only
 rw[if_pos h2]
theorem A9 {c:ae} {ops:List aj} {e:Env} {gs:List H} {i:Nat} {ks:List Nat} {r:List (Nat×List Nat)} (h1:∀k∈ks,bF c ops e gs i k=true) (h2:aY c ops e gs r=true):aY c ops e gs ((i,ks)::r)=true:=by
 simp only[aY,uI,List.all_eq_true]
 exact⟨h1,h2⟩
theorem A8 {c:ae} {ops:List aj} {e:Env} {gs:List H} {i k:Nat} {o:aj} {g h':H} {d:Nat} {u:AV} (ho:ops[i]?=some o) (hg:gs[k]?=some g) (hb:o.op.aH=false) (hd:o.dst=some d) (hv:ai c o e g=some (u,h')) (hu:AV.beq u (look e d)=true):bF c ops e gs i k=true:=by
 unfold bF
 rw[ho,hg]
 dsimp only
 rw[hb]
 simp only[uF,u2,hd,QU,hv]
 exact hu
theorem D0 (k:IntKind) (n:Int):AV.beq (.int k n) (.int k n)=true:=by simp [AV.beq]
theorem BQ (i o l z:Nat):AV.beq (.aD i o l z) (.aD i o l z)=true:=by simp [AV.beq]
theorem EH (i o:Nat):AV.beq (.aC i o) (.aC i o)=true:=by simp [AV.beq]
theorem BF (s:ByteArray):AV.beq (.str s) (.str s)=true:=by
 have:(s==s)=true:=by
  obtain⟨d⟩:=s
  show(d==d)=true
  exact beq_self_eq_true d
 simp [AV.beq,this]
theorem ng.apps {h:H} {v:AV} {cs:List AV} (o:ng h v cs) (hfn:h.floor≤h.next) {z:Nat} (bs:List AV) (hc:AV.aB bs=true) (hb:0<bs.length) (hr:roomy z (cs.length+bs.length)=true):
 ∃v' h',dF h 1 z v bs.length bs=some (v',h')∧ng h' v' (cs++bs)∧h'.floor=h.floor∧h.next≤h'.next∧(∀i,v.id?≠some i→i≠h.next→h'.get i=h.get i)∧v'.id?=some h.next:=by
 have hne:bs≠[]:=by intro e;rw[e]at hb;simp at hb
 rcases o with ⟨rfl,rfl⟩|⟨id,rfl,hg,hf,hne'⟩
 · refine⟨.aD h.next 0 bs.length 1,h.alloc bs, ?_,.inr ⟨h.next,by simp,by simp [H.aV], ?_,by simpa using hne⟩,by simp,by simp,fun i _ hi=>by rw[H.aV,if_neg hi],rfl⟩
   · unfold dF
     rw[if_neg (by omega),if_neg (by simp [hc])]
     simp only[QS,uM]at hr
     simp only[hr,if_true]
   · simp;omega
 · refine⟨.aD h.next 0 (cs.length+bs.length) 1,(h.del id).alloc (cs++bs), ?_,.inr ⟨h.next,by simp,by simp [H.aV], ?_,by simp [hne]⟩,by simp,by simp,fun i h1 h2=> ?_,rfl⟩
   · unfold dF
     rw[if_neg (by omega),if_neg (by simp [hc])]
     simp only[hf,and_self,if_true,hg,uE]
     rw[if_neg (by omega),if_pos ⟨by omega,hr⟩]
     simp
   · have:=h.lt id cs hg;simp;omega
   · rw[H.aV,H.jk,if_neg h2,H.dM,if_neg]
     intro e;subst e;exact h1 rfl
theorem St.vN {c:SC} {S:SS} {h h':H} {ov:AV} (st:St c S h ov) (hf:h'.floor=h.floor) (hn:h.next≤h'.next) (hg:∀i,i=c.s∨i=c.r∨ov.id?=some i→h'.get i=h.get i):St c S h' ov:=by
 refine⟨by rw[hg _ (.inl rfl)];exact st.gs,by rw[hg _ (.inr (.inl rfl))];exact st.gr,st.own.mono hf fun i hi=>hg i (.inr (.inr hi)),st.sr,by rw[hf];exact st.fs,by rw[hf];exact st.fr,st.os,st.or,by rw[hf];exact uZ st.nx hn,st.sz,st.ye,st.ol,st.ml⟩
theorem St.lt {c:SC} {S:SS} {h:H} {ov:AV} (st:St c S h ov) {i:Nat} (hi:i=c.s∨i=c.r∨ov.id?=some i):i<h.next:=by
 rcases hi with rfl|rfl|hi
 · exact h.lt _ _ st.gs
 · exact h.lt _ _ st.gr
 · exact st.own.lt hi
theorem St.alloc {c:SC} {S:SS} {h:H} {ov:AV} (st:St c S h ov) (cs:List AV):St c S (h.alloc cs) ov∧Fr c h ov (h.alloc cs) ov:=by
 refine⟨st.vN (by simp) (by simp) fun i hi=> ?_,⟨by simp,by simp,fun id h1 _ _ _=> ?_,fun _ q=>.inl q⟩⟩
 · have:=st.lt hi;rw[H.aV,if_neg (by omega)]
 · rw[H.aV,if_neg (by omega)]
def vW (c:SC) (y:Int) (acc:List Int) (S:SS):(Int×Nat)×SS:=
 if y=16 then(if acc=[]then((0,0),vC 700 S)else((acc.getD (acc.length-1) 0,3+(u9 c 2 S).1),(u9 c 2 S).2))
 else if y=17 then((0,3+(u9 c 3 S).1),(u9 c 3 S).2)
 else if y=18 then((0,11+(u9 c 7 S).1),(u9 c 7 S).2)
 else((y,1),S)
theorem zh (c:SC) (S:SS) (n:Nat) (hn:n≤16):(u9 c n S).1<65536:=by
 unfold u9;split
 · have:=wH c.text S.at_ n
   have:=Q7 (show 0<2 by omega) hn
   simp at *;omega
 · simp
theorem Dp {l:List Int} {i:Nat} (h:i<l.length):(ints l)[i]?=some (I (l.getD i 0)):=sB (by simp [List.getD,h])
theorem JV {c : SC} {S : SS} {h : H} {ov : AV} (st : St c S h ov) (y : Int) {av : AV} {acc : List Int} (oa : ng h av (ints acc)) (ha : acc.length < 100000) (hne : ∀ i, av.id? = some i → i ≠ c.s ∧ i ≠ c.r ∧ ov.id? ≠ some i) :
 ∃h',aQ AP.A 80 [.aC c.s 0,I y,av] h=some (.bM [I (vW c y acc S).1.1,I (vW c y acc S).1.2],h')∧St c (vW c y acc S).2 h' ov∧Fr c h ov h' ov:=by
 have ln:=oa.len
 rw[pC]at ln
 by_cases h16:y=16
 · have d16:=tS h16
   by_cases hnil:acc=[]
   · obtain⟨h',k1,k2,k3⟩:=wO st 700
     have e:vW c y acc S=((0,0),vC 700 S):=by rw[vW,if_pos h16,if_pos hnil]
     rw[e]
     refine⟨h', ?_,k2,k3⟩
     have hz:((acc.length:Int)==0)=true:=by rw[hnil];rfl
     refine tq (fn:=AP.f80) (e:=[(6,I 0),(7,I 0)]) rfl rfl rfl ?_ rfl
     simp only[I]at *
     simp only[AP.f80,go_sem,d16,ln,hz,k1]
   · obtain⟨h',k1,k2,k3⟩:=yh st 2 2 rfl (by omega)
     have e:vW c y acc S=((acc.getD (acc.length-1) 0,3+(u9 c 2 S).1),(u9 c 2 S).2):=by rw[vW,if_pos h16,if_neg hnil]
     rw[e]
     have hpos:0<acc.length:=List.length_pos_iff.2 hnil
     have hz:((acc.length:Int)==0)=false:=tR (by omega)
     have hg:=zh c S 2 (by omega)
     have w1:IntKind.wrap .i64 (3+((u9 c 2 S).1:Int))=((3+(u9 c 2 S).1:Nat):Int):=by
      rw[show(3:Int)+((u9 c 2 S).1:Int)=((3+(u9 c 2 S).1:Nat):Int)by omega];exact u7 (by omega)
     have w2:IntKind.wrap .i64 ((acc.length:Int)-1)=((acc.length-1:Nat):Int):=by
      rw[show(acc.length:Int)-1=((acc.length-1:Nat):Int)by omega];exact u7 (by omega)
     have hel:=Dp (l:=acc) (i:=acc.length-1) (by omega)
     obtain⟨id,i1,i2,i3⟩:=oa.elem hel
     have hid:=hne id (by rw[i1];rfl)
     have i4:h'.get id=some (ints acc):=by rw[k3.F5 id (h.lt _ _ i3) hid.1 hid.2.1 hid.2.2];exact i3
     refine⟨h', ?_,k2,k3⟩
     refine tq (fn:=AP.f80) (e:=[(6,I (acc.getD (acc.length-1) 0)),(7,I (3+(u9 c 2 S).1:Nat))]) rfl rfl rfl ?_ rfl
     generalize (u9 c 2 S).1=G at *
     clear i1
     simp only[I]at *
     simp only[AP.f80,go_sem,d16,ln,hz]
     rw[Im (e':=[(7,.int .i64 ((3+G:Nat):Int)),(6,.int .i64 (acc.getD (acc.length-1) 0)),(24,.int .i64 ((3+G:Nat):Int)),(23,.int .i64 G),(22,.aC c.s 0),(21,.int .i64 (acc.getD (acc.length-1) 0)),(20,.aC id (acc.length-1)),(19,.int .i64 (acc.length-1:Nat)),(18,.int .i64 acc.length),(17,av),(16,av),(0,.aC c.s 0),(2,av)]) (h':=h') (gs:=[h,h'])]
     · simp only[go_sem]
     · simp only[Az,Ei,D9,Ep,Eo,bU.aN,go_sem,ln,w2,i2,i3,hel,k1,w1]
     · refine A9 (fun k hk=> ?_) rfl
       obtain rfl:k=1:=by simpa using hk
       refine A8 (o:=⟨some 21,.load false 1 (.t 20),none⟩) (g:=h') (h':=h') (d:=21) (u:=.int .i64 (acc.getD (acc.length-1) 0)) rfl rfl rfl rfl ?_ ?_
       · simp only[ai,go_sem,i4,hel]
       · simp only[go_sem,D0]
 · have d16:=tR h16
   by_cases h17:y=17
   · have d17:=tS h17
     obtain⟨h',k1,k2,k3⟩:=yh st 3 3 rfl (by omega)
     have e:vW c y acc S=((0,3+(u9 c 3 S).1),(u9 c 3 S).2):=by rw[vW,if_neg h16,if_pos h17]
     rw[e]
     have hg:=zh c S 3 (by omega)
     have w1:IntKind.wrap .i64 (3+((u9 c 3 S).1:Int))=((3+(u9 c 3 S).1:Nat):Int):=by
      rw[show(3:Int)+((u9 c 3 S).1:Int)=((3+(u9 c 3 S).1:Nat):Int)by omega];exact u7 (by omega)
     refine⟨h', ?_,k2,k3⟩
     refine tq (fn:=AP.f80) (e:=[(6,I 0),(7,I (3+(u9 c 3 S).1:Nat))]) rfl rfl rfl ?_ rfl
     simp only[I]at *
     simp only[AP.f80,go_sem,d16,d17,k1,w1]
   · have d17:=tR h17
     by_cases h18:y=18
     · have d18:=tS h18
       obtain⟨h',k1,k2,k3⟩:=yh st 7 7 rfl (by omega)
       have e:vW c y acc S=((0,11+(u9 c 7 S).1),(u9 c 7 S).2):=by rw[vW,if_neg h16,if_neg h17,if_pos h18]
       rw[e]
       have hg:=zh c S 7 (by omega)
       have w1:IntKind.wrap .i64 (11+((u9 c 7 S).1:Int))=((11+(u9 c 7 S).1:Nat):Int):=by
        rw[show(11:Int)+((u9 c 7 S).1:Int)=((11+(u9 c 7 S).1:Nat):Int)by omega];exact u7 (by omega)
       refine⟨h', ?_,k2,k3⟩
       refine tq (fn:=AP.f80) (e:=[(6,I 0),(7,I (11+(u9 c 7 S).1:Nat))]) rfl rfl rfl ?_ rfl
       simp only[I]at *
       simp only[AP.f80,go_sem,d16,d17,d18,k1,w1]
     · have d18:=tR h18
       have e:vW c y acc S=((y,1),S):=by rw[vW,if_neg h16,if_neg h17,if_neg h18]
       rw[e]
       refine⟨h, ?_,st,Fr.refl _ _ _⟩
       refine tq (fn:=AP.f80) (e:=[(6,I y),(7,I 1)]) rfl rfl rfl ?_ rfl
       simp only[I]at *
       simp only[AP.f80,go_sem,d16,d17,d18]
def Ek (t:ByteArray):List Int→Nat→List Int→List Int
 |[],_,o=>o
 |s::r,p,o=>Ek t r (p+3) (o.set s.toNat (vi t p 3))
def yx (t:ByteArray) (y:Int) (acc:List Int) (p:Nat):Option (Int×Nat×Nat):=
 if y=16 then(if acc=[]then none else if p+2≤8* t.size then some (acc.getD (acc.length-1) 0,3+vi t p 2,p+2)else none)
 else if y=17 then(if p+3≤8* t.size then some (0,3+vi t p 3,p+3)else none)
 else if y=18 then(if p+7≤8* t.size then some (0,11+vi t p 7,p+7)else none)
 else some (y,1,p)
def v7 (t : ByteArray) (cl : List Int) (many : Nat) : Nat → List Int → Nat → Option (List Int × Nat)
 |0,_,_=>none
 | f + 1, acc, p => if acc.length < many then
     match yn t cl 15 1 0 p with
     |none=>none
     | some (y, p1) => match yx t y acc p1 with
       |none=>none
       |some (n,times,p2)=>v7 t cl many f (acc++List.replicate times n) p2
   else if many<acc.length then none else some (acc,p)
def xW (t : ByteArray) (many : Nat) (p : Nat) : Option (List Int × Nat) :=
 if p+4≤8* t.size then
  let k:=vi t p 4+4
  if p+4+3* k≤8* t.size then
   let cl:=Ek t (vq.take k) (p+4) (List.replicate 19 0)
   if vt cl=0 then v7 t cl many (8* t.size+1) [] (p+4+3* k)else none
  else none
 else none
theorem Gb {h:H} {t:Bool} {N k:Nat} {cs:List AV} (hN:cs.length=N) (hk:k≤N):rK h 1 (.aU t cs 0 N 1) none (some (I k)) none=some (.aU t cs 0 k 1):=by
 simp [rK,hN,aA,Jp hk]
theorem DA:∀s∈vq,0≤s∧s<19:=by decide
def yY (c:SC):List Int→List Int→SS→List Int×SS
 |[],o,S=>(o,S)
 |s::r,o,S=>yY c r (o.set s.toNat ((u9 c 3 S).1:Nat)) (u9 c 3 S).2
theorem Fz (c:SC):∀(r o:List Int) (S:SS),(yY c r o S).1.length=o.length
 |[],o,S=>rfl
 |s::r,o,S=>by rw[yY,Fz c r];simp
theorem Hg (c : SC) : ∀ (r o : List Int) (S : SS), (∀ y ∈ o, 0 ≤ y ∧ y < 16) → ∀ y ∈ (yY c r o S).1, 0 ≤ y ∧ y < 16
 |[],o,S,h=>h
 | s :: r, o, S, h => by
   rw[yY]
   refine Hg c r _ _ fun y hy=> ?_
   rcases Rl hy with q|q
   · exact h y q
   · subst q
     have:(u9 c 3 S).1<8:=by
      unfold u9;split
      · simpa using wH c.text S.at_ 3
      · simp
     omega
theorem Hh (c:SC):∀(r o:List Int) (S:SS),S.e=0→S.at_+3* r.length≤8* c.text.size→yY c r o S=(Ek c.text r S.at_ o,{S with at_:=S.at_+3* r.length})
 |[],o,S,he,h=>rfl
 | s :: r, o, S, he, h => by
   rw[QQ]at h
   have eg:u9 c 3 S=(vi c.text S.at_ 3,{S with at_:=S.at_+3}):=by rw[u9,if_pos (by omega)]
   rw[yY,eg]
   dsimp only
   rw[Hh c r _ {S with at_:=S.at_+3} he (by dsimp only;omega)]
   simp only[Ek,QQ]
   rw[show S.at_+3+3* r.length=S.at_+3* (r.length+1)by omega]
theorem IU (c:SC) (n:Nat) (S:SS) (h:S.e=0∨S.e=700):(u9 c n S).2.e=0∨(u9 c n S).2.e=700:=by
 unfold u9;split
 · exact h
 · rcases h with h|h<;>simp [vC,h]
theorem Kd (c:SC) (n:Nat) (S:SS) (h:S.e=700):(u9 c n S).2.e=700:=by
 unfold u9;split
 · exact h
 · simp [vC,h]
theorem El (c:SC):∀(r o:List Int) (S:SS),S.e=700→(yY c r o S).2.e=700
 |[],o,S,h=>h
 |s::r,o,S,h=>by rw[yY];exact El c r _ _ (Kd c 3 S h)
theorem Fy (c:SC):∀(r o:List Int) (S:SS),S.e=0→S.at_≤8* c.text.size→8* c.text.size<S.at_+3* r.length→(yY c r o S).2.e=700
 |[],o,S,he,hle,h=>by simp at h;omega
 | s :: r, o, S, he, hle, h => by
   rw[yY]
   rw[QQ]at h
   by_cases hp:S.at_+3≤8* c.text.size
   · have eg:u9 c 3 S=(vi c.text S.at_ 3,{S with at_:=S.at_+3}):=by rw[u9,if_pos hp]
     rw[eg]
     exact Fy c r _ _ he hp (by dsimp only;omega)
   · have eg:u9 c 3 S=(0,{S with e:=700}):=by rw[u9,if_neg hp,vC,if_pos he]
     rw[eg]
     exact El c r _ _ rfl
theorem FA {c:SC} (a:Nat) (x:AV) (xs:List Int) (hxs:∀s∈xs,0≤s∧s<19) (hxl:xs.length≤19) (hac:a≠c.s∧a≠c.r) (m:AV):∀(q p o:List Int) (S:SS) (h:H) (ov:AV),xs=p++q→Rd h x (ints xs)→(∀i,x.id?≠some i)→St c S h ov→ov.id?≠some a→h.get a=some (ints o)→o.length=19→h.floor≤a→
 ∃ e' h', Lp AP.A [0, 1, 5, 18, 19, 20] AP.f64L1 [(0, .aC c.s 0), (1, m), (5, .aC a 0), (18, x), (19, I xs.length), (20, I p.length)] h = some (.exit 0, e', h') ∧ look e' 0 = .aC c.s 0 ∧ look e' 1 = m ∧ look e' 5 = .aC a 0 ∧
   St c (yY c q o S).2 h' ov∧h'.get a=some (ints (yY c q o S).1)∧h'.floor=h.floor∧h.next≤h'.next∧∀i,i<h.next→i≠c.s→i≠c.r→ov.id?≠some i→i≠a→h'.get i=h.get i
 | [], p, o, S, h, ov, hp, rd, hx, st, hoa, hg, ho, hf => by
   rw[Q8]at hp;subst hp
   refine⟨[(0,.aC c.s 0),(1,m),(5,.aC a 0),(18,x),(19,I xs.length),(20,I xs.length),(21,.bool false)],h,sV ?_,rfl,rfl,rfl,st,hg,rfl,uH _,fun _ _ _ _ _ _=>rfl⟩
   have c1:¬(xs.length:Int)<(xs.length:Int):=by omega
   simp only[I]at *
   simp only[AP.f64L1,go_sem,QT c1]
 | s :: q, p, o, S, h, ov, hp, rd, hx, st, hoa, hg, ho, hf => by
   have hlen:xs.length=p.length+(q.length+1):=by rw[hp];simp
   have c1:(p.length:Int)<(xs.length:Int):=by omega
   have hs:=hxs s (by rw[hp];simp)
   obtain⟨sn,hsn⟩:∃n:Nat,s=n:=QX hs.1
   subst hsn
   have hv:(ints xs)[p.length]?=some (I sn):=sB (by rw[hp];simp)
   obtain⟨ad,p1,p2⟩:=rd.elem hv
   have p3:=p2 h (fun _ _ q=>q)
   obtain⟨h1,k1,k2,k3⟩:=yh st 3 3 rfl (by omega)
   have hal:a<h.next:=h.lt _ _ hg
   have hg1:h1.get a=some (ints o):=by rw[k3.F5 a hal hac.1 hac.2 hoa];exact hg
   have a1:cJ (I sn) 19=some sn:=j3 (by omega)
   have hset:(ints o).set sn (I ((u9 c 3 S).1:Nat))=ints (o.set sn ((u9 c 3 S).1:Nat)):=by simp [ints,List.map_set]
   have hst:tN h1 a sn 1 [I ((u9 c 3 S).1:Nat)] (some (ints o))=some (h1.set a (ints (o.set sn ((u9 c 3 S).1:Nat)))):=by
    rw[ue (by rw[k3.fl];exact hf) (by rw[pC];omega) rfl,hset]
   have w2:IntKind.wrap .i64 ((p.length:Int)+1)=(((p++[(sn:Int)]).length:Nat):Int):=by
    rw[u1];exact u7 (n:=p.length+1) (by omega)
   have step:aK (aQ AP.A) br AP.f64L1 (ax [(0,.aC c.s 0),(1,m),(5,.aC a 0),(18,x),(19,I xs.length),(20,I p.length)] [0,1,5,18,19,20]) h=some (.normal,[(0,.aC c.s 0),(1,m),(5,.aC a 0),(18,x),(19,I xs.length),(20,I (p++[(sn:Int)]).length)],h1.set a (ints (o.set sn ((u9 c 3 S).1:Nat)))):=by
    generalize ints (o.set sn ((u9 c 3 S).1:Nat))=W at *
    generalize (p++[(sn:Int)]).length=B at *
    generalize (u9 c 3 S).1=G at *
    generalize ints o=OO at *
    simp only[I]at *
    simp only[AP.f64L1,go_sem,QV c1,p1,p3,k1,a1,hg1,hst,w2]
   have st2:St c (u9 c 3 S).2 (h1.set a (ints (o.set sn ((u9 c 3 S).1:Nat)))) ov:=k2.vN (by simp) (by simp) fun i hi=>by
    rw[H.dh,if_neg]
    rintro rfl
    rcases hi with hi|hi|hi
    · exact hac.1 hi
    · exact hac.2 hi
    · exact hoa hi
   have rd2:Rd (h1.set a (ints (o.set sn ((u9 c 3 S).1:Nat)))) x (ints xs):=by
    refine⟨?_,rd.2⟩
    have:=rd.1
    unfold aR at this ⊢
    split at this
    · exact this
    · exact this
    · exact absurd rfl (hx _)
    · exact this
    · cases this
   obtain⟨e',h',q1,q2,q3,q4,q5,q6,q7,q8,q9⟩:=FA a x xs hxs hxl hac m q (p++[(sn:Int)]) (o.set sn ((u9 c 3 S).1:Nat)) _ _ ov (by rw[hp];simp) rd2 hx st2 hoa (by rw[H.dh,if_pos rfl,hg1];rfl) (by simpa using ho) (by simp [k3.fl];exact hf)
   refine⟨e',h',sW step q1,q2,q3,q4, ?_, ?_,by rw[q7];simp [k3.fl],by have:=k3.nx;simp at q8;omega,fun i i1 i2 i3 i4 i5=> ?_⟩
   · rw[yY];exact q5
   · rw[yY];exact q6
   · rw[q9 i (by have:=k3.nx;simp;omega) i2 i3 i4 i5,H.dh,if_neg i5,k3.F5 i i1 i2 i3 i4]
theorem xC {c:SC} {S:SS} {h:H} {ov:AV} (st:St c S h ov) (b:AV) (many:Nat) {av:AV} {acc:List Int} (oa:ng h av (ints acc)) (hs:many≤acc.length∨(acc.length<many∧S.e≠0)):
 ∃e',Lp AP.A [0,1,9,10] AP.f64L0 [(0,.aC c.s 0),(1,I many),(9,b),(10,av)] h=some (.exit 2,e',h)∧look e' 0=.aC c.s 0∧look e' 1=I many∧look e' 10=av:=by
 have gs:=st.gs
 have ln:=oa.len
 rw[pC]at ln
 refine⟨[(0,.aC c.s 0),(1,I many),(9,b),(10,av),(46,.bool false)],sV ?_,rfl,rfl,rfl⟩
 rcases hs with hs|⟨hs,he⟩
 · have c1:¬(acc.length:Int)<many:=by omega
   simp only[I]at *
   simp only[AP.f64L0,go_sem,ln,QT c1]
 · have c1:(acc.length:Int)<many:=by omega
   have c2:=tR he
   simp only[I]at *
   simp only[AP.f64L0,go_sem,ln,QV c1,gs,c2]
theorem HB {c : SC} {S : SS} {y : Int} {acc : List Int} (he : S.e = 0) :
 match yx c.text y acc S.at_ with
 |some (n,times,p)=>vW c y acc S=((n,times),{S with at_:=p})∧S.at_≤p
 |none=>(vW c y acc S).2.e=700:=by
 unfold yx vW
 by_cases h16:y=16
 · rw[if_pos h16,if_pos h16]
   by_cases hn:acc=[]
   · rw[if_pos hn,if_pos hn];simp [vC,he]
   · rw[if_neg hn,if_neg hn]
     by_cases hp:S.at_+2≤8* c.text.size
     · simp [u9,hp]
     · simp [u9,hp,vC,he]
 · rw [if_neg h16, if_neg h16]
   by_cases h17:y=17
   · rw[if_pos h17,if_pos h17]
     by_cases hp:S.at_+3≤8* c.text.size
     · simp [u9,hp]
     · simp [u9,hp,vC,he]
   · rw[if_neg h17,if_neg h17]
     by_cases h18:y=18
     · rw[if_pos h18,if_pos h18]
       by_cases hp:S.at_+7≤8* c.text.size
       · simp [u9,hp]
       · simp [u9,hp,vC,he]
     · rw[if_neg h18,if_neg h18]
       exact⟨rfl,uH _⟩
theorem DV (c:SC) (y:Int) (acc:List Int) (S:SS):(vW c y acc S).1.2<70000:=by
 unfold vW
 have h2:=zh c S 2 (by omega)
 have h3:=zh c S 3 (by omega)
 have h7:=zh c S 7 (by omega)
 repeat' split
 all_goals (dsimp only;omega)
theorem Dw {c : SC} (h0 : H) (cl : List Int) (hcl : cl.length < 100000) (many : Nat) (hm : many ≤ 400) : ∀ (f : Nat) (acc : List Int) (S : SS) (h : H) (ov av : AV), St c S h ov → S.e = 0 → 8 * c.text.size < S.at_ + f → Fr c h0 ov h ov → ng h av (ints acc) → acc.length < 80000 → (∀ i, av.id? = some i → h0.next ≤ i) → (∀ i, (i = c.s ∨ i = c.r ∨ ov.id? = some i) → i < h0.next) →
 ∃ e' h' S' av' acc', Lp AP.A [0, 1, 9, 10] AP.f64L0 [(0, .aC c.s 0), (1, I many), (9, vy cl), (10, av)] h = some (.exit 2, e', h') ∧ look e' 0 = .aC c.s 0 ∧ look e' 1 = I many ∧ look e' 10 = av' ∧ St c S' h' ov ∧ Fr c h0 ov h' ov ∧ ng h' av' (ints acc') ∧ acc'.length < 200000 ∧ (∀ i, av'.id? = some i → h0.next ≤ i) ∧
   match v7 c.text cl many f acc S.at_ with
   |some (L,p)=>S'={S with at_:=p}∧acc'=L∧L.length=many
   |none=>S'.e=700∨(S'.e=0∧many<acc'.length)
 |0,acc,S,h,ov,av,st,he,hk,fr,oa,hal,hid,hlo=>by have:=st.ye;omega
 | f + 1, acc, S, h, ov, av, st, he, hk, fr, oa, hal, hid, hlo => by
   by_cases hlt:acc.length<many
   · rw [v7, if_pos hlt]
     have gs:=st.gs
     have ln:=oa.len
     rw[pC]at ln
     have c1:(acc.length:Int)<many:=by omega
     obtain⟨h1,S1,y,s1,s2,s3,s4⟩:=CP cl hcl st he
     have hneq:∀i,av.id?=some i→i≠c.s∧i≠c.r∧ov.id?≠some i:=fun i hi=>by
      have:=hid i hi
      refine⟨fun e=> ?_,fun e=> ?_,fun e=> ?_⟩
      · have:=hlo i (.inl e);omega
      · have:=hlo i (.inr (.inl e));omega
      · have:=hlo i (.inr (.inr e));omega
     have oa1:ng h1 av (ints acc):=oa.mono s3.fl fun i hi=>s3.F5 i (oa.lt hi) (hneq i hi).1 (hneq i hi).2.1 (hneq i hi).2.2
     obtain⟨h2,r1,r2,r3⟩:=JV s2 y oa1 (by omega) hneq
     have oa2:ng h2 av (ints acc):=oa1.mono r3.fl fun i hi=>r3.F5 i (oa1.lt hi) (hneq i hi).1 (hneq i hi).2.1 (hneq i hi).2.2
     obtain⟨n,hn⟩:∃n,n=(vW c y acc S1).1.1:=⟨_,rfl⟩
     obtain⟨times,htm⟩:∃n,n=(vW c y acc S1).1.2:=⟨_,rfl⟩
     obtain⟨S2,hS2⟩:∃n,n=(vW c y acc S1).2:=⟨_,rfl⟩
     have htb:=DV c y acc S1
     rw[←hn,←htm]at r1;rw[←hS2]at r2;rw[←htm]at htb
     have al:=r2.alloc [I n]
     have rp:=xN (h2.alloc [I n]) (.aD h2.next 0 1 1) n times (by omega) (zq _ _)
     have oa3:ng (h2.alloc [I n]) av (ints acc):=oa2.mono (by simp) fun i hi=>by
      have:=oa2.lt hi;rw[H.aV,if_neg (by omega)]
     have hfr3:=((fr.trans s3).trans r3).trans al.2
     have hap:∃v' h3,km (h2.alloc [I n]) 1 8 av (.aU false (ints (List.replicate times n)) 0 times 1)=some (v',h3)∧ng h3 v' (ints (acc++List.replicate times n))∧St c S2 h3 ov∧Fr c h0 ov h3 ov∧∀i,v'.id?=some i→h0.next≤i:=by
      have src:aR (h2.alloc [I n]) 1 (.aU false (ints (List.replicate times n)) 0 times 1)=some (times,ints (List.replicate times n)):=by
       simp [aR,uW]
      by_cases ht0:times=0
      · subst ht0
        refine⟨av,h2.alloc [I n], ?_,by simpa using oa3,al.1,hfr3,hid⟩
        unfold km
        rw[src,uE]
        unfold dF
        rw[if_pos rfl]
        rcases oa3 with ⟨rfl,_⟩|⟨id,rfl,_⟩<;>rfl
      · have hnx:=al.1.nx
        obtain⟨v',h3,q1,q2,q3,q4,q5,q6⟩:=oa3.apps hnx (z:=8) (ints (List.replicate times n)) (jz _) (by simp;omega) (by simp [roomy];omega)
        refine⟨v',h3, ?_,by rw[py];exact q2,al.1.vN q3 q4 fun i hi=> ?_,⟨q3.trans hfr3.fl,uZ hfr3.nx q4,fun id i1 i2 i3 i4=> ?_,fun i hi=>.inl hi⟩,fun i hi=> ?_⟩
        · unfold km
          rw[src,uE]
          have hl:(ints (List.replicate times n)).length=times:=by simp
          rw[hl]at q1;exact q1
        · have hlt0:=hlo i hi
          have hle:h0.next≤(h2.alloc [I n]).next:=hfr3.nx
          exact q5 i (fun e=>by have:=hid i e;omega) (by omega)
        · have hle:h0.next≤(h2.alloc [I n]).next:=hfr3.nx
          rw[q5 id (fun e=>by have:=hid id e;omega) (by omega)]
          exact hfr3.F5 id i1 i2 i3 i4
        · rw[q6]at hi;cases hi;exact hfr3.nx
     obtain⟨v',h3,ap1,ap2,ap3,ap4,ap5⟩:=hap
     have step:aK (aQ AP.A) br AP.f64L0 (ax [(0,.aC c.s 0),(1,I many),(9,vy cl),(10,av)] [0,1,9,10]) h=some (.normal,[(0,.aC c.s 0),(1,I many),(9,vy cl),(10,v')],h3):=by
      have bs:∀(e:Env),look e 57=.int .i64 n→aX e (.cA 1 1 [.int .i64 0] [(0,.t 57)])=some ([.int .i64 n],fun i=>.aD i 0 1 1):=by
       intro e q
       simp only[aX,QY,Rw,rS,q];rfl
      simp only[I]at *
      simp only[AP.f64L0,go_sem,ln,QV c1,gs,he,s1,r1]
      rw[bs _ rfl]
      simp only[go_sem,rp,ap1]
     have hacc':(acc++List.replicate times n).length<80000:=by simp;omega
     cases hz:yn c.text cl 15 1 0 S.at_ with
     | none =>
       rw[hz]at s4
       obtain⟨s4,s5⟩:=s4
       have hy:y=256:=s5
       have hag:vW c y acc S1=((y,1),S1):=by rw[vW,if_neg (by omega),if_neg (by omega),if_neg (by omega)]
       have hS2e:S2.e=700:=by rw[hS2,hag];exact s4
       dsimp only
       by_cases hlt2:(acc++List.replicate times n).length<many
       · obtain⟨e',q1,q2,q3,q4⟩:=xC ap3 (vy cl) many ap2 (.inr ⟨hlt2,by rw[hS2e];decide⟩)
         exact⟨e',h3,S2,v',_,sW step q1,q2,q3,q4,ap3,ap4,ap2,by omega,ap5,.inl hS2e⟩
       · obtain⟨e',q1,q2,q3,q4⟩:=xC ap3 (vy cl) many ap2 (.inl (by omega))
         exact⟨e',h3,S2,v',_,sW step q1,q2,q3,q4,ap3,ap4,ap2,by omega,ap5,.inl hS2e⟩
     | some yp =>
       obtain⟨z,p1⟩:=yp
       rw[hz]at s4
       obtain⟨s4,s5⟩:=s4
       subst s5 s4
       have zb:=xZ hz
       have hok:=HB (c:=c) (S:={S with at_:=p1}) (y:=y) (acc:=acc) he
       dsimp only at hok ⊢
       cases ha:yx c.text y acc p1 with
       | none =>
         rw[ha]at hok
         have hS2e:S2.e=700:=by rw[hS2];exact hok
         dsimp only
         by_cases hlt2:(acc++List.replicate times n).length<many
         · obtain⟨e',q1,q2,q3,q4⟩:=xC ap3 (vy cl) many ap2 (.inr ⟨hlt2,by rw[hS2e];decide⟩)
           exact⟨e',h3,S2,v',_,sW step q1,q2,q3,q4,ap3,ap4,ap2,by omega,ap5,.inl hS2e⟩
         · obtain⟨e',q1,q2,q3,q4⟩:=xC ap3 (vy cl) many ap2 (.inl (by omega))
           exact⟨e',h3,S2,v',_,sW step q1,q2,q3,q4,ap3,ap4,ap2,by omega,ap5,.inl hS2e⟩
       | some q =>
         obtain⟨n2,t2,p2⟩:=q
         rw[ha]at hok
         obtain⟨hok,hp12⟩:=hok
         rw[hok]at hn htm hS2
         dsimp only at hn htm hS2
         subst hn htm hS2
         obtain⟨e',h',S',av',acc',q1,q2,q3,q4,q5,q6,q7,q8,q9,q10⟩:=Dw h0 cl hcl many hm f (acc++List.replicate times n) _ h3 ov v' ap3 he (by dsimp only;omega) ap4 ap2 hacc' ap5 hlo
         exact⟨e',h',S',av',acc',sW step q1,q2,q3,q4,q5,q6,q7,q8,q9,q10⟩
   · obtain⟨e',q1,q2,q3,q4⟩:=xC st (vy cl) many oa (.inl (by omega))
     refine⟨e',h,S,av,acc,q1,q2,q3,q4,st,fr,oa,by omega,hid, ?_⟩
     rw[v7,if_neg hlt]
     by_cases hgt:many<acc.length
     · rw[if_pos hgt];exact .inr ⟨he,hgt⟩
     · rw[if_neg hgt];exact⟨rfl,rfl,by omega⟩
theorem HX {c : SC} {S : SS} {h : H} {ov : AV} (st : St c S h ov) (he : S.e = 0) (many : Nat) (hm0 : 0 < many) (hm : many ≤ 400) :
 ∃ h' S' av acc, aQ AP.A 64 [.aC c.s 0, I many] h = some (av, h') ∧ St c S' h' ov ∧ Fr c h ov h' ov ∧ ng h' av (ints acc) ∧ (∀ i, av.id? = some i → h.next ≤ i) ∧ match xW c.text many S.at_ with
   |some (L,p)=>S'={S with at_:=p}∧acc=L∧L.length=many
   |none=>S'.e=700:=by
 have gs:=st.gs
 obtain⟨a,ha⟩:∃a,a=h.next:=⟨_,rfl⟩
 obtain⟨g0,hg0⟩:∃g,g=h.alloc (ints (List.replicate 19 0)):=⟨_,rfl⟩
 have al:=st.alloc (ints (List.replicate 19 0))
 rw[←hg0]at al
 have hga:g0.get a=some (ints (List.replicate 19 0)):=by rw[hg0,H.aV,if_pos ha]
 have oc:=Hf g0
 obtain⟨h1,k1,k2,k3⟩:=yh al.1 4 4 rfl (by omega)
 obtain⟨G,hG⟩:∃G,G=(u9 c 4 S).1:=⟨_,rfl⟩
 obtain⟨S1,hS1⟩:∃G,G=(u9 c 4 S).2:=⟨_,rfl⟩
 rw[←hG]at k1;rw[←hS1]at k2
 have hG16:G<16:=by
  rw[hG];unfold u9;split
  · simpa using wH c.text S.at_ 4
  · simp
 have w1:IntKind.wrap .i64 ((G:Int)+4)=((G+4:Nat):Int):=u7 (n:=G+4) (by omega)
 obtain⟨x,hx⟩:∃x,x=AV.aU false (ints vq) 0 (G+4) 1:=⟨_,rfl⟩
 have sl:rK h1 1 (vR vq) none (some (I (G+4:Nat))) none=some x:=by
  rw[hx];exact Gb (by rw[pC]) (by show G+4≤19;omega)
 have xl:iO false x=some (I (G+4:Nat)):=by rw[hx];rfl
 obtain⟨xs,hxs⟩:∃xs,xs=vq.take (G+4):=⟨_,rfl⟩
 have hol:vq.length=19:=rfl
 have hxsl:xs.length=G+4:=by rw[hxs,Rh,hol];omega
 have rdx:Rd h1 x (ints xs):=by
  refine⟨?_,by rw[hx];intro s e;cases e⟩
  have ht:(ints vq).take (G+4)=ints xs:=by rw[hxs];simp [ints,List.map_take]
  simp only[aR,hx,if_true]
  rw[if_pos (by rw[pC,hol];omega),Ra,Nat.mul_one,ht];simp [hxsl]
 have hac:a≠c.s∧a≠c.r:=⟨fun e=>by have:=st.lt (.inl e);omega,fun e=>by have:=st.lt (.inr (.inl e));omega⟩
 have hoa:ov.id?≠some a:=fun e=>by have:=st.lt (.inr (.inr e));omega
 have hga1:h1.get a=some (ints (List.replicate 19 0)):=by rw[k3.F5 a (g0.lt _ _ hga) hac.1 hac.2 hoa];exact hga
 have hfa:h1.floor≤a:=by rw[k3.fl,hg0,ha];simp;exact st.nx
 obtain⟨e2,h2,l1,l2,l3,l4,l5,l6,l7,l8,l9⟩:=FA (c:=c) a x xs (fun s hs=>DA s (List.mem_of_mem_take (hxs ▸ hs))) (by omega) hac (I many) xs [] (List.replicate 19 0) S1 h1 ov rfl rdx (by rw[hx];intro i e;cases e) k2 hoa hga1 (by simp) hfa
 obtain⟨cl,hcl⟩:∃cl,cl=(yY c xs (List.replicate 19 0) S1).1:=⟨_,rfl⟩
 obtain⟨S2,hS2⟩:∃cl,cl=(yY c xs (List.replicate 19 0) S1).2:=⟨_,rfl⟩
 rw[←hS2]at l5;rw[←hcl]at l6
 have hcll:cl.length=19:=by rw[hcl,Fz];simp
 have hclb:∀y∈cl,0≤y∧y<16:=by
  rw[hcl];refine Hg c _ _ _ fun y hy=> ?_
  obtain⟨_,rfl⟩:=List.mem_replicate.1 hy;omega
 rw[hxsl]at l1
 have l1':Lp AP.A [0,1,5,18,19,20] AP.f64L1 [(0,.aC c.s 0),(1,I many),(5,.aC a 0),(18,x),(19,I (G+4:Nat)),(20,I 0)] h1=some (.exit 0,e2,h2):=l1
 clear l1
 have fr2:Fr c h ov h2 ov:=by
  refine⟨by rw[l7,k3.fl,al.2.fl], ?_,fun id i1 i2 i3 i4=> ?_,fun i hi=>.inl hi⟩
  · have:=al.2.nx;have:=k3.nx;omega
  · have hn0:g0.next=h.next+1:=by rw[hg0];simp
    have:=k3.nx
    rw[l9 id (by omega) i2 i3 i4 (by omega),k3.F5 id (by omega) i2 i3 i4,al.2.F5 id i1 i2 i3 i4]
 have ry:lX h2 19 1 (.aC a 0) none none=some (.aD a 0 19 1):=by
  simp [lX,l6,aA,hcll]
 have gM:Rd h2 (.aD a 0 19 1) (ints cl):=by
  refine⟨?_,by intro s e;cases e⟩
  simp [aR,l6,hcll,uW]
 have ck:=D4 h2 (.aD a 0 19 1) cl (by omega) gM
 have mk:=yW h2 (.aD a 0 19 1) cl (by omega) hclb gM
 have hhead:(vt cl=0∧S2.e=0∧S.at_+4≤8* c.text.size∧S.at_+4+3* (vi c.text S.at_ 4+4)≤8* c.text.size∧cl=Ek c.text (vq.take (vi c.text S.at_ 4+4)) (S.at_+4) (List.replicate 19 0)∧S2={S with at_:=S.at_+4+3* (vi c.text S.at_ 4+4)})∨((vt cl≠0∨S2.e≠0)∧(S2.e=0∨S2.e=700)∧xW c.text many S.at_=none):=by
  by_cases hp:S.at_+4≤8* c.text.size
  · have eg:u9 c 4 S=(vi c.text S.at_ 4,{S with at_:=S.at_+4}):=by rw[u9,if_pos hp]
    rw[eg]at hG hS1;dsimp only at hG hS1
    subst hS1
    by_cases hp2:S.at_+4+3* (vi c.text S.at_ 4+4)≤8* c.text.size
    · have ok:=Hh c xs (List.replicate 19 0) {S with at_:=S.at_+4} he (by dsimp only;omega)
      rw[ok]at hcl hS2
      dsimp only at hcl hS2
      rw[hxsl,hG]at hS2
      rw[hxs,hG]at hcl
      by_cases hck:vt cl=0
      · exact .inl ⟨hck,by rw[hS2];exact he,hp,hp2,hcl,hS2⟩
      · refine .inr ⟨.inl hck,.inl (by rw[hS2];exact he), ?_⟩
        rw[xW,if_pos hp];dsimp only;rw[if_pos hp2,←hcl,if_neg hck]
    · have hb:=Fy c xs (List.replicate 19 0) {S with at_:=S.at_+4} he (by dsimp only;omega) (by dsimp only;omega)
      rw[←hS2]at hb
      refine .inr ⟨.inr (by rw[hb];decide),.inr hb, ?_⟩
      rw[xW,if_pos hp];dsimp only;rw[if_neg hp2]
  · have eg:u9 c 4 S=(0,{S with e:=700}):=by rw[u9,if_neg hp,vC,if_pos he]
    rw[eg]at hS1;dsimp only at hS1
    have hb:=El c xs (List.replicate 19 0) S1 (by rw[hS1])
    rw[←hS2]at hb
    exact .inr ⟨.inr (by rw[hb];decide),.inr hb,by rw[xW,if_neg hp]⟩
 have hbk:∀(h3:H) (S3:SS),St c S3 h3 ov→Fr c h ov h3 ov→aQ AP.A 41 [.aD a 0 19 1] h3=some (vy cl,h3)→lX h3 19 1 (.aC a 0) none none=some (.aD a 0 19 1)→
  (aK (aQ AP.A) br (.cond (.t 31) (.oI [⟨some 32,.mv (.t 0),none⟩,⟨some 33,.call (.c (.fn 45 [] [])) [(.t 32),(.c (.int .i64 700))],none⟩] [0,1,5]) .skip [0,1,5]) [(0,.aC c.s 0),(1,I many),(5,.aC a 0),(31,.bool (vt cl !=0))] h2=some (.normal,[(0,.aC c.s 0),(1,I many),(5,.aC a 0)],h3))→
  ∀(e4:Env) (h4:H) (av:AV) (acc:List Int) (h5:H),Lp AP.A [0,1,9,10] AP.f64L0 [(0,.aC c.s 0),(1,I many),(9,vy cl),(10,.aO)] h3=some (.exit 2,e4,h4)→look e4 0=.aC c.s 0→look e4 1=I many→look e4 10=av→iO false av=some (I acc.length)→
  (many<acc.length→aQ AP.A 45 [.aC c.s 0,I 700] h4=some (.bM [],h5))→(¬many<acc.length→h5=h4)→aQ AP.A 64 [.aC c.s 0,I many] h=some (av,h5):=by
  intro h3 S3 st3 fr3 mk3 sla3 cnd e4 h4 av acc h5 m1 m2 m3 m4 m5 m6 m7
  refine tq (fn:=AP.f64) (e:=[(4,av)]) (vs:=[av]) rfl rfl rfl ?_ rfl
  have bt:∀e:Env,aX e (.alloc [.int .i64 0,.int .i64 0,.int .i64 0,.int .i64 0,.int .i64 0,.int .i64 0,.int .i64 0,.int .i64 0,.int .i64 0,.int .i64 0,.int .i64 0,.int .i64 0,.int .i64 0,.int .i64 0,.int .i64 0,.int .i64 0,.int .i64 0,.int .i64 0,.int .i64 0])=some (ints (List.replicate 19 0),fun i=>.aC i 0):=fun _=>rfl
  unfold AP.f64
  refine ub (e1:=[(0,.aC c.s 0),(1,I many)]) (h1:=h) rfl ?_
  refine ub (e1:=[(0,.aC c.s 0),(1,I many),(5,.aC a 0)]) (h1:=g0) ?_ ?_
  · simp only[go_sem,bt,←hg0,←ha]
  refine ub (e1:=[(0,.aC c.s 0),(1,I many),(5,.aC a 0),(6,vR vq)]) (h1:=g0) ?_ ?_
  · simp only[go_sem,oc]
  refine ub (e1:=[(0,.aC c.s 0),(1,I many),(5,.aC a 0)]) (h1:=h2) ?_ ?_
  · clear bt
    simp only[I]at *
    simp only[go_sem,k1,w1,QU,Rp,sl,xl,rQ,l1',l2,l3,l4]
  refine ub (e1:=[(0,.aC c.s 0),(1,I many),(5,.aC a 0)]) (h1:=h3) ?_ ?_
  · refine ub (e1:=[(0,.aC c.s 0),(1,I many),(5,.aC a 0),(31,.bool (vt cl !=0))]) (h1:=h2) ?_ cnd
    simp only[I]at *
    simp only[go_sem,Rp,ry,ck]
  refine ub (e1:=[(0,.aC c.s 0),(1,I many),(9,vy cl)]) (h1:=h3) ?_ ?_
  · simp only[go_sem,Rp,sla3,mk3]
  refine ub (e1:=[(0,.aC c.s 0),(1,I many),(9,vy cl),(10,.aO)]) (h1:=h3) rfl ?_
  refine ub (e1:=[(0,.aC c.s 0),(1,I many),(10,av)]) (h1:=h4) ?_ ?_
  · simp only[go_sem,rQ,m1,m2,m3,m4]
  refine ub (e1:=[(10,av)]) (h1:=h5) ?_ ?_
  · by_cases hgt:many<acc.length
    · have c1:(many:Int)<(acc.length:Int):=by omega
      have m6':=m6 hgt
      clear m6 m7
      simp only[I]at *
      simp only[go_sem,m5,QV c1,m6']
    · have c1:¬(many:Int)<(acc.length:Int):=by omega
      have m7':=m7 hgt
      subst m7'
      clear m6 m7
      simp only[I]at *
      simp only[go_sem,m5,QT c1]
  simp only[go_sem]
 rcases hhead with ⟨hck,he2,hp,hp2,hcl2,hS22⟩|⟨hbad,he2,hnone⟩
 · have hlen0:xW c.text many S.at_=v7 c.text cl many (8* c.text.size+1) [] S2.at_:=by
    rw[xW,if_pos hp];dsimp only;rw[if_pos hp2,←hcl2,if_pos hck,hS22]
   have cnd:aK (aQ AP.A) br (.cond (.t 31) (.oI [⟨some 32,.mv (.t 0),none⟩,⟨some 33,.call (.c (.fn 45 [] [])) [(.t 32),(.c (.int .i64 700))],none⟩] [0,1,5]) .skip [0,1,5]) [(0,.aC c.s 0),(1,I many),(5,.aC a 0),(31,.bool (vt cl !=0))] h2=some (.normal,[(0,.aC c.s 0),(1,I many),(5,.aC a 0)],h2):=by
    have cb:(vt cl !=0)=false:=tT hck
    simp only[go_sem,cb]
   obtain⟨e4,h4,S4,av,acc,m1,m2,m3,m4,m5,m6,m7,m8,m9,m10⟩:=Dw h cl (by omega) many hm (8* c.text.size+1) [] S2 h2 ov .aO l5 he2 (by omega) fr2 (.inl ⟨rfl,rfl⟩) (by simp) (fun i q=>by cases q) (fun i hi=>st.lt hi)
   have ln:=m7.len
   rw[pC]at ln
   rw[hlen0]
   cases hL:v7 c.text cl many (8* c.text.size+1) [] S2.at_ with
   | some q =>
     obtain⟨L,p⟩:=q
     rw[hL]at m10
     obtain⟨n1,n2,n3⟩:=m10
     have hng:¬many<acc.length:=by rw[n2];omega
     refine⟨h4,S4,av,acc,hbk h2 S2 l5 fr2 mk ry cnd e4 h4 av acc h4 m1 m2 m3 m4 ln (fun q=>absurd q hng) (fun _=>rfl),m5,m6,m7,m9, ?_,n2,n3⟩
     rw[n1,hS22]
   | none =>
     rw[hL]at m10
     dsimp only at m10 ⊢
     by_cases hgt:many<acc.length
     · obtain⟨h5,f1,f2,f3⟩:=wO m5 700
       refine⟨h5,vC 700 S4,av,acc,hbk h2 S2 l5 fr2 mk ry cnd e4 h4 av acc h5 m1 m2 m3 m4 ln (fun _=>f1) (fun q=>absurd hgt q),f2,m6.trans f3, ?_,m9, ?_⟩
       · refine m7.mono f3.fl fun i hi=>f3.F5 i (m7.lt hi) (fun e=> ?_) (fun e=> ?_) (fun e=> ?_)
         · have:=m9 i hi;have:=st.lt (.inl e);omega
         · have:=m9 i hi;have:=st.lt (.inr (.inl e));omega
         · have:=m9 i hi;have:=st.lt (.inr (.inr e));omega
       · rcases m10 with q|⟨q,_⟩<;>simp [vC,q]
     · refine⟨h4,S4,av,acc,hbk h2 S2 l5 fr2 mk ry cnd e4 h4 av acc h4 m1 m2 m3 m4 ln (fun q=>absurd q hgt) (fun _=>rfl),m5,m6,m7,m9, ?_⟩
       rcases m10 with q|⟨_,q⟩
       · exact q
       · exact absurd q hgt
 · rw [hnone]
   have key:∃h3 S3,St c S3 h3 ov∧Fr c h ov h3 ov∧S3.e=700∧h3.get a=some (ints cl)∧aK (aQ AP.A) br (.cond (.t 31) (.oI [⟨some 32,.mv (.t 0),none⟩,⟨some 33,.call (.c (.fn 45 [] [])) [(.t 32),(.c (.int .i64 700))],none⟩] [0,1,5]) .skip [0,1,5]) [(0,.aC c.s 0),(1,I many),(5,.aC a 0),(31,.bool (vt cl !=0))] h2=some (.normal,[(0,.aC c.s 0),(1,I many),(5,.aC a 0)],h3):=by
    by_cases hck:vt cl=0
    · have hb:S2.e≠0:=by rcases hbad with q|q;exact absurd hck q;exact q
      refine⟨h2,S2,l5,fr2,by rcases he2 with q|q;exact absurd q hb;exact q,l6, ?_⟩
      have cb:(vt cl !=0)=false:=tT hck
      simp only[go_sem,cb]
    · obtain⟨h3,f1,f2,f3⟩:=wO l5 700
      refine⟨h3,vC 700 S2,f2,fr2.trans f3,by rcases he2 with q|q<;>simp [vC,q],by rw[f3.F5 a (h2.lt _ _ l6) hac.1 hac.2 hoa];exact l6, ?_⟩
      have cb:(vt cl !=0)=true:=tU hck
      simp only[I]at *
      simp only[go_sem,cb,f1]
   obtain⟨h3,S3,st3,fr3,he3,hg3,cnd⟩:=key
   have sla3:lX h3 19 1 (.aC a 0) none none=some (.aD a 0 19 1):=by
    simp [lX,hg3,aA,hcll]
   have rdc3:Rd h3 (.aD a 0 19 1) (ints cl):=by
    refine⟨?_,by intro s e;cases e⟩
    simp [aR,hg3,hcll,uW]
   have mk3:=yW h3 (.aD a 0 19 1) cl (by omega) hclb rdc3
   obtain⟨e4,m1,m2,m3,m4⟩:=xC st3 (vy cl) many (av:=.aO) (acc:=[]) (.inl ⟨rfl,rfl⟩) (.inr ⟨by simpa using hm0,by rw[he3];decide⟩)
   exact⟨h3,S3,.aO,[],hbk h3 S3 st3 fr3 mk3 sla3 cnd e4 h3 .aO [] h3 m1 m2 m3 m4 rfl (fun q=>by simp at q) (fun _=>rfl),st3,fr3,.inl ⟨rfl,rfl⟩,(fun i q=>by cases q),he3⟩
def yX (l:List Int):Prop:=∀y∈l,0≤y∧y<16
theorem F8 {t : ByteArray} {y : Int} {acc : List Int} {n : Int} {q times p2 : Nat} (hy : 0 ≤ y ∧ y < 19) (ha : yX acc) (h : yx t y acc q = some (n, times, p2)) : 0 ≤ n ∧ n < 16 := by
 unfold yx at h
 split at h
 · split at h
   · cases h
   · rename_i hn
     split at h
     · have:=Rt (fun o=>o.map (·.1)) h
       simp only[QU,uy]at this
       rw[←this]
       have hl:0<acc.length:=List.length_pos_iff.2 hn
       refine ha _ ?_
       rw[QP,QR (by omega)]
       exact Q6 _
     · cases h
 · split at h
   · split at h
     · have:=Rt (fun o=>o.map (·.1)) h
       simp only[QU,uy]at this;omega
     · cases h
   · split at h
     · split at h
       · have:=Rt (fun o=>o.map (·.1)) h
         simp only[QU,uy]at this;omega
       · cases h
     · have:=Rt (fun o=>o.map (·.1)) h
       simp only[QU,uy]at this;omega
theorem At {t : ByteArray} {cl : List Int} (hcl : cl.length = 19) {many : Nat} : ∀ {f : Nat} {acc : List Int} {p : Nat} {L : List Int} {p2 : Nat}, yX acc → v7 t cl many f acc p = some (L, p2) → yX L
 |0,_,_,_,_,_,h=>by cases h
 | f + 1, acc, p, L, p2, ha, h => by
   rw[v7]at h
   split at h
   · split at h
     · cases h
     · rename_i y p1 hs
       have sb:=xZ hs
       split at h
       · cases h
       · rename_i n times q hag
         have hr:=F8 ⟨sb.1,by omega⟩ ha hag
         exact At hcl (fun y hy=>by
          rcases Ri.1 hy with hy|hy
          · exact ha y hy
          · obtain⟨_,rfl⟩:=List.mem_replicate.1 hy;exact hr) h
   · split at h
     · cases h
     · have:=Rt (fun o=>o.map (·.1)) h
       simp only[QU,uy]at this;rw[←this];exact ha
theorem Fw (t:ByteArray):∀(r:List Int) (p:Nat) (o:List Int),(Ek t r p o).length=o.length
 |[],_,_=>rfl
 |s::r,p,o=>by rw[Ek,Fw t r];simp
theorem HY {t:ByteArray} {many p:Nat} {L:List Int} {p2:Nat} (h:xW t many p=some (L,p2)):yX L:=by
 unfold xW at h
 split at h
 · dsimp only at h
   split at h
   · split at h
     · exact At (by rw[Fw];simp) (fun y hy=>by cases hy) h
     · cases h
   · cases h
 · cases h
def HP (t : ByteArray) (most : Int) (p : Nat) (out : List Nat) : Rs :=
 if p+10≤8* t.size then
  let lits:=vi t p 5+257
  let dists:=vi t (p+5) 5+1
  if 286<lits∨30<dists then .error 700 else
  match xW t (lits+dists) (p+10)with
  |none=>.error 700
  | some (L, p2) =>
    if vt (L.take lits)≠0∨(L.take lits).getD 256 0=0∨(vt (L.drop lits)≠0∧wV (L.drop lits)=false)then .error 700
    else wT t most (L.take lits) (L.drop lits) (8* t.size+1) p2 out
 else .error 700
theorem HQ {c : SC} {S : SS} {h : H} {ov : AV} (st : St c S h ov) (he : S.e = 0) :
 ∃h' ov' S',aQ AP.A 44 [.aC c.s 0] h=some (.bM [],h')∧St c S' h' ov'∧Fr c h ov h' ov'∧Fin (HP c.text c.most S.at_ S.out) S':=by
 obtain⟨h1,a1,a2,a3⟩:=yh st 5 5 rfl (by omega)
 obtain⟨h2,b1,b2,b3⟩:=yh a2 5 5 rfl (by omega)
 obtain⟨A,hA⟩:∃n,n=(u9 c 5 S).1:=⟨_,rfl⟩
 obtain⟨S1,hS1⟩:∃n,n=(u9 c 5 S).2:=⟨_,rfl⟩
 rw[←hA]at a1;rw[←hS1]at a2 b1 b2
 obtain⟨B,hB⟩:∃n,n=(u9 c 5 S1).1:=⟨_,rfl⟩
 obtain⟨S2,hS2⟩:∃n,n=(u9 c 5 S1).2:=⟨_,rfl⟩
 rw[←hB]at b1;rw[←hS2]at b2
 have g5:∀S,(u9 c 5 S).1<32:=fun S=>by
  unfold u9;split
  · simpa using wH c.text S.at_ 5
  · simp
 have hA32:A<32:=hA ▸ g5 S
 have hB32:B<32:=hB ▸ g5 S1
 have w1:IntKind.wrap .i64 ((A:Int)+257)=((A+257:Nat):Int):=u7 (n:=A+257) (by omega)
 have w2:IntKind.wrap .i64 ((B:Int)+1)=((B+1:Nat):Int):=u7 (n:=B+1) (by omega)
 have gs2:=b2.gs
 have he2:S2.e=0∨S2.e=700:=by rw[hS2];exact IU c 5 _ (by rw[hS1];exact IU c 5 S (.inl he))
 have fr2:=a3.trans b3
 have bad:(S2.e≠0∨286<A+257∨30<B+1)→∃h' ov' S',aQ AP.A 44 [.aC c.s 0] h=some (.bM [],h')∧St c S' h' ov'∧Fr c h ov h' ov'∧S'.e=700∧(700:Int)≠0:=by
  intro hb
  obtain⟨h3,f1,f2,f3⟩:=wO b2 700
  refine⟨h3,ov,vC 700 S2, ?_,f2,fr2.trans f3,by rcases he2 with q|q<;>simp [vC,q],by decide⟩
  refine tq (fn:=AP.f44) (e:=[]) (vs:=[]) rfl rfl rfl ?_ rfl
  by_cases c1:S2.e=0
  · have c1':=tT c1
    by_cases c2:286<A+257
    · have c2':(286:Int)<((A+257:Nat):Int):=by omega
      simp only[I]at *
      simp only[AP.f44,go_sem,a1,b1,w1,w2,gs2,c1',QV c2',f1]
    · have c2':¬(286:Int)<((A+257:Nat):Int):=by omega
      have c3':(30:Int)<((B+1:Nat):Int):=by
       rcases hb with q|q|q
       · exact absurd c1 q
       · exact absurd q c2
       · omega
      simp only[I]at *
      simp only[AP.f44,go_sem,a1,b1,w1,w2,gs2,c1',QT c2',QV c3',f1]
  · have c1':=tU c1
    simp only[I]at *
    simp only[AP.f44,go_sem,a1,b1,w1,w2,gs2,c1',f1]
 unfold HP
 by_cases hp:S.at_+10≤8* c.text.size
 · have e1 : u9 c 5 S = (vi c.text S.at_ 5, { S with at_ := S.at_ + 5 }) := by rw [u9, if_pos (by omega)]
   rw[e1]at hA hS1;dsimp only at hA hS1
   have e2:u9 c 5 {S with at_:=S.at_+5}=(vi c.text (S.at_+5) 5,{S with at_:=S.at_+5+5}):=by rw[u9,if_pos (by show S.at_+5+5≤_;omega)]
   rw[hS1,e2]at hB hS2;dsimp only at hB hS2
   rw[if_pos hp]
   dsimp only
   rw[←hA,←hB]
   by_cases hbig:286<A+257∨30<B+1
   · rw[if_pos hbig];exact bad (.inr hbig)
   · rw [if_neg hbig]
     have c1':(S2.e !=0)=false:=tT (by rw[hS2];exact he)
     have c2':¬(286:Int)<((A+257:Nat):Int):=by omega
     have c3':¬(30:Int)<((B+1:Nat):Int):=by omega
     have w3:IntKind.wrap .i64 (((A+257:Nat):Int)+((B+1:Nat):Int))=((A+257+(B+1):Nat):Int):=by
      rw[show((A+257:Nat):Int)+((B+1:Nat):Int)=((A+257+(B+1):Nat):Int)by omega];exact u7 (by omega)
     obtain⟨h3,S3,av,acc,l1,l2,l3,l4,l5,l6⟩:=HX b2 (by rw[hS2];exact he) (A+257+(B+1)) (by omega) (by omega)
     have gs3:=l2.gs
     have hat2:S2.at_=S.at_+10:=by rw[hS2]
     rw[hat2]at l6
     cases hL:xW c.text (A+257+(B+1)) (S.at_+10)with
     | none =>
       rw[hL]at l6
       have c4:(S3.e !=0)=true:=tU (by rw[l6];decide)
       refine⟨h3,ov,S3, ?_,l2,fr2.trans l3,l6,by decide⟩
       refine tq (fn:=AP.f44) (e:=[(0,.aC c.s 0),(2,I (A+257:Nat)),(4,av),(37,.bool true)]) (vs:=[]) rfl rfl rfl ?_ rfl
       simp only[I]at *
       simp only[AP.f44,go_sem,a1,b1,w1,w2,gs2,c1',QT c2',QT c3',w3,l1,gs3,c4]
     | some q =>
       obtain⟨L,p2⟩:=q
       rw[hL]at l6
       obtain⟨l6,l7,l8⟩:=l6
       subst l7
       have hrng:=HY hL
       dsimp only
       have he3:S3.e=0:=by rw[l6,hS2];exact he
       have c4:(S3.e !=0)=false:=tT he3
       obtain⟨id,hav,hgid⟩:∃id,av=.aD id 0 (A+257+(B+1)) 1∧h3.get id=some (ints acc):=by
        rcases l4 with ⟨_,q⟩|⟨id,q1,q2,_⟩
        · have:=Rt List.length q;rw[pC,l8,QS]at this;omega
        · exact⟨id,by rw[q1,pC,l8],q2⟩
       have hil:(ints acc).length=A+257+(B+1):=by rw[pC,l8]
       have s1:=Ga (h:=h3) (k:=A+257) hgid hil (uH _) (by omega)
       have s2:=Iu (h:=h3) (k:=A+257) hgid hil (by omega)
       rw[show A+257+(B+1)-(A+257)=B+1 by omega]at s2
       rw[←hav]at s1 s2
       obtain⟨la,hla⟩:∃x,x=acc.take (A+257):=⟨_,rfl⟩
       obtain⟨lb,hlb⟩:∃x,x=acc.drop (A+257):=⟨_,rfl⟩
       have hlal:la.length=A+257:=by rw[hla,Rh];omega
       have hlbl:lb.length=B+1:=by rw[hlb,List.length_drop];omega
       have ra:Rd h3 (.aD id 0 (A+257) 1) (ints la):=by
        refine⟨?_,by intro s e;cases e⟩
        simp only[aR,if_true,hgid,uE]
        rw[if_pos (by rw[hil];omega),hla];simp [ints,List.map_take];omega
       have rb:Rd h3 (.aD id (A+257) (B+1) 1) (ints lb):=by
        refine⟨?_,by intro s e;cases e⟩
        simp only[aR,if_true,hgid,uE]
        rw[if_pos (by rw[hil];omega),hlb]
        have:(ints (acc.drop (A+257))).length=B+1:=by rw[pC,←hlb,hlbl]
        rw[this,ints,ints,←List.map_drop,Nat.mul_one,uW (by rw[Ru,←hlb,hlbl];omega)]
       rw[←hla,←hlb]
       have cka:=D4 h3 _ la (by omega) ra
       have ckb:=D4 h3 _ lb (by omega) rb
       have hra:yX la:=fun y hy=>hrng y (List.mem_of_mem_take (hla ▸ hy))
       have hrb:yX lb:=fun y hy=>hrng y (List.mem_of_mem_drop (hlb ▸ hy))
       have sgb:=Jt h3 _ lb (by omega) hrb rb
       have mka:=yW h3 _ la (by omega) hra ra
       have mkb:=yW h3 _ lb (by omega) hrb rb
       have hel:=Dp (l:=la) (i:=256) (by omega)
       obtain⟨ad,p1,p2'⟩:=ra.elem hel
       have p3:=p2' h3 (fun _ _ q=>q)
       have p1':fG 1 (.aD id 0 (A+257) 1) (I 256)=some ad:=p1
       clear p1 p2'
       obtain⟨cb,hcb⟩:∃b:Bool,(b=true↔vt la≠0∨la.getD 256 0=0∨(vt lb≠0∧wV lb=false)):=⟨decide _,decide_eq_true_iff⟩
       have step:∀k,aK (aQ AP.A) br k [(0,.aC c.s 0),(2,I (A+257:Nat)),(4,av)] h3=aK (aQ AP.A) br k [(0,.aC c.s 0),(2,I (A+257:Nat)),(4,av)] h3:=fun _=>rfl
       by_cases hbad:vt la≠0∨la.getD 256 0=0∨(vt lb≠0∧wV lb=false)
       · rw [if_pos hbad]
         obtain⟨h4,f1,f2,f3⟩:=wO l2 700
         refine⟨h4,ov,vC 700 S3, ?_,f2,(fr2.trans l3).trans f3,by simp [vC,he3],by decide⟩
         refine tq (fn:=AP.f44) (e:=[]) (vs:=[]) rfl rfl rfl ?_ rfl
         by_cases d1:vt la=0
         · have d1':=tT d1
           by_cases d2:la.getD 256 0=0
           · have d2':=tS d2
             simp only[I]at *
             simp only[AP.f44,go_sem,a1,b1,w1,w2,gs2,c1',QT c2',QT c3',w3,l1,gs3,c4,QU,Rp,s1,s2,cka,d1',p1',p3,d2',f1]
           · have d2':=tR d2
             obtain⟨d3,d4⟩:vt lb≠0∧wV lb=false:=by
              rcases hbad with q|q|q
              · exact absurd d1 q
              · exact absurd q d2
              · exact q
             have d3':=tU d3
             rw[d4]at sgb
             simp only[I]at *
             simp only[AP.f44,go_sem,a1,b1,w1,w2,gs2,c1',QT c2',QT c3',w3,l1,gs3,c4,QU,Rp,s1,s2,cka,d1',p1',p3,d2',ckb,d3',sgb,f1]
         · have d1':=tU d1
           simp only[I]at *
           simp only[AP.f44,go_sem,a1,b1,w1,w2,gs2,c1',QT c2',QT c3',w3,l1,gs3,c4,QU,Rp,s1,s2,cka,d1',f1]
       · rw [if_neg hbad]
         have d1:vt la=0:=Decidable.byContradiction fun q=>hbad (.inl q)
         have d2:la.getD 256 0≠0:=fun q=>hbad (.inr (.inl q))
         have d1':=tT d1
         have d2':=tR d2
         obtain⟨h4,ov4,S4,q1,q2,q3,q4⟩:=GR la lb (by omega) (by omega) l2 he3
         refine⟨h4,ov4,S4, ?_,q2,(fr2.trans l3).trans q3, ?_⟩
         · refine vQ (fn:=AP.f44) (e:=[]) (vs:=[]) rfl rfl rfl ?_ rfl
           by_cases d3:vt lb=0
           · have d3':=tT d3
             simp only[I]at *
             simp only[AP.f44,go_sem,a1,b1,w1,w2,gs2,c1',QT c2',QT c3',w3,l1,gs3,c4,QU,Rp,s1,s2,cka,d1',p1',p3,d2',ckb,d3',mka,mkb,q1]
           · have d3':=tU d3
             have d4:wV lb=true:=by
              cases hs:wV lb with
              |true=>rfl
              |false=>exact absurd (.inr (.inr ⟨d3,hs⟩)) hbad
             rw[d4]at sgb
             simp only[I]at *
             simp only[AP.f44,go_sem,a1,b1,w1,w2,gs2,c1',QT c2',QT c3',w3,l1,gs3,c4,QU,Rp,s1,s2,cka,d1',p1',p3,d2',ckb,d3',sgb,mka,mkb,q1]
         · have:S3.at_=p2:=by rw[l6]
           have ho:S3.out=S.out:=by rw[l6,hS2]
           rw[this,ho]at q4;exact q4
 · rw[if_neg hp]
   refine bad (.inl ?_)
   rw[hS2,hS1]
   unfold u9
   by_cases q1:S.at_+5≤8* c.text.size
   · simp only[if_pos q1];rw[if_neg (by omega)];simp [vC,he]
   · simp only[if_neg q1,vC,he,if_true];split<;>simp
def yM (t : ByteArray) (most : Int) (p : Nat) (out : List Nat) : Except Int (Bool × Nat × List Nat) :=
 if p+3≤8* t.size then
  let r:Rs:=if vi t (p+1) 2=0 then BL t most (p+3) out
   else if vi t (p+1) 2=1 then wT t most vI (List.replicate 30 5) (8* t.size+1) (p+3) out
   else if vi t (p+1) 2=2 then HP t most (p+3) out
   else .error 700
  match r with
  | .ok q=>.ok (vi t p 1==1,q.1,q.2)
  | .error k=>.error k
 else .error 700
def NN (r:Except Int (Bool×Nat×List Nat)) (b:Bool) (S:SS):Prop:=match r with
 | .ok q=>b=q.1∧S=⟨q.2.1,q.2.2,0⟩
 | .error k=>S.e=k∧k≠0
theorem Cc:vI.length=288:=by simp only[vI,u1,Q5]
theorem Gi:yX vI:=by
 intro y hy
 simp only[vI,Ri]at hy
 rcases hy with hy|hy|hy|hy<;>(obtain⟨_,rfl⟩:=List.mem_replicate.1 hy;omega)
theorem HR:yX (List.replicate 30 5):=by
 intro y hy
 obtain⟨_,rfl⟩:=List.mem_replicate.1 hy;omega
theorem J0 {c : SC} {S : SS} {h : H} {ov : AV} (st : St c S h ov) (he : S.e = 0) :
 ∃h' ov' S' b,aQ AP.A 15 [.aC c.s 0] h=some (.bool b,h')∧St c S' h' ov'∧Fr c h ov h' ov'∧NN (yM c.text c.most S.at_ S.out) b S':=by
 obtain⟨h1,a1,a2,a3⟩:=yh st 1 1 rfl (by omega)
 obtain⟨h2,b1,b2,b3⟩:=yh a2 2 2 rfl (by omega)
 obtain⟨A,hA⟩:∃n,n=(u9 c 1 S).1:=⟨_,rfl⟩
 obtain⟨S1,hS1⟩:∃n,n=(u9 c 1 S).2:=⟨_,rfl⟩
 rw[←hA]at a1;rw[←hS1]at a2 b1 b2
 obtain⟨B,hB⟩:∃n,n=(u9 c 2 S1).1:=⟨_,rfl⟩
 obtain⟨S2,hS2⟩:∃n,n=(u9 c 2 S1).2:=⟨_,rfl⟩
 rw[←hB]at b1;rw[←hS2]at b2
 have gs2:=b2.gs
 have fr2:=a3.trans b3
 obtain⟨lb,hlb⟩:∃b:Bool,b=((A:Int)==1):=⟨_,rfl⟩
 unfold yM
 by_cases hp:S.at_+3≤8* c.text.size
 · rw [if_pos hp]
   have e1:u9 c 1 S=(vi c.text S.at_ 1,{S with at_:=S.at_+1}):=by rw[u9,if_pos (by omega)]
   rw[e1]at hA hS1;dsimp only at hA hS1
   have e2:u9 c 2 {S with at_:=S.at_+1}=(vi c.text (S.at_+1) 2,{S with at_:=S.at_+1+2}):=by rw[u9,if_pos (by show S.at_+1+2≤_;omega)]
   rw[hS1,e2]at hB hS2;dsimp only at hB hS2
   have he2:S2.e=0:=by rw[hS2];exact he
   have hat:S2.at_=S.at_+3:=by rw[hS2]
   have hout:S2.out=S.out:=by rw[hS2]
   dsimp only
   rw[←hA,←hB]
   have hlb2:lb=(A==1):=by
    rw[hlb];by_cases q:A=1
    · subst q;rfl
    · rw[tR (by omega)];symm;simp [q]
   have wrap:∀(r:Rs) (h':H) (ov':AV) (S':SS),aQ AP.A 15 [.aC c.s 0] h=some (.bool lb,h')→St c S' h' ov'→Fr c h2 ov h' ov'→Fin r S'→∃h' ov' S' b,aQ AP.A 15 [.aC c.s 0] h=some (.bool b,h')∧St c S' h' ov'∧Fr c h ov h' ov'∧NN (match r with| .ok q=>.ok (A==1,q.1,q.2)| .error k=>.error k) b S':=by
    intro r h' ov' S' q1 q2 q3 q4
    refine⟨h',ov',S',lb,q1,q2,fr2.trans q3, ?_⟩
    cases r with
    |ok q=>exact⟨hlb2,q4⟩
    |error k=>exact q4
   have c0:(S2.e==0)=true:=tS he2
   by_cases d0:B=0
   · rw[if_pos d0]
     obtain⟨h',ov',S',q1,q2,q3,q4⟩:=JD b2 he2
     rw[hat,hout]at q4
     refine wrap _ h' ov' S' ?_ q2 q3 q4
     have d0':((B:Int)==0)=true:=tS (by omega)
     refine tq (fn:=AP.f15) (e:=[(2,.bool lb)]) rfl rfl rfl ?_ rfl
     simp only[I]at *
     simp only[AP.f15,go_sem,a1,b1,←hlb,d0',gs2,c0,q1]
   · rw [if_neg d0]
     have d0':((B:Int)==0)=false:=tR (by omega)
     by_cases d1:B=1
     · rw[if_pos d1]
       have d1':((B:Int)==1)=true:=tS (by omega)
       have f1:=GZ h2
       have m1:=yW h2 (vR vI) vI (by rw[Cc];omega) Gi (xn _ _)
       have al:=b2.alloc [I 5]
       have r1:=xN (h2.alloc [I 5]) (.aD h2.next 0 1 1) 5 30 (by omega) (zq _ _)
       have r1':aQ AP.A 43 [.aD h2.next 0 1 1,I 30] (h2.alloc [I 5])=some (vR (List.replicate 30 5),h2.alloc [I 5]):=by
        rw[vR,Q5];exact r1
       have m2:=yW (h2.alloc [I 5]) (vR (List.replicate 30 5)) (List.replicate 30 5) (by rw[Q5];omega) HR (xn _ _)
       obtain⟨h',ov',S',q1,q2,q3,q4⟩:=GR vI (List.replicate 30 5) (by rw[Cc];omega) (by rw[Q5];omega) al.1 he2
       rw[hat,hout]at q4
       refine wrap _ h' ov' S' ?_ q2 (al.2.trans q3) q4
       refine tq (fn:=AP.f15) (e:=[(2,.bool lb)]) rfl rfl rfl ?_ rfl
       clear r1
       generalize vy vI=bf at *
       generalize vy (List.replicate 30 5)=bd at *
       generalize vR vI=vf at *
       generalize vR (List.replicate 30 5)=vd at *
       simp only[I]at *
       simp only[AP.f15,go_sem,a1,b1,←hlb,d0',d1',f1,m1,NT,I,r1',m2,q1]
     · rw[if_neg d1]
       have d1':((B:Int)==1)=false:=tR (by omega)
       by_cases d2:B=2
       · rw[if_pos d2]
         have d2':((B:Int)==2)=true:=tS (by omega)
         obtain⟨h',ov',S',q1,q2,q3,q4⟩:=HQ b2 he2
         rw[hat,hout]at q4
         refine wrap _ h' ov' S' ?_ q2 q3 q4
         refine tq (fn:=AP.f15) (e:=[(2,.bool lb)]) rfl rfl rfl ?_ rfl
         simp only[I]at *
         simp only[AP.f15,go_sem,a1,b1,←hlb,d0',d1',d2',q1]
       · rw[if_neg d2]
         have d2':((B:Int)==2)=false:=tR (by omega)
         obtain⟨h',q1,q2,q3⟩:=wO b2 700
         refine wrap (.error 700) h' ov _ ?_ q2 q3 ⟨by simp [vC,he2],by decide⟩
         refine tq (fn:=AP.f15) (e:=[(2,.bool lb)]) rfl rfl rfl ?_ rfl
         simp only[I]at *
         simp only[AP.f15,go_sem,a1,b1,←hlb,d0',d1',d2',q1]
 · rw [if_neg hp]
   have hB0:B=0∧S2.e=700:=by
    by_cases q1:S.at_+1≤8* c.text.size
    · have e1:u9 c 1 S=(vi c.text S.at_ 1,{S with at_:=S.at_+1}):=by rw[u9,if_pos q1]
      rw[e1]at hS1;dsimp only at hS1
      have e2:u9 c 2 S1=(0,{S1 with e:=700}):=by rw[u9,if_neg (by rw[hS1];show¬S.at_+1+2≤_;omega),vC,if_pos (by rw[hS1];exact he)]
      rw[e2]at hB hS2
      exact⟨hB,by rw[hS2]⟩
    · have e1:u9 c 1 S=(0,{S with e:=700}):=by rw[u9,if_neg q1,vC,if_pos he]
      rw[e1]at hS1;dsimp only at hS1
      have e2:u9 c 2 S1=(0,S1):=by rw[u9,if_neg (by rw[hS1];show¬S.at_+2≤_;omega),vC,if_neg (by rw[hS1];simp)]
      rw[e2]at hB hS2
      exact⟨hB,by rw[hS2,hS1]⟩
   have d0':((B:Int)==0)=true:=tS (by omega)
   have c0:(S2.e==0)=false:=tR (by rw[hB0.2];decide)
   refine⟨h2,ov,S2,lb, ?_,b2,fr2,hB0.2,by decide⟩
   refine tq (fn:=AP.f15) (e:=[(2,.bool lb)]) rfl rfl rfl ?_ rfl
   simp only[I]at *
   simp only[AP.f15,go_sem,a1,b1,←hlb,d0',gs2,c0]
def zm (t : ByteArray) (most : Int) : Nat → Nat → List Nat → Rs
 |0,_,_=>.error 700
 | f + 1, p, out => match yM t most p out with
   | .error k=>.error k
   | .ok (last,p2,o)=>if last then .ok (p2,o)else zm t most f p2 o
theorem Ff {c:SC} {S:SS} {h:H} {ov:AV} (st:St c S h ov) (b:Bool) (hs:b=true∨S.e≠0):
 ∃e',Lp AP.A [7,8] AP.f7L0 [(7,.aC c.s 0),(8,.bool b)] h=some (.exit 0,e',h)∧look e' 7=.aC c.s 0:=by
 have gs:=st.gs
 refine⟨[(7,.aC c.s 0),(28,.bool false)],sV ?_,rfl⟩
 cases b with
 | true =>
   simp only[I]at *
   simp only[AP.f7L0,go_sem]
 | false =>
   have c2:(S.e==0)=false:=tR (by rcases hs with q|q;cases q;exact q)
   simp only[I]at *
   simp only[AP.f7L0,go_sem,gs,c2]
theorem DO {t:ByteArray} {most:Int}:∀{n p:Nat} {out:List Nat} {p2:Nat} {o:List Nat},yd t most n p out=.ok (p2,o)→p≤p2
 |0,p,out,p2,o,h=>by rw[yd]at h;cases h;exact uH _
 | n + 1, p, out, p2, o, h => by
   rw[yd]at h
   split at h
   · split at h
     · cases h
     · have:=DO h;omega
   · cases h
theorem ze {t : ByteArray} {most : Int} {ll dl : List Int} : ∀ {k p : Nat} {out : List Nat} {p2 : Nat} {o : List Nat}, wT t most ll dl k p out = .ok (p2, o) → p < p2
 |0,_,_,_,_,h=>by cases h
 | k + 1, p, out, p2, o, h => by
   rw[wT]at h
   split at h
   · cases h
   · rename_i y p1 hs
     have sb:=xZ hs
     split at h
     · split at h
       · cases h
       · have:=ze h;omega
     · split at h
       · cases h;omega
       · split at h
         · rename_i p3 o3 hc
           have:=EW hc
           have:=ze h;omega
         · cases h
theorem Bn {t : ByteArray} {cl : List Int} {many : Nat} : ∀ {f : Nat} {acc : List Int} {p : Nat} {L : List Int} {p2 : Nat}, v7 t cl many f acc p = some (L, p2) → p ≤ p2
 |0,_,_,_,_,h=>by cases h
 | f + 1, acc, p, L, p2, h => by
   rw[v7]at h
   split at h
   · split at h
     · cases h
     · rename_i y p1 hs
       have sb:=xZ hs
       split at h
       · cases h
       · rename_i n times q hag
         have:=Bn h
         have:p1≤q:=by
          unfold yx at hag
          repeat' split at hag
          all_goals first
           |(cases hag;done)
           |(have:=Rt (fun o=>o.map (·.2.2)) hag;simp only[QU,uy]at this;omega)
         omega
   · split at h
     · cases h
     · have:=Rt (fun o=>o.map (·.2)) h
       simp only[QU,uy]at this;omega
theorem HJ {t : ByteArray} {most : Int} {p : Nat} {out : List Nat} {q : Bool × Nat × List Nat} (h : yM t most p out = .ok q) : p < q.2.1 := by
 unfold yM at h
 split at h
 · dsimp only at h
   have key:∀{r:Rs},(match r with| .ok q=>Except.ok (vi t p 1==1,q.1,q.2)| .error k=>.error k)=Except.ok (ε:=Int) q→∃z,r=.ok z∧z.1=q.2.1:=by
    intro r h
    cases r with
    |ok z=>cases h;exact⟨z,rfl,rfl⟩
    |error k=>cases h
   obtain⟨z,h1,h2⟩:=key h
   rw[←h2]
   split at h1
   · unfold BL at h1
     dsimp only at h1
     split at h1
     · split at h1
       · have:=DO h1;omega
       · cases h1
     · cases h1
   · split at h1
     · have:=ze h1;omega
     · split at h1
       · unfold HP at h1
         split at h1
         · dsimp only at h1
           split at h1
           · cases h1
           · split at h1
             · cases h1
             · rename_i L p2 hl
               split at h1
               · cases h1
               · have:=ze h1
                 have:p+3≤p2:=by
                  unfold xW at hl
                  split at hl
                  · dsimp only at hl
                    split at hl
                    · split at hl
                      · have:=Bn hl;omega
                      · cases hl
                    · cases hl
                  · cases hl
                 omega
         · cases h1
       · cases h1
 · cases h
theorem Fe {c : SC} : ∀ (f : Nat) (S : SS) (h : H) (ov : AV), St c S h ov → S.e = 0 → 8 * c.text.size < S.at_ + f →
 ∃e' h' ov' S',Lp AP.A [7,8] AP.f7L0 [(7,.aC c.s 0),(8,.bool false)] h=some (.exit 0,e',h')∧look e' 7=.aC c.s 0∧St c S' h' ov'∧Fr c h ov h' ov'∧Fin (zm c.text c.most f S.at_ S.out) S'
 |0,S,h,ov,st,he,hk=>by have:=st.ye;omega
 | f + 1, S, h, ov, st, he, hk => by
   have gs:=st.gs
   obtain⟨h1,ov1,S1,b,q1,q2,q3,q4⟩:=J0 st he
   have step:aK (aQ AP.A) br AP.f7L0 (ax [(7,.aC c.s 0),(8,.bool false)] [7,8]) h=some (.normal,[(7,.aC c.s 0),(8,.bool b)],h1):=by
    simp only[I]at *
    simp only[AP.f7L0,go_sem,gs,he,q1]
   rw[zm]
   cases hb:yM c.text c.most S.at_ S.out with
   | error k =>
     rw[hb]at q4
     obtain⟨e',r1,r2⟩:=Ff q2 b (.inr (by rw[q4.1];exact q4.2))
     exact⟨e',h1,ov1,S1,sW step r1,r2,q2,q3,q4⟩
   | ok z =>
     obtain⟨last,p2,o⟩:=z
     rw[hb]at q4
     obtain⟨q5,q6⟩:=q4
     dsimp only at q5 q6 ⊢
     subst q5
     cases b with
     | true =>
       obtain⟨e',r1,r2⟩:=Ff q2 true (.inl rfl)
       exact⟨e',h1,ov1,S1,sW step r1,r2,q2,q3,q6⟩
     | false =>
       have hge:=HJ hb
       dsimp only at hge
       subst q6
       obtain⟨e',h',ov',S',r1,r2,r3,r4,r5⟩:=Fe f _ h1 ov1 q2 rfl (by dsimp only;omega)
       exact⟨e',h',ov',S',sW step r1,r2,r3,q3.trans r4,r5⟩
def bytesOf (l:List Nat):ByteArray:=⟨(l.map UInt8.ofNat).toArray⟩
def yS (t:ByteArray) (most:Int):Except Int (List Nat×Nat):=
 if most<0∨8192<most then .error 700 else
 match zm t most (8* t.size+1) 0 []with
 | .ok q=>.ok (q.2,(q.1+7)/8)
 | .error k=>.error k
def Pz (r:Except Int (List Nat×Nat)):AV:=match r with
 | .ok q=>.bM [.str (bytesOf q.1),I q.2,I 0]
 | .error k=>.bM [.str ⟨#[]⟩,I 0,I k]
theorem DY:∀l:List Nat,kz (xi l)=some (l.map UInt8.ofNat)
 |[]=>rfl
 | x :: l => by
   have:xi (x::l)=.int .u8 x::xi l:=rfl
   rw[this,kz,DY l];simp
theorem JX {h:H} {v:AV} {l:List Nat} (o:ng h v (xi l)):tD h v (aR h 1 v)=some (.str (bytesOf l),h):=by
 rcases o with ⟨rfl,q⟩|⟨id,rfl,q,_⟩
 · have:l=[]:=by cases l with|nil=>rfl|cons _ _=>cases q
   subst this;rfl
 · simp only[aR,if_true,q,uE]
   rw[if_pos (by omega)]
   have:((xi l).drop 0).take ((xi l).length* 1)=xi l:=by rw[Ra,Nat.mul_one,List.take_length]
   rw[this]
   simp only[tD,uE,DY];rfl
theorem HU (h : H) (hf : h.floor ≤ h.next) (t : ByteArray) (most : Int) (hs : t.size < 1125899906842624) : aQ AP.A 7 [.str t, I most] h = some (Pz (yS t most), h) := by
 unfold yS
 by_cases c1:most<0
 · rw[if_pos (.inl c1)]
   refine tL (fn:=AP.f7) (h2:=h.dJ) (e:=[(4,.str ⟨#[]⟩),(5,I 0),(6,I 700)]) rfl rfl rfl ?_ rfl rfl
   simp only[I]at *
   simp only[AP.f7,go_sem,QV c1]
 by_cases c2:8192<most
 · rw[if_pos (.inr c2)]
   refine tL (fn:=AP.f7) (h2:=h.dJ) (e:=[(4,.str ⟨#[]⟩),(5,I 0),(6,I 700)]) rfl rfl rfl ?_ rfl rfl
   simp only[I]at *
   simp only[AP.f7,go_sem,QT c1,QV c2]
 rw[if_neg (by omega)]
 obtain⟨h1,hh1⟩:∃g,g=h.dJ.alloc [.str t,I 0]:=⟨_,rfl⟩
 obtain⟨h2,hh2⟩:∃g,g=h1.alloc [.aC h.next 0,.aO,I most,I 0]:=⟨_,rfl⟩
 have of1:=PC h.dJ t
 rw[←hh1]at of1
 have n1:h1.next=h.next+1:=by rw[hh1];simp
 have st:St ⟨h.next+1,h.next,t,most⟩ ⟨0,[],0⟩ h2 .aO:=by
  refine⟨?_, ?_,.inl ⟨rfl,rfl⟩,by simp, ?_, ?_,by simp [AV.id?],by simp [AV.id?], ?_,hs,by simp,by simp;omega,by show most≤900000;omega⟩
  · rw[hh2,H.aV,if_pos n1.symm]
  · rw[hh2,H.aV,if_neg (by show h.next≠h1.next;omega),hh1,H.aV,if_pos (show h.next=h.dJ.next from rfl)];rfl
  · rw[hh2,hh1];simp
  · rw[hh2,hh1];simp
  · rw[hh2,hh1];simp;omega
 obtain⟨e',h3,ov,S,q1,q2,q3,q4,q5⟩:=Fe (8* t.size+1) ⟨0,[],0⟩ h2 .aO st rfl (by show 8* t.size<0+(8* t.size+1);omega)
 have gs:=q3.gs
 have bx:∀e:Env,look e 18=.agg [.aC h.next 0,.aO,.int .i64 most,.int .i64 0]→aX e (.box 4 (.t 18))=some ([.aC h.next 0,.aO,.int .i64 most,.int .i64 0],fun i=>.aC i 0):=by
  intro e q;simp only[aX,rS,q];rfl
 have fl:dK [.ch,.aO,.int .i64 0,.int .i64 0] [(0,1,.aC h.next 0),(2,1,.int .i64 most)]=some [.aC h.next 0,.aO,.int .i64 most,.int .i64 0]:=rfl
 have hn:h.dJ.next=h.next:=rfl
 dsimp only at q5
 cases hi:zm t most (8* t.size+1) 0 []with
 | error k =>
   rw[hi]at q5
   have c3:(S.e !=0)=true:=tU (by rw[q5.1];exact q5.2)
   have hk:S.e=k:=q5.1
   refine tL (fn:=AP.f7) (h2:=h3) (e:=[(4,.str ⟨#[]⟩),(5,I 0),(6,I k)]) rfl rfl rfl ?_ rfl rfl
   simp only[I]at *
   simp only[AP.f7,go_sem,QT c1,QT c2,of1,hn,QY,Rw,fl]
   rw[bx _ rfl]
   rw[hk]at gs c3
   simp only[go_sem,←hh2,n1,rQ,q1,q2,gs,c3]
 | ok z =>
   obtain⟨p,o⟩:=z
   rw[hi]at q5
   simp only[Fin]at q5
   have c3:(S.e !=0)=false:=tT (by rw[q5])
   obtain⟨h4,a1,a2,a3⟩:=q3.align
   have gs4:=a2.gs
   have gr4:=a2.gr
   have at4:=Ps h4 h.next t _ gr4
   have hb:=JX a2.own
   subst q5
   dsimp only at gs4 gr4 at4 hb a2 gs c3
   have hle:=a2.ye
   dsimp only at hle
   have qd:bn .quo (.int .i64 (((p+7)/8* 8:Nat):Int)) (.int .i64 8)=some (.int .i64 (((p+7)/8:Nat):Int)):=by
    rw[rG _ _ _ (by omega),show(8:Int)=((8:Nat):Int)from rfl,yo,Nat.mul_div_cancel _ (by omega),u7 (by omega)]
   refine tL (fn:=AP.f7) (h2:=h4) (e:=[(4,.str (bytesOf o)),(5,I ((p+7)/8:Nat)),(6,I 0)]) rfl rfl rfl ?_ rfl rfl
   generalize (p+7)/8* 8=P8 at *
   generalize (p+7)/8=P at *
   simp only[I]at *
   simp only[AP.f7,go_sem,QT c1,QT c2,of1,hn,QY,Rw,fl]
   rw[bx _ rfl]
   simp only[go_sem,←hh2,n1,rQ,q1,q2,gs,c3,a1]
   rw[Im (e':=[(6,.int .i64 0),(5,.int .i64 P),(4,.str (bytesOf o)),(55,.int .i64 P),(54,.int .i64 P8),(53,.aC h.next 0),(52,.aC (h.next+1) 0),(51,.aC (h.next+1) 0),(50,.aC (h.next+1) 0),(49,.str (bytesOf o)),(48,ov),(47,.aC (h.next+1) 1),(46,.aC (h.next+1) 0),(45,.aC (h.next+1) 0),(7,.aC (h.next+1) 0)]) (h':=h4) (gs:=[h4,h4])]
   · simp only[go_sem]
   · simp only[Az,Ei,D9,Ep,Eo,bU.aN,go_sem,gs4,hb,at4,qd]
   · refine A9 (fun k hk=> ?_) (A9 (fun k hk=> ?_) rfl)
     · obtain rfl:k=1:=by simpa using hk
       refine A8 (o:=⟨some 48,.load false 1 (.t 47),none⟩) (g:=h4) (h':=h4) (d:=48) (u:=ov) rfl rfl rfl rfl ?_ ?_
       · simp only[ai,go_sem,gs4]
       · simp only[go_sem]
         rcases a2.own with ⟨rfl,_⟩|⟨id,rfl,_⟩
         · rfl
         · exact BQ _ _ _ _
     · obtain rfl:k=1:=by simpa using hk
       refine A8 (o:=⟨some 49,.kz (.t 48),none⟩) (g:=h4) (h':=h4) (d:=49) (u:=.str (bytesOf o)) rfl rfl rfl rfl ?_ ?_
       · simp only[ai,go_sem,hb]
       · simp only[go_sem,BF]
theorem KN (h:H) (n:Int):aQ AP.A 9 [I n] h=some (I n,h):=by
 refine tL (fn:=AP.f9) (h2:=h.dJ) (e:=[(2,I n)]) rfl rfl rfl ?_ rfl rfl
 simp only[I]at *
 simp only[AP.f9,go_sem]
theorem IA {a b:Nat} (ha:a<256) (hb:b<256):bits .or .u8 (a:Int) (b:Int)=((a|||b:Nat):Int):=by
 have h3:a|||b<2^8:=Nat.or_lt_two_pow (by simpa using ha) (by simpa using hb)
 show IntKind.wrap .u8 (((BitVec.ofInt 8 (a:Int)|||BitVec.ofInt 8 (b:Int)).toNat:Nat):Int)=_
 rw[BitVec.toNat_or,xG 8 a (by omega),xG 8 b (by omega)]
 exact wrap_u8 (by simpa using h3)
def vP (out:List Nat) (i:Nat) (b:Nat):List Nat:=
 let o:=if i%8=0 then out++[0]else out
 o.set (i/8) (o.getD (i/8) 0|||b* 2^(i%8))
def wF:List Nat→Nat→List Nat→List Nat
 |[],_,out=>out
 |b::r,i,out=>wF r (i+1) (vP out i b)
theorem Br {out:List Nat} {i b:Nat} (h:out.length=(i+7)/8):(vP out i b).length=(i+1+7)/8:=by
 unfold vP
 dsimp only
 rw[Rb]
 split
 · rw[u1,h];simp;omega
 · rw[h];omega
theorem Bq {out:List Nat} {i b:Nat} (hb:b≤1) (h:JO out):JO (vP out i b):=by
 have h1:JO (if i%8=0 then out++[0]else out):=by
  split
  · intro x hx
    rcases Ri.1 hx with q|q
    · exact h x q
    · simp at q;omega
  · exact h
 intro x hx
 unfold vP at hx
 dsimp only at hx
 rcases Rl hx with q|q
 · exact h1 x q
 · subst q
   have h2:(if i%8=0 then out++[0]else out).getD (i/8) 0<2^8:=by
    rw[QP]
    cases hg:(if i%8=0 then out++[0]else out)[i/8]? with
    |none=>simp
    |some y=>simpa using h1 y (uL hg)
   have h3:b* 2^(i%8)<2^8:=by
    have:2^(i%8)≤2^7:=Q7 (by omega) (by omega)
    have:b* 2^(i%8)≤1* 2^7:=Nat.mul_le_mul hb this
    omega
   simpa using Nat.or_lt_two_pow h2 h3
theorem ng.set {h:H} {v:AV} {cs:List AV} (o:ng h v cs) {i:Nat} (hi:i<cs.length) (x:AV):∃id,v=.aD id 0 cs.length 1∧h.get id=some cs∧h.floor≤id∧ng (h.set id (cs.set i x)) v (cs.set i x):=by
 rcases o with ⟨rfl,rfl⟩|⟨id,rfl,h1,h2,h3⟩
 · simp at hi
 · exact⟨id,rfl,h1,h2,.inr ⟨id,by simp,by rw[H.dh,if_pos rfl,h1];rfl,by simpa using h2,by intro e;apply h3;have:=Rt List.length e;simpa using this⟩⟩
structure Qc (a t:ByteArray):Prop where
 sz:a.size≤t.size
 bit:∀i,i<8* a.size→wK a i=wK t i
section
variable {a t:ByteArray} (h:Qc a t)
include h
end
variable {t:ByteArray} {most most':Int}
theorem vZ (l:List Nat):(bytesOf l).size=l.length:=by
 show(l.map UInt8.ofNat).toArray.size=_
 simp
structure FC where
 f:Nat
 text:ByteArray
 most:Int
structure Ft (c:FC) (S:SS) (h:H) (ov:AV):Prop where
 gf:h.get c.f=some [.str c.text,I S.at_,ov,I c.most,I S.e]
 own:ng h ov (xi S.out)
 ff:h.floor≤c.f
 of:ov.id?≠some c.f
 nx:h.floor≤h.next
 sz:c.text.size<1125899906842624
 ye:S.at_≤8* c.text.size
 ol:(S.out.length:Int)≤c.most
 ml:c.most≤900000
structure FF (c:FC) (h:H) (ov:AV) (h':H) (ov':AV):Prop where
 fl:h'.floor=h.floor
 nx:h.next≤h'.next
 F5:∀id,id<h.next→id≠c.f→ov.id?≠some id→h'.get id=h.get id
 nb:∀i,ov'.id?=some i→ov.id?=some i∨h.next≤i
theorem FF.refl (c:FC) (h:H) (ov:AV):FF c h ov h ov:=⟨rfl,uH _,fun _ _ _ _=>rfl,fun _ q=>.inl q⟩
theorem FF.trans {c:FC} {h1 h2 h3:H} {o1 o2 o3:AV} (a:FF c h1 o1 h2 o2) (b:FF c h2 o2 h3 o3):FF c h1 o1 h3 o3:=by
 refine⟨b.fl.trans a.fl,uZ a.nx b.nx,fun id h4 h5 h7=> ?_,fun i hi=> ?_⟩
 · rw[b.F5 id (Nat.lt_of_lt_of_le h4 a.nx) h5 (fun q=> ?_),a.F5 id h4 h5 h7]
   rcases a.nb id q with q|q
   · exact h7 q
   · omega
 · rcases b.nb i hi with q|q
   · exact a.nb i q
   · exact .inr (uZ a.nx q)
theorem Ft.vN {c:FC} {S:SS} {h h':H} {ov:AV} (st:Ft c S h ov) (hf:h'.floor=h.floor) (hn:h.next≤h'.next) (hg:∀i,i=c.f∨ov.id?=some i→h'.get i=h.get i):Ft c S h' ov:=
 ⟨by rw[hg _ (.inl rfl)];exact st.gf,st.own.mono hf fun i hi=>hg i (.inr hi),by rw[hf];exact st.ff,st.of,by rw[hf];exact uZ st.nx hn,st.sz,st.ye,st.ol,st.ml⟩
theorem Ft.lt {c:FC} {S:SS} {h:H} {ov:AV} (st:Ft c S h ov) {i:Nat} (hi:i=c.f∨ov.id?=some i):i<h.next:=by
 rcases hi with rfl|hi
 · exact h.lt _ _ st.gf
 · exact st.own.lt hi
theorem Ft.alloc {c:FC} {S:SS} {h:H} {ov:AV} (st:Ft c S h ov) (cs:List AV):Ft c S (h.alloc cs) ov∧FF c h ov (h.alloc cs) ov:=by
 refine⟨st.vN (by simp) (by simp) fun i hi=> ?_,⟨by simp,by simp,fun id h1 _ _=> ?_,fun _ q=>.inl q⟩⟩
 · have:=st.lt hi;rw[H.aV,if_neg (by omega)]
 · rw[H.aV,if_neg (by omega)]
structure QL (h0 h:H) (b:Nat) (D:Nat→AV) (k:Nat) (p S0:List Int):Prop where
 get:h.get b=some (nh 17 D)
 fl:h.floor=h0.next
 fb:h0.next≤b
 nx:h.floor≤h.next
 low:∀id,id<h0.next→h.get id=h0.get id
 ck:D k=I (wz p k)
 own:ng h (D 16) (ints (S0++syms p k))
 nb:(D 16).id?≠some b
theorem J5 (n:Nat):wz [] n=0:=by unfold wz;split<;>rfl
theorem zu {h:H} {v:AV} {l:List Int} {fl:Nat} (o:ng h v (ints l)) (hf:fl≤h.floor) (hl:l≠[]):snap h.get fl 16 true v=some (vR l):=by
 rcases o with ⟨_,q⟩|⟨id,rfl,q,h2,_⟩
 · exact absurd (List.map_eq_nil_iff.1 q) hl
 · unfold snap
   rw[if_neg (by omega),q,uE,if_pos (by omega)]
   rw[Ra,Nat.mul_one,List.take_length,wZ]
   simp [vR]
theorem Cr (p:List Int) (x:Int):∀n:Nat,vr (p++[x]) n=vr p n-(if 1≤x∧x≤n then 2^(n-x.toNat)else 0)
 | 0 => by
   rw[if_neg (by omega)];simp [vr]
 | n + 1 => by
   have e1:vr (p++[x]) (n+1)=vr (p++[x]) n* 2-wz (p++[x]) (n+1):=rfl
   have e2:vr p (n+1)=vr p n* 2-wz p (n+1):=rfl
   rw[e1,e2,Cr p x n,yO]
   by_cases h1:x=((n+1:Nat):Int)
   · rw[if_neg (by omega),if_pos ⟨by omega,h1⟩,if_pos (by omega)]
     rw[show n+1-x.toNat=0 by omega];simp;omega
   · rw[if_neg (show¬(n+1≠0∧x=((n+1:Nat):Int))from fun q=>h1 q.2)]
     by_cases h2:1≤x∧x≤(n:Int)
     · rw[if_pos h2,if_pos (by omega),show n+1-x.toNat=(n-x.toNat)+1 by omega,Int.pow_succ];omega
     · rw[if_neg h2,if_neg (by omega)];omega
def AH (l:List Nat) (i j:Nat):List Nat:=(l.set i (l.getD j 0)).set j (l.getD i 0)
theorem xy (l:List Nat) (i j:Nat):(AH l i j).length=l.length:=by simp [AH]
theorem Ez {l:List Nat} {i j k:Nat} (hi:i<l.length) (hj:j<l.length):(AH l i j).getD k 0=if k=j then l.getD i 0 else if k=i then l.getD j 0 else l.getD k 0:=by
 unfold AH
 simp only[QP,Q4,Rb]
 by_cases a:j=k
 · subst a;simp [hj]
 · by_cases b:i=k
   · subst b;simp [hi,a,Ne.symm a]
   · simp [a,b,Ne.symm a,Ne.symm b]
theorem ym {l:List Nat} {i j:Nat} (hi:i<l.length) (hj:j<l.length):(AH l i j).Perm l:=by
 rw[List.perm_iff_count]
 intro a
 unfold AH
 have e1:l.getD i 0=l[i]:=by rw[QP,QR hi];rfl
 have e2:l.getD j 0=l[j]:=by rw[QP,QR hj];rfl
 rw[e1,e2,List.count_set (by simpa using hj),List.count_set hi]
 have e3:(l.set i l[j])[j]'(by simpa using hj)=l[j]:=by
  rw[List.getElem_set];split
  · rfl
  · rfl
 rw[e3]
 have c1:l[i]==a→1≤l.count a:=fun h=>List.count_pos_iff.2 (by rw[←eq_of_beq h];exact Q6 hi)
 by_cases p:(l[i]==a)=true
 · have:=c1 p
   by_cases q:(l[j]==a)=true
   · simp only[p,q,if_true];omega
   · simp only[p,q,if_true];simp;omega
 · by_cases q:(l[j]==a)=true
   · simp only[p,q,if_true];simp
   · simp only[p,q];simp
section
variable (ky:Nat→Int)
def Qb (lo n ex:Nat) (l:List Nat):Prop:=(∀c,0<c→c<n→lo≤(c-1)/2→(c-1)/2≠ex→ky (l.getD ((c-1)/2) 0)≤ky (l.getD c 0))∧
 (∀c,0<c→c<n→(c-1)/2=ex→0<ex→lo≤(ex-1)/2→ky (l.getD ((ex-1)/2) 0)≤ky (l.getD c 0))
def F7 (lo n:Nat) (l:List Nat):Prop:=∀c,0<c→c<n→lo≤(c-1)/2→ky (l.getD ((c-1)/2) 0)≤ky (l.getD c 0)
def C4 (n i:Nat) (l:List Nat):Nat:=if 2* i+2<n∧ky (l.getD (2* i+2) 0)<ky (l.getD (2* i+1) 0)then 2* i+2 else 2* i+1
def sink (n:Nat):Nat→Nat→List Nat→List Nat
 |0,_,l=>l
 |f+1,i,l=>if n≤2* i+1 then l else if ky (l.getD (C4 ky n i l) 0)<ky (l.getD i 0)then sink n f (C4 ky n i l) (AH l i (C4 ky n i l))else l
def CI:Nat→Nat→List Nat→List Nat
 |0,_,l=>l
 |f+1,j,l=>if j=0 then l else if ky (l.getD j 0)<ky (l.getD ((j-1)/2) 0)then CI f ((j-1)/2) (AH l ((j-1)/2) j)else l
variable {ky}
theorem BI {n i:Nat} {l:List Nat} (h:2* i+1<n):(C4 ky n i l=2* i+1∨C4 ky n i l=2* i+2)∧C4 ky n i l<n:=by
 unfold C4;split
 · rename_i c;exact⟨.inr rfl,c.1⟩
 · exact⟨.inl rfl,h⟩
theorem HV {n i:Nat} {l:List Nat} (h:2* i+1<n) {c:Nat} (h0:0<c) (hc:c<n) (hp:(c-1)/2=i):ky (l.getD (C4 ky n i l) 0)≤ky (l.getD c 0):=by
 have:c=2* i+1∨c=2* i+2:=by omega
 unfold C4;split
 · rename_i q
   rcases this with rfl|rfl
   · exact Int.le_of_lt q.2
   · exact Rr _
 · rename_i q
   rcases this with rfl|rfl
   · exact Rr _
   · by_cases z:ky (l.getD (2* i+2) 0)<ky (l.getD (2* i+1) 0)
     · exact absurd ⟨hc,z⟩ q
     · omega
theorem Ew {lo n : Nat} : ∀ (f i : Nat) (l : List Nat), n ≤ i + f → lo ≤ i → n ≤ l.length → Qb ky lo n i l → F7 ky lo n (sink ky n f i l) ∧ (sink ky n f i l).Perm l ∧ (∀ k, n ≤ k → (sink ky n f i l).getD k 0 = l.getD k 0)
 | 0, i, l, hf, hlo, hl, hx => by
   refine⟨fun c h0 hc hp=>hx.1 c h0 hc hp (by omega),Rq _,fun _ _=>rfl⟩
 | f + 1, i, l, hf, hlo, hl, hx => by
   rw[sink]
   by_cases c0:n≤2* i+1
   · rw[if_pos c0]
     exact⟨fun c h0 hc hp=>hx.1 c h0 hc hp (by omega),Rq _,fun _ _=>rfl⟩
   · rw [if_neg c0]
     obtain⟨kr,kn⟩:=BI (ky:=ky) (n:=n) (i:=i) (l:=l) (by omega)
     have kl:∀c,0<c→c<n→(c-1)/2=i→ky (l.getD (C4 ky n i l) 0)≤ky (l.getD c 0):=fun c h0 hc hp=>HV (by omega) h0 hc hp
     generalize C4 ky n i l=j at kr kn kl ⊢
     by_cases c1:ky (l.getD j 0)<ky (l.getD i 0)
     · rw [if_pos c1]
       have g:∀k,(AH l i j).getD k 0=if k=j then l.getD i 0 else if k=i then l.getD j 0 else l.getD k 0:=fun k=>Ez (by omega) (by omega)
       have ji:i<j:=by omega
       have jp:(j-1)/2=i:=by omega
       obtain ⟨a1, a2, a3⟩ := Ew (lo := lo) (n := n) f j (AH l i j) (by omega) (by omega) (by rw [xy]; exact hl) ⟨by
        intro c h0 hc hp hne
        rw[g,g]
        by_cases e1:c=j
        · subst e1
          rw[if_neg (by omega),if_pos jp,if_pos rfl];omega
        · rw [if_neg hne, if_neg e1]
          by_cases e2:(c-1)/2=i
          · rw[if_pos e2,if_neg (by omega)];exact kl c h0 hc e2
          · rw[if_neg e2]
            by_cases e3:c=i
            · subst e3
              rw[if_pos rfl]
              exact hx.2 j (by omega) kn jp h0 hp
            · rw[if_neg e3];exact hx.1 c h0 hc hp e2,by
        intro c h0 hc hp hj0 hlp
        rw[g,g,if_neg (by omega),if_pos jp,if_neg (by omega),if_neg (by omega)]
        have:=hx.1 c h0 hc (by omega) (by omega)
        rwa [hp]at this⟩
       refine⟨a1,a2.trans (ym (by omega) (by omega)),fun k hk=> ?_⟩
       rw[a3 k hk,g,if_neg (by omega),if_neg (by omega)]
     · rw[if_neg c1]
       refine⟨fun c h0 hc hp=> ?_,Rq _,fun _ _=>rfl⟩
       by_cases e:(c-1)/2=i
       · have:=kl c h0 hc e
         rw[e];omega
       · exact hx.1 c h0 hc hp e
theorem AG {n:Nat}:∀(f i:Nat) (l:List Nat),(sink ky n f i l).length=l.length
 |0,_,_=>rfl
 | f + 1, i, l => by
   rw[sink]
   split
   · rfl
   · split
     · rw[AG f,xy]
     · rfl
theorem DM {n:Nat}:∀{f i:Nat} {l:List Nat},n≤l.length→(sink ky n f i l).Perm l
 |0,_,_,_=>Rq _
 | f + 1, i, l, hl => by
   rw[sink]
   split
   · exact Rq _
   · rename_i c
     obtain⟨kr,kn⟩:=BI (ky:=ky) (n:=n) (i:=i) (l:=l) (by omega)
     split
     · exact(DM (by rw[xy];exact hl)).trans (ym (by omega) (by omega))
     · exact Rq _
def Qa (n j:Nat) (l:List Nat):Prop:=(∀c,0<c→c<n→c≠j→ky (l.getD ((c-1)/2) 0)≤ky (l.getD c 0))∧
 (∀c,0<c→c<n→(c-1)/2=j→0<j→ky (l.getD ((j-1)/2) 0)≤ky (l.getD c 0))
theorem Ho {n : Nat} : ∀ (f j : Nat) (l : List Nat), j ≤ f → j < n → n ≤ l.length → Qa (ky := ky) n j l → F7 ky 0 n (CI ky f j l) ∧ (CI ky f j l).Perm l
 |0,j,l,hf,hj,hl,hx=>⟨fun c h0 hc _=>hx.1 c h0 hc (by omega),Rq _⟩
 | f + 1, j, l, hf, hj, hl, hx => by
   rw[CI]
   by_cases c0:j=0
   · rw[if_pos c0];exact⟨fun c h0 hc _=>hx.1 c h0 hc (by omega),Rq _⟩
   · rw [if_neg c0]
     by_cases c1:ky (l.getD j 0)<ky (l.getD ((j-1)/2) 0)
     · rw [if_pos c1]
       obtain⟨p,hp⟩:∃p,p=(j-1)/2:=⟨_,rfl⟩
       rw[←hp]at c1 ⊢
       have g:∀k,(AH l p j).getD k 0=if k=j then l.getD p 0 else if k=p then l.getD j 0 else l.getD k 0:=fun k=>Ez (by omega) (by omega)
       obtain⟨a1,a2⟩:=Ho (n:=n) f p (AH l p j) (by omega) (by omega) (by rw[xy];exact hl) ⟨by
        intro c h0 hc hne
        rw[g,g]
        by_cases e1:c=j
        · subst e1
          rw[if_pos rfl,←hp,if_neg (by omega),if_pos rfl];omega
        · rw[if_neg e1,if_neg hne]
          have h1:=hx.1 c h0 hc e1
          by_cases e2:(c-1)/2=j
          · rw[if_pos e2]
            have:=hx.2 c h0 hc e2 (by omega)
            rwa [←hp]at this
          · rw[if_neg e2]
            by_cases e3:(c-1)/2=p
            · rw[if_pos e3];rw[e3]at h1;omega
            · rw[if_neg e3];exact h1,by
        intro c h0 hc hcp hp0
        rw[g,g,if_neg (by omega),if_neg (by omega)]
        have h1:=hx.1 p (by omega) (by omega) (by omega)
        by_cases e1:c=j
        · rw[if_pos e1];exact h1
        · rw[if_neg e1,if_neg (by omega)]
          have:=hx.1 c h0 hc e1
          rw[hcp]at this;omega⟩
       exact⟨a1,a2.trans (ym (by omega) (by omega))⟩
     · rw[if_neg c1]
       refine⟨fun c h0 hc _=> ?_,Rq _⟩
       by_cases e:c=j
       · subst e;omega
       · exact hx.1 c h0 hc e
theorem FL:∀(f j:Nat) (l:List Nat),(CI ky f j l).length=l.length
 |0,_,_=>rfl
 | f + 1, j, l => by
   rw[CI]
   split
   · rfl
   · split
     · rw[FL f,xy]
     · rfl
theorem IZ {n:Nat} {l:List Nat} (h:F7 ky 0 n l):∀k,k<n→ky (l.getD 0 0)≤ky (l.getD k 0):=by
 intro k
 induction k using Nat.strongRecOn with
 | ind k ih =>
   intro hk
   by_cases c:k=0
   · subst c;exact Rr _
   · have h1:=ih ((k-1)/2) (by omega) (by omega)
     have h2:=h k (by omega) hk (by omega)
     omega
def yT (n:Nat):Nat→List Nat→List Nat
 |0,l=>l
 |i+1,l=>yT n i (sink ky n n i l)
theorem Fh {n:Nat}:∀(i:Nat) (l:List Nat),n≤l.length→F7 ky i n l→F7 ky 0 n (yT (ky:=ky) n i l)∧(yT (ky:=ky) n i l).Perm l
 |0,l,hl,h=>⟨h,Rq _⟩
 | i + 1, l, hl, h => by
   obtain⟨a1,a2,a3⟩:=Ew (ky:=ky) (lo:=i) (n:=n) n i l (by omega) (uH _) hl ⟨fun c h0 hc hp hne=>h c h0 hc (by omega),fun c h0 hc hp h1 h2=>by omega⟩
   obtain⟨b1,b2⟩:=Fh i (sink ky n n i l) (by rw[AG];exact hl) a1
   exact⟨b1,b2.trans a2⟩
end
theorem dt {p:Prop} [Decidable p] (h:p):decide p=true:=QV h
theorem df {p:Prop} [Decidable p] (h:¬p):decide p=false:=QT h
theorem PK {a b:Int} (h:a=b):(a==b)=true:=by simp [h]
theorem PJ {a b:Int} (h:¬a=b):(a==b)=false:=by simp [h]
theorem PO {a b:Int} (h:¬a=b):(a !=b)=true:=by simp [h]
theorem PN {a b:Int} (h:a=b):(a !=b)=false:=by simp [h]
theorem wi {n:Int} (h: -9223372036854775808≤n∧n<9223372036854775808):IntKind.wrap .i64 n=n:=tw h.1 (by omega)
theorem wb {n:Int} (h:0≤n∧n<256):IntKind.wrap .u8 n=n:=by
 simp [IntKind.wrap,IntKind.bits,IntKind.signed];omega
theorem NO {i:Int} {n:Nat} (h:0≤i∧i<n):cJ (.int .i64 i) n=some i.toNat:=by
 simp [cJ,nu,h]
def at_:Nat→aF→aF
 |0,.seq a _=>a
 |0,c=>c
 |n+1,.seq _ b=>at_ n b
 |_+1,c=>c
def JT:Nat→aF→aF
 |0,c=>c
 |n+1,.seq _ b=>JT n b
 |_+1,c=>c
theorem zC (a b:aF):at_ 0 (.seq a b)=a:=rfl
theorem zG (n:Nat) (a b:aF):at_ (n+1) (.seq a b)=at_ n b:=rfl
theorem Kv (c:aF):JT 0 c=c:=rfl
theorem Ku (n:Nat) (a b:aF):JT (n+1) (.seq a b)=JT n b:=rfl
theorem Aj {h:H} {id i:Nat} (e:¬i=id):(h.del id).get i=h.get i:=by rw[H.dM,if_neg e]
theorem Ay (h:H):h.dJ.next=h.next:=uz rfl rfl
theorem Al (h:H):h.dJ.floor=h.next:=uz rfl rfl
theorem Ao (h:H) (i:Nat):h.dJ.get i=h.get i:=uz rfl rfl
theorem Ef (h:H) (i:Nat):(h.del i).next=h.next:=uz rfl rfl
theorem D7 (h:H) (i:Nat):(h.del i).floor=h.floor:=uz rfl rfl
theorem vm {h:H} {cs:List AV} {i:Nat} (e:i=h.next):(h.alloc cs).get i=some cs:=by rw[H.aV,if_pos e]
theorem ve {h:H} {cs:List AV} {i:Nat} (e:¬i=h.next):(h.alloc cs).get i=h.get i:=by rw[H.aV,if_neg e]
theorem vu {h:H} {cs:List AV} {id i:Nat} (e:i=id):(h.set id cs).get i=(h.get i).map fun _=>cs:=by rw[H.dh,if_pos e,e]
theorem u5 {h:H} {cs:List AV} {id i:Nat} (e:¬i=id):(h.set id cs).get i=h.get i:=by rw[H.dh,if_neg e]
def wM {α:Type} (b:Bool) (x:α):Option α:=if b then some x else none
theorem GS {α:Type} (x:α):wM true x=some x:=rfl
theorem Jz (h:H) (id off n:Nat) (v cs:List AV):tN h id off n v (some cs)=wM (decide (h.floor≤id)&&(decide (v.length=n)&&(decide (off+n≤cs.length)&&AV.aB v))) (h.set id (setFrom cs off v)):=by
 simp only[tN,uE,wM]
 by_cases c:h.floor≤id∧v.length=n∧off+n≤cs.length∧AV.aB v=true
 · rw[if_pos c];obtain⟨c1,c2,c3,c4⟩:=c;simp [c1,c2,c3,c4]
 · rw[if_neg c,if_neg];simpa using c
theorem JS (n:Nat) (cs:List AV) (off:Nat):gM true n cs off=wM (decide (off+n≤cs.length)) (.agg ((cs.drop off).take n)):=by
 simp only[gM,wM,if_true,decide_eq_true_eq]
theorem IK (z:List AV):dK z []=some z:=rfl
def E5 (r:List (Nat×Nat×AV)) (p:Option (List AV)):Option (List AV):=p.bind fun z=>dK z r
theorem GY (r:List (Nat×Nat×AV)) (z:List AV):E5 r (some z)=dK z r:=rfl
theorem IJ (z:List AV) (o n:Nat) (v:AV) (r:List (Nat×Nat×AV)):dK z ((o,n,v)::r)=E5 r (wM (decide (v.cells.length=n)&&(decide (o+n≤z.length)&&AV.aB v.cells)) (setFrom z o v.cells)):=by
 simp only[dK,wM]
 by_cases c:v.cells.length=n∧o+n≤z.length∧AV.aB v.cells=true
 · rw[if_pos c];obtain⟨c1,c2,c3⟩:=c;simp [c1,c2,c3,E5]
 · rw[if_neg c,if_neg]; · rfl
   simpa using c
def EJ (p:Option (List AV)) (f:Nat→AV):Option (List AV×(Nat→AV)):=p.bind fun cs=>some (cs,f)
theorem Ix (cs:List AV) (f:Nat→AV):EJ (some cs) f=some (cs,f):=rfl
theorem Db (e:Env) (z:List AV):aX e (.alloc z)=EJ (wM (AV.aB z) z) (fun i=>.aC i 0):=by
 simp only[aX,wM];split<;>rfl
theorem GP (e:Env) (n:Nat) (x:X):aX e (.box n x)=EJ (wM (decide ((x.ev e).cells.length=n)&&AV.aB (x.ev e).cells) (x.ev e).cells) (fun i=>.aC i 0):=by
 simp only[aX,wM]
 by_cases c:(x.ev e).cells.length=n∧AV.aB (x.ev e).cells=true
 · rw[if_pos c];simp [c,EJ]
 · rw[if_neg c,if_neg]; · rfl
   simpa using c
theorem BS (e:Env) (sz len:Nat) (z:List AV) (ps:List (Nat×X)):aX e (.cA sz len z ps)=EJ (E5 (ps.map fun p=>(p.1* sz,sz,p.2.ev e)) (wM (decide (z.length=sz)&&(decide (0<sz)&&AV.aB z)) (dC len z))) (fun i=>.aD i 0 len sz):=by
 simp only[aX,wM]
 by_cases c:z.length=sz∧0<sz∧AV.aB z=true
 · rw[if_pos c];simp [c,EJ,E5]
 · rw[if_neg c,if_neg]; · rfl
   simpa using c
theorem Jo (z:List AV):dC 0 z=[]:=rfl
theorem Jn (n:Nat) (z:List AV):dC (n+1) z=z++dC n z:=rfl
def Nh (vN:List Nat) (e:Env) (h:H) (b:Bool):du:=if b then some (.normal,ax e vN,h)else none
theorem IX (vN:List Nat) (e:Env) (h:H):Nh vN e h true=some (.normal,ax e vN,h):=rfl
def PL (c:ae) (ops:List aj) (fl:List (Nat×List Nat)) (vN:List Nat) (p:Option (Env×H×List H)):du:=p.bind fun q=>Nh vN q.1 q.2.1 (aY c ops q.1 q.2.2 fl)
theorem KJ (c:ae) (ops:List aj) (fl:List (Nat×List Nat)) (vN:List Nat) (e:Env) (h:H) (gs:List H):PL c ops fl vN (some (e,h,gs))=Nh vN e h (aY c ops e gs fl):=rfl
theorem GN (c:ae) (l:bH) (ord:List Nat) (ops:List aj) (x:Nat×List Nat) (fl:List (Nat×List Nat)) (vN:List Nat) (e:Env) (h:H):aK c l (.iC ord ops (x::fl) vN) e h=PL c ops (x::fl) vN (aM c ops e h):=by
 rw[aK];rfl
theorem K4 (c:ae) (ops:List aj) (e:Env) (gs:List H):aY c ops e gs []=true:=rfl
def Pk (c:ae) (ops:List aj) (e:Env) (gs:List H) (i:Nat) (ks:List Nat):Bool:=ks.all (bF c ops e gs i)
theorem K3 (c:ae) (ops:List aj) (e:Env) (gs:List H) (i:Nat) (ks:List Nat) (r:List (Nat×List Nat)):aY c ops e gs ((i,ks)::r)=(Pk c ops e gs i ks&&aY c ops e gs r):=rfl
theorem K0 (c:ae) (ops:List aj) (e:Env) (gs:List H) (i:Nat):Pk c ops e gs i []=true:=rfl
def NA (c : ae) (e : Env) (o : Option aj) (g : Option H) : Bool := match o, g with
 | some o, some g =>
   if o.op.aH then
    match o.dst.map (look e)with
    |some (.bM [])=>true
    | some v => (match v.id?, aX e o.op with
      |some id,some b=>(match g.get id with|some cs=>AV.fJ cs b.1|none=>false)
      |_,_=>false)
    |none=>false
   else match o.dst.map (look e)with
    |some v=>(match ai c o e g with|some (u,_)=>AV.beq u v|none=>false)
    |none=>false
 |_,_=>false
theorem KZ (c:ae) (ops:List aj) (e:Env) (gs:List H) (i k:Nat) (r:List Nat):Pk c ops e gs i (k::r)=(NA c e (ops[i]?) (gs[k]?)&&Pk c ops e gs i r):=by
 unfold Pk
 rw[List.all_cons]
 congr 1
def PF (v:AV) (p:Option (AV×H)):Bool:=match p with|some (u,_)=>AV.beq u v|none=>false
theorem K2 (v u:AV) (h:H):PF v (some (u,h))=AV.beq u v:=rfl
def NK (b:Bool) (x y:Bool):Bool:=if b then x else y
theorem KX (x y:Bool):NK false x y=y:=rfl
def C7 (c:ae) (e:Env) (o:Option aj) (g:Option H):Bool:=NA c e o g
theorem KW (c:ae) (e:Env) (d:Nat) (op:bU) (g:H):NA c e (some ⟨some d,op,none⟩) (some g)=NK op.aH (C7 c e (some ⟨some d,op,none⟩) (some g)) (PF (look e d) (ah c e g op)):=by
 unfold C7 NA NK
 dsimp only
 cases op.aH<;>rfl
theorem KV (c:ae) (e:Env) (d:Nat) (op:bU) (k:Nat) (w:Bool) (g:H):NA c e (some ⟨some d,op,some (k,w)⟩) (some g)=NK op.aH (C7 c e (some ⟨some d,op,some (k,w)⟩) (some g)) (PF (look e d) (kL w c e g op (look e k))):=by
 unfold C7 NA NK
 dsimp only
 cases op.aH with
 |true=>rfl
 |false=>rw[mE];rfl
mutual
theorem beq_refl:∀a:AV,AV.beq a a=true
 | .bot=>rfl
 | .bool b=>by simp [AV.beq]
 | .int k n=>by simp [AV.beq]
 | .str s=>BF s
 | .ch=>rfl
 | .aC i o=>by simp [AV.beq]
 | .aJ c o=>by simp [AV.beq,wI c]
 | .aO=>rfl
 | .aD i o l z=>by simp [AV.beq]
 | .aU t c o l z=>by simp [AV.beq,wI c]
 | .fn f a b=>by simp [AV.beq,wI a,wI b]
 | .eJ=>rfl
 | .iface t v=>by simp [AV.beq,beq_refl v]
 | .eK=>rfl
 | .agg c=>by simp [AV.beq,wI c]
 | .bM c=>by simp [AV.beq,wI c]
theorem wI:∀l:List AV,AV.fJ l l=true
 |[]=>rfl
 |a::l=>by simp [AV.fJ,beq_refl a,wI l]
end
theorem KY (x y:Bool):NK true x y=x:=rfl
def NR (c:Option (List AV)) (d:List AV):Bool:=match c with|some cs=>AV.fJ cs d|none=>false
theorem KH (c d:List AV):NR (some c) d=AV.fJ c d:=rfl
def Ey (v : AV) (b : Option (List AV × (Nat → AV))) (g : H) : Bool := match v with
 | .bM []=>true
 | v => match v.id?, b with
   |some id,some b=>NR (g.get id) b.1
   |_,_=>false
theorem Jy (b:Option (List AV×(Nat→AV))) (g:H):Ey (.bM []) b g=true:=rfl
theorem Jx (i o:Nat) (cs:List AV) (f:Nat→AV) (g:H):Ey (.aC i o) (some (cs,f)) g=NR (g.get i) cs:=rfl
theorem Jw (i o l z:Nat) (cs:List AV) (f:Nat→AV) (g:H):Ey (.aD i o l z) (some (cs,f)) g=NR (g.get i) cs:=rfl
theorem BK {c : ae} {e : Env} {d : Nat} {op : bU} {gd : Option (Nat × Bool)} {g : H} (hb : op.aH = true) : C7 c e (some ⟨some d, op, gd⟩) (some g) = Ey (look e d) (aX e op) g := by
 unfold C7 NA
 dsimp only
 rw[hb,if_pos rfl]
 show (match some (look e d) with
  |some (.bM [])=>true
  | some v => (match v.id?, aX e op with
    |some id,some b=>(match g.get id with|some cs=>AV.fJ cs b.1|none=>false)
    |_,_=>false)
  |none=>false)=_
 generalize look e d=v
 unfold Ey NR
 cases v with
 |bM vs=>cases vs<;>rfl
 |_=>cases aX e op<;>rfl
theorem CM (c:ae) (e:Env) (d:Nat) (z:List AV) (gd:Option (Nat×Bool)) (g:H):C7 c e (some ⟨some d,.alloc z,gd⟩) (some g)=Ey (look e d) (aX e (.alloc z)) g:=BK rfl
theorem FP (c:ae) (e:Env) (d n:Nat) (x:X) (gd:Option (Nat×Bool)) (g:H):C7 c e (some ⟨some d,.box n x,gd⟩) (some g)=Ey (look e d) (aX e (.box n x)) g:=BK rfl
theorem Bx (c:ae) (e:Env) (d n m:Nat) (z:List AV) (ps:List (Nat×X)) (gd:Option (Nat×Bool)) (g:H):C7 c e (some ⟨some d,.cA n m z ps,gd⟩) (some g)=Ey (look e d) (aX e (.cA n m z ps)) g:=BK rfl
theorem DN (c:ae) (e:Env) (d n m:Nat) (z:List AV) (x y:X) (gd:Option (Nat×Bool)) (g:H):C7 c e (some ⟨some d,.iF n m z x y,gd⟩) (some g)=Ey (look e d) (aX e (.iF n m z x y)) g:=BK rfl
theorem EF (b:Bool):AV.beq (.bool b) (.bool b)=true:=by simp [AV.beq]
theorem EI:AV.beq (.bM []) (.bM [])=true:=rfl
theorem EG:AV.beq .aO .aO=true:=rfl
theorem Da:AV.beq .ch .ch=true:=rfl
theorem I4 (sz id off len:Nat) (i:AV):fG sz (.aD id off len sz) i=tX id off sz (cJ i len):=by simp [fG,tX]
theorem I3 (t:Bool) (cells:List AV) (sz off len:Nat) (i:AV):fG sz (.aU t cells off len sz) i=tY cells off sz (cJ i len):=by simp [fG,tY]
def xg (n:Nat) (z:List AV):List AV:=dC n z
def KM (sz bytes:Nat) (zero:List AV) (l c:AV):Option (List AV×(Nat→AV)):=
 match l,c with
 | .int .i64 l,.int .i64 c=>EJ (wM (decide (0≤l)&&(decide (l≤c)&&(decide (c≤9223372036854775807)&&(decide ((bytes:Int)* c≤281474976710656)&&(decide (zero.length=sz)&&(decide (0<sz)&&AV.aB zero)))))) (xg c.toNat zero)) (fun i=>.aD i 0 l.toNat sz)
 |_,_=>none
theorem Ee (sz bytes:Nat) (zero:List AV) (l c:Int):KM sz bytes zero (.int .i64 l) (.int .i64 c)=EJ (wM (decide (0≤l)&&(decide (l≤c)&&(decide (c≤9223372036854775807)&&(decide ((bytes:Int)* c≤281474976710656)&&(decide (zero.length=sz)&&(decide (0<sz)&&AV.aB zero)))))) (xg c.toNat zero)) (fun i=>.aD i 0 l.toNat sz):=rfl
theorem EK (e : Env) (sz bytes : Nat) (zero : List AV) (l c : X) : aX e (.iF sz bytes zero l c) = KM sz bytes zero (l.ev e) (c.ev e) := by
 simp only[aX]
 cases l.ev e with
 | int k l => cases k <;> cases c.ev e with
   | int k2 c => cases k2 <;> first
     |rfl
     | (simp only [Ee, wM]
        by_cases q:0≤l∧l≤c∧c≤9223372036854775807∧(bytes:Int)* c≤281474976710656∧zero.length=sz∧0<sz∧AV.aB zero=true
        · rw[if_pos q];obtain⟨q1,q2,q3,q4,q5,q6,q7⟩:=q
          rw[if_pos]
          · rfl
          · simp [q1,q2,q3,q4,q5,q6,q7]
        · rw[if_neg q,if_neg]
          · rfl
          · simpa using q)
   |_=>rfl
 |_=>cases c.ev e<;>rfl
theorem yL (i o l z:Nat):iO false (.aD i o l z)=some (.int .i64 l):=rfl
theorem DW:iO false .aO=some (.int .i64 0):=rfl
theorem F9 (t:Bool) (c:List AV) (o l z:Nat):iO false (.aU t c o l z)=some (.int .i64 l):=rfl
theorem wD (s:ByteArray):iO true (.str s)=some (.int .i64 s.size):=rfl
theorem JI (a b:Nat):((a:Int)+(b:Int)).toNat=a+b:=by omega
theorem GF (a:Nat):((a:Int)).toNat=a:=by omega
def xj (s:ByteArray) (i:Nat):Nat:=((s[i]?).map (·.toNat)).getD 0
theorem BT (s:ByteArray) (i:Nat):xj s i<256:=by
 unfold xj
 cases s[i]? with
 |none=>simp
 |some b=>simp;exact b.toNat_lt
theorem zk {s:ByteArray} {i:Int} (h:0≤i∧i<s.size):lN (.str s) (.int .i64 i)=some (.int .u8 (xj s i.toNat:Nat)):=by
 have hi:i.toNat<s.size:=by omega
 simp [lN,NO h,xj,hi]
def A7 {α:Type} (b:Bool) (x y:Option α):Option α:=if b then x else y
theorem Jr {α:Type} (x y:Option α):A7 true x y=x:=rfl
theorem Jq {α:Type} (x y:Option α):A7 false x y=y:=rfl
def Nz (n o k:Nat) (p:Option (List AV)):Option (Nat×List AV):=p.bind fun cs=>wM (decide (o+k* n≤cs.length)) (k,(cs.drop o).take (k* n))
theorem Jv (n o k:Nat) (cs:List AV):Nz n o k (some cs)=wM (decide (o+k* n≤cs.length)) (k,(cs.drop o).take (k* n)):=rfl
theorem KT (h:H) (n p o k:Nat):aR h n (.aD p o k n)=Nz n o k (h.get p):=by
 simp only[aR,if_true,Nz]
 cases h.get p with
 |none=>rfl
 |some cs=>simp only[uE,wM,decide_eq_true_eq]
theorem KR (h:H) (t:Bool) (n o k:Nat) (cs:List AV):aR h n (.aU t cs o k n)=wM (decide (o+k* n≤cs.length)) (k,(cs.drop o).take (k* n)):=by
 simp only[aR,if_true,wM,decide_eq_true_eq]
theorem KS (h:H) (n:Nat):aR h n .aO=some (0,[]):=uz rfl rfl
theorem KU (h:H) (s:ByteArray):aR h 1 (.str s)=some (s.size,s.data.toList.map fun b=>.int .u8 b.toNat):=uz rfl rfl
def NP (h:H) (n z:Nat) (a:AV) (p:Option (Nat×List AV)):Option (AV×H):=p.bind fun r=>dF h n z a r.1 r.2
theorem It (h:H) (n z:Nat) (a:AV) (m:Nat) (bs:List AV):NP h n z a (some (m,bs))=dF h n z a m bs:=rfl
theorem KG (h:H) (n z:Nat) (a b:AV):km h n z a b=NP h n z a (aR h n b):=uz rfl rfl
def Pr (h:H) (n z p o k m:Nat) (bs:List AV) (q:Option (List AV)):Option (AV×H):=q.bind fun cs=>
 A7 (decide (o+(k+m)* n≤cs.length)) (some (.aD p o (k+m) n,h.set p (setFrom cs (o+k* n) bs))) (A7 (decide (o+k* n=cs.length)&&roomy z (k+m)) (some (.aD h.next 0 (k+m) n,(h.del p).alloc (cs.drop o++bs))) none)
theorem KD (h:H) (n z p o k m:Nat) (bs cs:List AV):Pr h n z p o k m bs (some cs)=A7 (decide (o+(k+m)* n≤cs.length)) (some (.aD p o (k+m) n,h.set p (setFrom cs (o+k* n) bs))) (A7 (decide (o+k* n=cs.length)&&roomy z (k+m)) (some (.aD h.next 0 (k+m) n,(h.del p).alloc (cs.drop o++bs))) none):=rfl
theorem KF (h : H) (n z p o k m : Nat) (bs : List AV) : dF h n z (.aD p o k n) m bs = A7 (decide (m = 0)) (some (.aD p o k n, h)) (A7 (AV.aB bs && (decide (0 < n) && decide (h.floor ≤ p))) (Pr h n z p o k m bs (h.get p)) none) := by
 unfold dF A7
 by_cases c:m=0
 · simp [c]
 · rw [if_neg c]
   simp only[decide_eq_true_eq,if_neg c]
   by_cases c1:AV.aB bs=false∨n=0
   · rw[if_pos c1,if_neg]
     rcases c1 with c1|c1
     · simp [c1]
     · simp [c1]
   · rw[if_neg c1]
     have q1:AV.aB bs=true:=by cases q:AV.aB bs with|true=>rfl|false=>exact absurd (.inl q) c1
     by_cases c2:h.floor≤p
     · have qq:(AV.aB bs&&(decide (0<n)&&decide (h.floor≤p)))=true:=by simp [q1,c2];omega
       simp only[true_and,if_pos c2,qq,if_true,Pr,A7]
       cases h.get p with
       |none=>rfl
       |some cs=>simp only[uE,decide_eq_true_eq,uI]
     · have qq:(AV.aB bs&&(decide (0<n)&&decide (h.floor≤p)))=false:=by simp [c2]
       simp only[true_and,if_neg c2,qq];rfl
theorem KE (h:H) (n z m:Nat) (bs:List AV):dF h n z .aO m bs=A7 (decide (m=0)) (some (.aO,h)) (A7 (AV.aB bs&&(decide (0<n)&&roomy z m)) (some (.aD h.next 0 m n,h.alloc bs)) none):=by
 unfold dF A7
 by_cases c:m=0
 · simp [c]
 · rw[if_neg c]
   simp only[decide_eq_true_eq,if_neg c]
   by_cases c1:AV.aB bs=false∨n=0
   · rw[if_pos c1,if_neg]
     rcases c1 with c1|c1
     · simp [c1]
     · simp [c1]
   · rw[if_neg c1]
     have q1:AV.aB bs=true:=by cases q:AV.aB bs with|true=>rfl|false=>exact absurd (.inl q) c1
     have q2:0<n:=by omega
     simp [q1,q2]
theorem zt {b n:Nat} (h:1≤b∧(n+n/4+512)* b≤281474976710656):roomy b n=true:=by simp only[roomy,h.1,h.2,and_self,decide_true]
theorem KQ {h:H} {n p o k:Nat} {m:Int} {cs:List AV} (hg:h.get p=some cs) (hn:0<n) (hk:o+k* n≤cs.length) (hm:0≤m∧m.toNat≤(cs.length-o)/n):rK h n (.aD p o k n) none (some (.int .i64 m)) none=some (.aD p o m.toNat n):=by
 have h1:k≤(cs.length-o)/n:=by rw[Nat.le_div_iff_mul_le hn];omega
 simp only[rK,hn,and_self,if_true,hg,uE,aA]
 rw[if_pos ⟨by omega,h1⟩]
 have h3:jX (.int .i64 m) ((cs.length-o)/n)=some m.toNat:=by
  simp only[jX,nu,uE]
  rw[if_pos]
  omega
 simp [h3]
theorem IP {α:Type} {C:α→List AV} {n:Nat} (hC:∀x,(C x).length=n):∀{l:List α} {i f:Nat} {x:α},l[i]?=some x→f<n→(l.flatMap C)[i* n+f]?=(C x)[f]?
 |[],i,f,x,h,_=>by simp at h
 | y :: l, 0, f, x, h, hf => by
   obtain rfl:y=x:=by simpa using h
   rw[QW,Nat.zero_mul,uM,Q0 (by rw[hC];exact hf)]
 | y :: l, i + 1, f, x, h, hf => by
   rw[QW,Q1 (by rw[hC,uX];omega),hC]
   rw[show(i+1)* n+f-n=i* n+f by rw[uX];omega]
   exact IP hC (by simpa using h) hf
theorem AO {α:Type} {C:α→List AV} {n:Nat} (hC:∀x,(C x).length=n):∀l:List α,(l.flatMap C).length=l.length* n
 |[]=>by simp
 |y::l=>by rw[QW,u1,hC,AO hC l,QQ,uX];omega
theorem D8 {α:Type} {C:α→List AV} {n:Nat} (hC:∀x,(C x).length=n):∀{l:List α} {i:Nat} {x:α},l[i]?=some x→((l.flatMap C).drop (i* n)).take n=C x
 |[],i,x,h=>by simp at h
 | y :: l, 0, x, h => by
   obtain rfl:y=x:=by simpa using h
   rw[QW,Nat.zero_mul,Ra,List.take_append_of_le_length (by rw[hC];omega),uW (by rw[hC];omega)]
 | y :: l, i + 1, x, h => by
   rw[QW,List.drop_append,List.drop_of_length_le (by rw[hC,uX];omega),List.nil_append,hC,show(i+1)* n-n=i* n by rw[uX];omega]
   exact D8 hC (by simpa using h)
def xS (n:Nat) (h:H) (v:AV) (k:Nat) (cs:List AV):Prop:=aR h n v=some (k,cs)∧cs.length=k* n∧∀s,v≠.str s
theorem Rd.PQ {h:H} {v:AV} {cs:List AV} (r:Rd h v cs):xS 1 h v cs.length cs:=⟨r.1,by omega,r.2⟩
theorem xS.len {n:Nat} {h:H} {v:AV} {k:Nat} {cs:List AV} (r:xS n h v k cs):iO false v=some (.int .i64 k):=by
 obtain⟨r,_,hs⟩:=r
 unfold aR at r
 split at r
 · obtain⟨h1,h2⟩:=ux (uv r);subst h1;rfl
 · exact absurd rfl (hs _)
 · split at r
   · simp only[uu]at r
     obtain⟨c,_,r⟩:=r
     split at r
     · obtain⟨h1,h2⟩:=ux (uv r);simp [iO,h1]
     · cases r
   · cases r
 · split at r
   · split at r
     · obtain⟨h1,h2⟩:=ux (uv r);simp [iO,h1]
     · cases r
   · cases r
 · cases r
theorem xS.mono {n:Nat} {h g:H} {v:AV} {k:Nat} {cs:List AV} (r:xS n h v k cs) (hg:∀id c,h.get id=some c→g.get id=some c):xS n g v k cs:=by
 obtain⟨r,hl,hs⟩:=r
 refine⟨?_,hl,hs⟩
 unfold aR at r ⊢
 split at r
 · exact r
 · exact r
 · split at r
   · rename_i q;simp only[if_pos q,uu]at r ⊢
     obtain⟨c,h1,r⟩:=r
     exact⟨c,hg _ _ h1,r⟩
   · cases r
 · exact r
 · cases r
theorem xS.at_ {n : Nat} {h : H} {v : AV} {k : Nat} {cs : List AV} (r : xS n h v k cs) : ∃ ad : Int → Nat → AV,
 (∀i:Int,0≤i∧i<k→fG n v (.int .i64 i)=some (ad i 0))∧
 (∀(i:Int) (f g:Nat),0≤i∧i<k→e5 g (ad i f)=some (ad i (f+g)))∧
 (∀(i:Int) (f:Nat) (g:H),0≤i∧i<k→jn g (ad i f)=some (ad i f,g))∧
 (∀g:H,(∀id c,h.get id=some c→g.get id=some c)→(∀(i:Int) (f:Nat) (c:AV),0≤i∧i<k→cs[i.toNat* n+f]?=some c→bQ false 1 (ad i f) g=some c)∧
   ∀i:Int,0≤i∧i<k→bQ true n (ad i 0) g=some (.agg ((cs.drop (i.toNat* n)).take n))):=by
 obtain⟨r,hl,hs⟩:=r
 unfold aR at r
 split at r
 · obtain⟨h1,h2⟩:=ux (uv r);subst h1
   exact⟨fun _ _=>.bot,fun i hi=>by omega,fun i f g hi=>by omega,fun i f g hi=>by omega,fun g _=>⟨fun i f c hi=>by omega,fun i hi=>by omega⟩⟩
 · exact absurd rfl (hs _)
 · rename_i id off len s
   split at r
   · rename_i q
     subst q
     simp only[uu]at r
     obtain⟨d,hd,r⟩:=r
     split at r
     · rename_i hle
       obtain⟨h1,h2⟩:=ux (uv r)
       subst h1
       have bnd:∀i:Int,0≤i∧i<len→i.toNat* s+s≤len* s:=fun i hi=>by
        have:=uK s (show i.toNat+1≤len by omega);rw[uX]at this;omega
       refine⟨fun i f=>.aC id (off+i.toNat* s+f),fun i hi=>by simp [fG,NO hi],fun i f g _=>by simp [e5];omega,fun i f g _=>rfl,fun g hg=>⟨fun i f c hi hc=> ?_,fun i hi=> ?_⟩⟩
       · simp only[bQ,hg _ _ hd,uE,gM,uF,u2]
         rw[←h2,u0]at hc
         split at hc
         · rw[uS]at hc;rw[uG];exact hc
         · cases hc
       · have:=bnd i hi
         simp only[bQ,hg _ _ hd,uE,gM,if_true,Nat.add_zero]
         rw[if_pos (by omega),←h2,List.drop_take,List.take_take,List.drop_drop,Nat.min_eq_left (by omega)]
     · cases r
   · cases r
 · rename_i t cells off len s
   split at r
   · rename_i q
     subst q
     split at r
     · rename_i hle
       obtain⟨h1,h2⟩:=ux (uv r)
       subst h1
       have bnd:∀i:Int,0≤i∧i<len→i.toNat* s+s≤len* s:=fun i hi=>by
        have:=uK s (show i.toNat+1≤len by omega);rw[uX]at this;omega
       refine⟨fun i f=>.aJ cells (off+i.toNat* s+f),fun i hi=>by simp [fG,NO hi],fun i f g _=>by simp [e5];omega,fun i f g _=>rfl,fun g hg=>⟨fun i f c hi hc=> ?_,fun i hi=> ?_⟩⟩
       · simp only[bQ,gM,uF,u2]
         rw[←h2,u0]at hc
         split at hc
         · rw[uS]at hc;rw[uG];exact hc
         · cases hc
       · have:=bnd i hi
         simp only[bQ,gM,if_true,Nat.add_zero]
         rw[if_pos (by omega),←h2,List.drop_take,List.take_take,List.drop_drop,Nat.min_eq_left (by omega)]
     · cases r
   · cases r
 · cases r
def vT (n:Nat) (h:H) (v:AV) (k:Nat) (cs:List AV):Prop:=cs.length=k* n∧((v=.aO∧k=0)∨∃id,v=.aD id 0 k n∧h.get id=some cs∧h.floor≤id∧0<k)
theorem vT.nil {n:Nat} {h:H}:vT n h .aO 0 []:=⟨by simp,.inl ⟨rfl,rfl⟩⟩
theorem vT.mono {n:Nat} {h g:H} {v:AV} {k:Nat} {cs:List AV} (o:vT n h v k cs) (hf:g.floor=h.floor) (hg:∀i,v.id?=some i→g.get i=h.get i):vT n g v k cs:=by
 obtain⟨l,o⟩:=o
 refine⟨l, ?_⟩
 rcases o with o|⟨id,rfl,h1,h2,h3⟩
 · exact .inl o
 · exact .inr ⟨id,rfl,by rw[hg id rfl];exact h1,by rw[hf];exact h2,h3⟩
theorem vT.sc {n:Nat} {h:H} {v:AV} {k:Nat} {cs:List AV} (o:vT n h v k cs):v.sc=true:=by
 rcases o.2 with ⟨rfl,_⟩|⟨id,rfl,_⟩<;>rfl
theorem vT.lt {n:Nat} {h:H} {v:AV} {k:Nat} {cs:List AV} (o:vT n h v k cs) {i:Nat} (hi:v.id?=some i):h.floor≤i∧i<h.next:=by
 rcases o.2 with ⟨rfl,_⟩|⟨id,rfl,h1,h2⟩
 · cases hi
 · obtain rfl:=uv hi;exact⟨h2.1,h.lt _ _ h1⟩
theorem vT.rd {n:Nat} {h:H} {v:AV} {k:Nat} {cs:List AV} (o:vT n h v k cs):xS n h v k cs:=by
 obtain⟨l,o⟩:=o
 rcases o with ⟨rfl,rfl⟩|⟨id,rfl,h1,h2⟩
 · have:cs=[]:=Rc (by omega)
   subst this
   exact⟨rfl,by simp,fun _=>by simp⟩
 · refine⟨?_,l,fun _=>by simp⟩
   simp only[aR,if_true,h1,uE,uM]
   rw[if_pos (by omega),Ra,uW (by omega)]
theorem vT.app {n:Nat} {h:H} {v:AV} {k:Nat} {cs:List AV} (o:vT n h v k cs) (hfn:h.floor≤h.next) {z m:Nat} (hm:0<m) (hn:0<n) (bs:List AV) (hb:bs.length=m* n) (hc:AV.aB bs=true) (hr:roomy z (k+m)=true):
 ∃v' h',dF h n z v m bs=some (v',h')∧vT n h' v' (k+m) (cs++bs)∧h'.floor=h.floor∧h.next≤h'.next∧(∀i,v.id?≠some i→i≠h.next→h'.get i=h.get i)∧v'.id?=some h.next:=by
 obtain⟨hl,o⟩:=o
 have hll:(cs++bs).length=(k+m)* n:=by rw[u1,hl,hb,uX]
 rcases o with ⟨rfl,rfl⟩|⟨id,rfl,hg,hf,_⟩
 · have:cs=[]:=Rc (by omega)
   subst this
   refine⟨.aD h.next 0 m n,h.alloc bs, ?_,⟨hll,.inr ⟨h.next,by simp,by simp [H.aV],by simp;omega,by omega⟩⟩,by simp,by simp,fun i _ hi=>by rw[H.aV,if_neg hi],rfl⟩
   unfold dF
   rw[if_neg (by omega),if_neg (by simp [hc];omega)]
   rw[uM]at hr
   simp only[hr,if_true]
 · have hmn:0<m* n:=Nat.mul_pos hm hn
   have hnot:¬0+(k+m)* n≤cs.length:=by rw[hl,uX];omega
   refine⟨.aD h.next 0 (k+m) n,(h.del id).alloc (cs++bs), ?_,⟨hll,.inr ⟨h.next,by simp,by simp [H.aV], ?_,by omega⟩⟩,by simp,by simp,fun i h1 h2=> ?_,rfl⟩
   · unfold dF
     rw[if_neg (by omega),if_neg (by simp [hc];omega)]
     simp only[hf,and_self,if_true,hg,uE]
     rw[if_neg hnot,if_pos ⟨by omega,hr⟩]
     simp
   · have:=h.lt id cs hg;simp;omega
   · rw[H.aV,H.jk,if_neg h2,H.dM,if_neg]
     intro e;subst e;exact h1 rfl
theorem vT.push {n:Nat} {h:H} {v:AV} {k:Nat} {cs:List AV} (o:vT n h v k cs) (hfn:h.floor≤h.next) {z m:Nat} (hm:0<m) (hn:0<n) (bs:List AV) (hb:bs.length=m* n) (hc:AV.aB bs=true) (hr:roomy z (k+m)=true):
 ∃v' h',km (h.alloc bs) n z v (.aD h.next 0 m n)=some (v',h')∧vT n h' v' (k+m) (cs++bs)∧h'.floor=h.floor∧h.next+1≤h'.next∧(∀i,v.id?≠some i→i<h.next→h'.get i=h.get i)∧v'.id?=some (h.next+1):=by
 have o1:vT n (h.alloc bs) v k cs:=o.mono (by simp) fun i q=>by rw[H.aV,if_neg];have:=o.lt q;omega
 obtain⟨v',h',p1,p2,p3,p4,p5,p6⟩:=o1.app (z:=z) (by simp;omega) hm hn bs hb hc hr
 refine⟨v',h', ?_,p2,by rw[p3];simp,by simpa using p4,fun i q1 q2=> ?_,by simpa using p6⟩
 · have src:aR (h.alloc bs) n (.aD h.next 0 m n)=some (m,bs):=by
    simp only[aR,if_true,H.aV,uE,uM]
    rw[if_pos (by omega),Ra,uW (by omega)]
   unfold km;rw[src,uE];exact p1
 · rw[p5 i q1 (by simp;omega),H.aV,if_neg (by omega)]
def yK (n k:Nat) (cs:List AV):AV:=if k=0 then .aO else .aU false cs 0 k n
theorem GB {n k:Nat} {h:H} {cs:List AV} (hl:cs.length=k* n):xS n h (yK n k cs) k cs:=by
 unfold yK
 by_cases hk:k=0
 · subst hk
   have:cs=[]:=Rc (by omega)
   subst this
   exact⟨rfl,by simp,fun _=>by simp⟩
 · rw[if_neg hk]
   refine⟨?_,hl,fun _=>by simp⟩
   simp only[aR,if_true,uM]
   rw[if_pos (by omega),Ra,uW (by omega)]
theorem vT.zu {n:Nat} {h:H} {v:AV} {k:Nat} {l:List Int} {fl m:Nat} {t:Bool} (o:vT n h v k (ints l)) (hf:fl≤h.floor):snap h.get fl (m+2) t v=some (yK n k (ints l)):=by
 obtain⟨hl,o⟩:=o
 rw[pC]at hl
 rcases o with ⟨rfl,rfl⟩|⟨id,rfl,q,h2,hk⟩
 · rfl
 · unfold snap
   rw[if_neg (by omega),q,uE,if_pos (by rw[pC];omega)]
   rw[Ra,uW (by rw[pC];omega),wZ]
   unfold yK
   rw[if_neg (by omega)];rfl
attribute [go_sem] List.map_cons List.map_nil Bool.and_true Bool.true_and Bool.and_self List.append_nil Option.map_some Option.map_none Bool.and_false Bool.false_and Bool.or_false Bool.or_true Bool.true_or Bool.false_or Bool.or_self bU.aN bU.aH Int.reduceAdd Int.reduceSub Int.reduceMul Int.reduceNeg Int.reduceToNat List.take_succ_cons List.take_zero List.drop_zero List.drop_succ_cons Int.cast_ofNat_Int Int.natCast_one Int.natCast_zero List.length_set
theorem vx:type_of% @dt∧type_of% @df∧type_of% @PK∧type_of% @PJ∧type_of% @PO∧type_of% @PN∧type_of% @wi∧type_of% @wb∧type_of% @wD∧type_of% @zk∧type_of% @JI∧type_of% @GF∧type_of% @NO∧type_of% @vm∧type_of% @ve∧type_of% @vu∧type_of% @u5∧type_of% @H.jd∧type_of% @H.jT∧type_of% @H.kK∧type_of% @H.jm∧type_of% @Jz∧type_of% @GS∧type_of% @IK∧type_of% @IJ∧type_of% @GY∧type_of% @BS∧type_of% @Db∧type_of% @GP∧type_of% @Ix∧type_of% @Jn∧type_of% @Jo∧type_of% @pJ∧type_of% @oU∧type_of% @rf∧type_of% @pT∧type_of% @I4∧type_of% @I3∧type_of% @sy∧type_of% @sA∧type_of% @EK∧type_of% @Ee∧type_of% @yL∧type_of% @DW∧type_of% @F9∧type_of% @GN∧type_of% @KJ∧type_of% @IX∧type_of% @K4∧type_of% @K3∧type_of% @K0∧type_of% @KZ∧type_of% @K2∧type_of% @KX∧type_of% @D0∧type_of% @EF∧type_of% @EI∧type_of% @EG∧type_of% @Da∧type_of% @BF∧type_of% @BQ∧type_of% @EH∧type_of% @Az∧type_of% @Ei∧type_of% @Jb∧type_of% @D9∧type_of% @Ep∧type_of% @Eo∧type_of% @KW∧type_of% @KV∧type_of% @tF∧type_of% @beq_refl∧type_of% @wI∧type_of% @KY∧type_of% @KH∧type_of% @Jy∧type_of% @Jx∧type_of% @Jw∧type_of% @CM∧type_of% @FP∧type_of% @Bx∧type_of% @DN:=⟨@dt, @df, @PK, @PJ, @PO, @PN, @wi, @wb, @wD, @zk, @JI, @GF, @NO, @vm, @ve, @vu, @u5, @H.jd, @H.jT, @H.kK, @H.jm, @Jz, @GS, @IK, @IJ, @GY, @BS, @Db, @GP, @Ix, @Jn, @Jo, @pJ, @oU, @rf, @pT, @I4, @I3, @sy, @sA, @EK, @Ee, @yL, @DW, @F9, @GN, @KJ, @IX, @K4, @K3, @K0, @KZ, @K2, @KX, @D0, @EF, @EI, @EG, @Da, @BF, @BQ, @EH, @Az, @Ei, @Jb, @D9, @Ep, @Eo, @KW, @KV, @tF, @beq_refl, @wI, @KY, @KH, @Jy, @Jx, @Jw, @CM, @FP, @Bx, @DN⟩
theorem BC:type_of% @Ay∧type_of% @Ao∧type_of% @Al∧type_of% @Ef∧type_of% @D7∧type_of% @Aj∧type_of% @JS∧type_of% @Jr∧type_of% @Jq∧type_of% @Jv∧type_of% @KT∧type_of% @KR∧type_of% @KS∧type_of% @KU∧type_of% @It∧type_of% @KG∧type_of% @KD∧type_of% @KF∧type_of% @KE∧type_of% @zt∧type_of% @zC∧type_of% @zG∧type_of% @Kv∧type_of% @Ku:=⟨@Ay, @Ao, @Al, @Ef, @D7, @Aj, @JS, @Jr, @Jq, @Jv, @KT, @KR, @KS, @KU, @It, @KG, @KD, @KF, @KE, @zt, @zC, @zG, @Kv, @Ku⟩
theorem wB:type_of% @H.jT∧type_of% @H.jm∧type_of% @Ef∧type_of% @Ay∧type_of% @H.jd∧type_of% @H.kK∧type_of% @D7∧type_of% @Al:=⟨@H.jT, @H.jm, @Ef, @Ay, @H.jd, @H.kK, @D7, @Al⟩
theorem BD:type_of% @vm∧type_of% @ve∧type_of% @vu∧type_of% @u5∧type_of% @Aj∧type_of% @Ao:=⟨@vm, @ve, @vu, @u5, @Aj, @Ao⟩
end Ab
set_option maxRecDepth 100000
namespace Ab
open Go
def Mh (c:Nat):Nat:=if c%2=1 then(c/2)^^^3988292384 else c/2
def GV:Nat→Nat→Nat
 |0,c=>c
 |n+1,c=>GV n (Mh c)
def J6 (c b:Nat):Nat:=GV 8 (c^^^b)
def IE (s:ByteArray):Nat→Nat→Nat→Nat
 |0,_,c=>c
 |n+1,i,c=>IE s n (i+1) (J6 c (xj s i))
def Pc (a:Nat) (s:ByteArray):Nat:=4294967295-IE s s.size 0 (4294967295-a)
def Ow (s:ByteArray):Nat:=Pc 0 s
theorem FO {a s:Nat} (hs:s≤64):oV .shr .i64 (a:Int) (s:Int)=some (.int .i64 ((a/2^s:Nat):Int)):=by
 unfold oV
 rw[if_neg (by omega)]
 simp only[IntKind.bits,Int.toNat_natCast,Nat.min_eq_left hs]
 rw[Int.fdiv_eq_ediv_of_nonneg _ (Int.pow_nonneg (by omega))]
 simp
theorem EE {h:H} {v:AV} {k:Nat} {l:List Nat} (o:vT 1 h v k (xi l)):tD h v (aR h 1 v)=some (.str (bytesOf l),h):=by
 rw[o.rd.1]
 simp only[tD,uE,DY]
 rcases o.2 with ⟨rfl,_⟩|⟨id,rfl,_⟩<;>rfl
def xO (s:ByteArray) (i j:Nat):Nat→Nat→Nat
 |0,k=>k
 |f+1,k=>if k<258∧i+k<s.size∧xj s (i+k)=xj s (j+k)then xO s i j f (k+1)else k
def same (s:ByteArray) (i j:Nat):Nat:=xO s i j 258 0
def vL (s:ByteArray) (i:Nat):Nat→Nat×Nat→Nat×Nat
 |0,b=>b
 |j+1,b=>vL s i j (if b.1<same s i j then(same s i j,i-j)else b)
theorem FN (s:ByteArray) (i j:Nat):∀f k,xO s i j f k≤k+f
 |0,k=>by simp [xO]
 | f + 1, k => by
   unfold xO
   split
   · have:=FN s i j f (k+1);omega
   · omega
theorem Hp (s:ByteArray) (i j:Nat):same s i j≤258:=by have:=FN s i j 258 0;unfold same;omega
theorem CJ (s:ByteArray) (i j:Nat) (hi:i≤s.size):∀f k,i+k≤s.size→i+xO s i j f k≤s.size
 |0,k,h=>by simpa [xO]using h
 | f + 1, k, h => by
   unfold xO
   split
   · rename_i q;exact CJ s i j hi f (k+1) (by omega)
   · exact h
theorem DL (s:ByteArray) (i j:Nat) (hi:i≤s.size):i+same s i j≤s.size:=CJ s i j hi 258 0 (by omega)
theorem BR (s:ByteArray) (i:Nat) (hi:i≤s.size):∀(j:Nat) (b:Nat×Nat),i+b.1≤s.size→i+(vL s i j b).1≤s.size
 |0,b,h=>h
 | j + 1, b, h => by
   unfold vL
   refine BR s i hi j _ ?_
   split
   · exact DL s i j hi
   · exact h
structure Tok where
 lit:Int
 len:Int
 vM:Int
deriving DecidableEq
def Kw (t:Tok):List Int:=[t.lit,t.len,t.vM]
def F4 (t:Tok):List AV:=ints (Kw t)
def K5 (ts:List Tok):List Int:=ts.flatMap Kw
def vE (ts:List Tok):List AV:=ts.flatMap F4
theorem CS (t:Tok):(F4 t).length=3:=rfl
theorem DS (ts:List Tok):(vE ts).length=ts.length* 3:=AO CS ts
theorem z7:∀ts:List Tok,vE ts=ints (K5 ts)
 |[]=>rfl
 | t :: ts => by
   have:=z7 ts
   unfold vE K5 at *
   rw[QW,QW,py,this];rfl
theorem GJ (ts:List Tok) (t:Tok):vE (ts++[t])=vE ts++F4 t:=by simp [vE]
def wm (s:ByteArray) (i:Nat):Tok×Nat:=
 if(vL s i i (0,0)).1<3 then(⟨xj s i,0,0⟩,i+1)else(⟨0,(vL s i i (0,0)).1,(vL s i i (0,0)).2⟩,i+(vL s i i (0,0)).1)
def zc (s:ByteArray):Nat→Nat→List Tok
 |0,_=>[]
 |f+1,i=>if i<s.size then(wm s i).1::zc s f (wm s i).2 else []
theorem F0 (s:ByteArray) (i:Nat):i<(wm s i).2:=by
 unfold wm;split<;>simp<;>omega
theorem FZ (s:ByteArray) (i:Nat) (hi:i<s.size):(wm s i).2≤s.size:=by
 unfold wm;split
 · exact hi
 · exact BR s i (by omega) i (0,0) (by show i+0≤_;omega)
def CU (ts:List Tok):AV:=yK 3 ts.length (vE ts)
def tokens (s:ByteArray):List Tok:=zc s s.size 0
def Ext (h g:H):Prop:=∀id c,h.get id=some c→g.get id=some c
theorem Ext.refl (h:H):Ext h h:=fun _ _ q=>q
theorem Ext.trans {a b c:H} (x:Ext a b) (y:Ext b c):Ext a c:=fun i d q=>y i d (x i d q)
theorem Ext.alloc {a h:H} (x:Ext a h) (cs:List AV):Ext a (h.alloc cs):=fun i d q=>by
 have:=h.lt _ _ (x i d q)
 rw[H.aV,if_neg (by omega)];exact x i d q
theorem Ext.set {a h:H} (x:Ext a h) {id:Nat} (hid:a.next≤id) (cs:List AV):Ext a (h.set id cs):=fun i d q=>by
 have:=a.lt _ _ q
 rw[H.dh,if_neg (by omega)];exact x i d q
theorem xS.NF {h:H} {v:AV} {ts:List Tok} (r:xS 3 h v ts.length (vE ts)):∃ad:Int→Nat→AV,
 (∀i:Int,0≤i∧i<ts.length→fG 3 v (.int .i64 i)=some (ad i 0))∧
 (∀(i:Int) (f g:Nat),0≤i∧i<ts.length→e5 g (ad i f)=some (ad i (f+g)))∧
 ∀ g : H, Ext h g → ∀ (i : Nat) (t : Tok), ts[i]? = some t → bQ false 1 (ad i 0) g = some (.int .i64 t.lit) ∧ bQ false 1 (ad i 1) g = some (.int .i64 t.len) ∧ bQ false 1 (ad i 2) g = some (.int .i64 t.vM) ∧
   bQ true 3 (ad i 0) g=some (.agg [.int .i64 t.lit,.int .i64 t.len,.int .i64 t.vM]):=by
 obtain⟨ad,a1,a2,_,a3⟩:=r.at_
 refine⟨ad,a1,a2,fun g hg i t ht=> ?_⟩
 obtain⟨b1,b2⟩:=a3 g hg
 have hi:i<ts.length:=(uD.1 ht).1
 have hI:(0:Int)≤(i:Int)∧(i:Int)<ts.length:=⟨by omega,by omega⟩
 have ti:((i:Int)).toNat=i:=by omega
 have q:∀f,f<3→(vE ts)[((i:Int)).toNat* 3+f]?=(F4 t)[f]?:=fun f hf=>by rw[ti];exact IP CS ht hf
 refine⟨b1 i 0 _ hI (q 0 (by omega)),b1 i 1 _ hI (q 1 (by omega)),b1 i 2 _ hI (q 2 (by omega)), ?_⟩
 rw[b2 i hI,ti,vE,D8 CS ht];rfl
def vU (size:Int) (t:Tok):Option Int:=
 if t.len=0 then(if t.lit<0∨255<t.lit∨t.vM≠0 then none else some (size+1))
 else if t.len<3∨258<t.len∨t.vM<1∨32768<t.vM∨size<t.vM∨t.lit≠0 then none else some (size+t.len)
def vz : Int → List Tok → Bool
 |_,[]=>true
 | s, t :: r => match vU s t with
   |none=>false
   |some s'=>if 8192<s' then false else vz s' r
theorem Rd.wP {h:H} {v:AV} {l:List Int} (r:Rd h v (ints l)):∃ad:Int→AV,(∀i:Int,0≤i∧i<l.length→fG 1 v (.int .i64 i)=some (ad i))∧
 ∀g:H,Ext h g→∀(i:Nat) (n:Int),l[i]?=some n→bQ false 1 (ad i) g=some (.int .i64 n):=by
 have r2:=r.PQ
 rw[pC]at r2
 obtain⟨ad,a1,_,_,a3⟩:=r2.at_
 refine⟨fun i=>ad i 0,a1,fun g hg i n hn=> ?_⟩
 have hi:i<l.length:=(uD.1 hn).1
 refine(a3 g hg).1 i 0 _ ⟨by omega,by omega⟩ ?_
 rw[GF,Nat.mul_one,Nat.add_zero]
 exact sB hn
structure NJ where
 name:ByteArray
 gone:Bool
 vec:List Int
 JA:Int
 node:Int
 method:Int
 packed:ByteArray
 size:Int
 Qe:Int
structure PE (h:H) (p:AV) (cs:List AV):Prop where
 nil:∀g:H,jn g p=some (p,g)
 s7:∃q:Nat→AV,(∀k,e5 k p=some (q k))∧∀g:H,Ext h g→∀(k:Nat) (c:AV),cs[k]?=some c→bQ false 1 (q k) g=some c
abbrev NM:=NJ×AV
structure Pp (h:H) (x:NM):Prop where
 vec:Rd h x.2 (ints x.1.vec)
 vl:x.1.vec.length<1125899906842624
 nl:x.1.name.size<1125899906842624
 pl:x.1.packed.size<1125899906842624
theorem Pp.mono {h g:H} {x:NM} (o:Pp h x) (e:Ext h g):Pp g x:=⟨o.vec.mono fun i c q=>e i c q,o.vl,o.nl,o.pl⟩
theorem Gt (c:ae) (e:Env) (h:H) (x y:X):ah c e h (.mx [x,y])=cZ h (lS (x.ev e) (y.ev e)):=by
 simp only[ah,aW,QY,Rw,fT]
 cases lS (x.ev e) (y.ev e)<;>rfl
def Cw (a b:Int):Int:=if a<b then b else a
theorem DX (k:IntKind) (a b:Int):lS (.int k a) (.int k b)=some (.int k (Cw a b)):=rfl
theorem Rd.PB {h:H} {v:AV} {cs:List AV} (r:Rd h v cs) (hc:cs≠[]):fu 1 v .aO=some false:=by
 obtain⟨r,hs⟩:=r
 unfold aR at r
 split at r
 · obtain⟨_,h2⟩:=ux (uv r);exact absurd h2.symm hc
 · exact absurd rfl (hs _)
 · rfl
 · rfl
 · cases r
theorem HD {n:Nat} {h:H} {v:AV} {k:Nat} {cs:List AV} (r:xS n h v k cs) (hfn:h.floor≤h.next) (hn:0<n) (hk:0<k) {z:Nat} (hr:roomy z k=true) (hc:AV.aB cs=true):
 km (h.alloc []) n z (.aD h.next 0 0 n) v=some (.aD (h.next+1) 0 k n,((h.alloc []).del h.next).alloc cs):=by
 have r2:xS n (h.alloc []) v k cs:=r.mono fun i c q=>by rw[H.aV,if_neg (by have:=h.lt _ _ q;omega)];exact q
 unfold km
 rw[r2.1,uE]
 have hkn:0<k* n:=Nat.mul_pos hk hn
 unfold dF
 rw[if_neg (by omega),if_neg (by simp [hc];omega)]
 simp only[H.jd,hfn,and_self,if_true]
 rw[vm rfl,uE,if_neg (by simp;omega),if_pos ⟨by simp,by simpa using hr⟩]
 simp
theorem Cm:∀l:List Int,AV.aB (ints l)=true
 |[]=>rfl
 | n :: l => by
   have:=Cm l
   show AV.aB (I n::ints l)=true
   rw[pT,this];rfl
theorem J4 (h:H) (v:AV) (l:List Int) (rd:Rd h v (ints l)) (hl:0<l.length) (hb:l.length<1000000) (hfn:h.floor≤h.next):aQ AP.A 118 [v] h=some (.aD (h.next+1) 0 l.length 1,((h.alloc []).del h.next).alloc (ints l)):=by
 have r2:=rd.PQ
 rw[pC]at r2
 have ap:=HD r2 hfn (by omega) hl (z:=8) (by simp [roomy];omega) (Cm l)
 have nn:=rd.PB (fun q=>by
  have q2:(ints l).length=0:=by rw[q];rfl
  rw[pC]at q2
  omega)
 refine tq (fn:=AP.f118) (h2:=((h.alloc []).del h.next).alloc (ints l)) (e:=[(2,.aD (h.next+1) 0 l.length 1)]) (vs:=[.aD (h.next+1) 0 l.length 1]) rfl rfl rfl ?_ rfl
 clear rd r2
 simp (disch:=omega)only[go_sem,vx,AP.f118,nn,ap]
def GC (name:ByteArray) (node:Nat) (JA:Int) (text:ByteArray):NJ:=⟨name,false,[0,0,0,0].set node JA,JA,node,0,text,text.size,Ow text⟩
def nA:ByteArray:=⟨#[97]⟩
def nB:ByteArray:=⟨#[98]⟩
def PR:ByteArray:=⟨#[104,105]⟩
def Qh:ByteArray:=⟨#[104,111]⟩
def eA:NJ:=GC nA 0 1 PR
def eB:NJ:=GC nA 2 1 Qh
def eC:NJ:=GC nB 0 1 ⟨#[]⟩
def eD:NJ:={eA with Qe:=(Ow PR^^^1:Nat)}
end Ab
