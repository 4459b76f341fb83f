/- Part C1. -/
import Derived.KernelRfl
import Derived.Test.YtmckmpeekikfdaaAP
set_option linter.unusedSimpArgs false
set_option linter.unusedVariables false
namespace Ab
open Go
theorem RW:type_of% @List.getD_eq_getElem?_getD:= @List.getD_eq_getElem?_getD
theorem RX:type_of% @List.length_cons:= @List.length_cons
theorem RY:type_of% @List.getElem?_eq_getElem:= @List.getElem?_eq_getElem
theorem RZ:type_of% @List.length_nil:= @List.length_nil
theorem R0:type_of% @decide_eq_false:= @decide_eq_false
theorem R1:type_of% @Option.map_some:= @Option.map_some
theorem R2:type_of% @decide_eq_true:= @decide_eq_true
theorem R3:type_of% @List.flatMap_cons:= @List.flatMap_cons
theorem R4:type_of% @Int.eq_ofNat_of_zero_le:= @Int.eq_ofNat_of_zero_le
theorem R5:type_of% @List.map_cons:= @List.map_cons
theorem R6:type_of% @List.mem_map:= @List.mem_map
theorem R7:type_of% @List.getElem?_append_left:= @List.getElem?_append_left
theorem R8:type_of% @List.getElem?_append_right:= @List.getElem?_append_right
theorem R9:type_of% @List.append_assoc:= @List.append_assoc
theorem Sa:type_of% @List.getElem?_eq_none:= @List.getElem?_eq_none
theorem Sb:type_of% @List.getElem?_set:= @List.getElem?_set
theorem Sc:type_of% @List.length_replicate:= @List.length_replicate
theorem Sd:type_of% @List.getElem_mem:= @List.getElem_mem
theorem Se:type_of% @Nat.pow_le_pow_right:= @Nat.pow_le_pow_right
theorem Sf:type_of% @List.append_nil:= @List.append_nil
theorem Sg:type_of% @Classical.byContradiction:= @Classical.byContradiction
theorem Si:type_of% @List.drop_zero:= @List.drop_zero
theorem Sj:type_of% @List.length_set:= @List.length_set
theorem Sk:type_of% @List.eq_nil_of_length_eq_zero:= @List.eq_nil_of_length_eq_zero
theorem Sl:type_of% @List.getElem?_replicate:= @List.getElem?_replicate
theorem Sm:type_of% @List.sum_cons:= @List.sum_cons
theorem Sn:type_of% @List.mem_append:= @List.mem_append
theorem So:type_of% @List.eq_of_mem_replicate:= @List.eq_of_mem_replicate
theorem Sp:type_of% @congrArg:= @congrArg
theorem Sq:type_of% @List.getElem?_range:= @List.getElem?_range
theorem Sr:type_of% @List.map_congr_left:= @List.map_congr_left
theorem Ss:type_of% @List.mem_or_eq_of_mem_set:= @List.mem_or_eq_of_mem_set
theorem Su:type_of% @List.length_singleton:= @List.length_singleton
theorem Sv:type_of% @List.length_take:= @List.length_take
theorem Sw:type_of% @List.mem_iff_getElem:= @List.mem_iff_getElem
theorem Sx:type_of% @Int.le_refl:= @Int.le_refl
theorem Sy:type_of% @List.mem_cons_of_mem:= @List.mem_cons_of_mem
theorem Sz:type_of% @Option.map_none:= @Option.map_none
theorem SA:type_of% @List.Perm.refl:= @List.Perm.refl
theorem SD:type_of% @List.map_nil:= @List.map_nil
theorem SE:type_of% @List.nodup_cons:= @List.nodup_cons
theorem SF:type_of% @List.take_zero:= @List.take_zero
attribute [local congr] sX
def wM (l:List Int) (n:Nat):Nat:=if n=0 then 0 else l.countP (fun x=>x==(n:Int))
def syms (l:List Int) (n:Nat):List Int:=if n=0 then []else l.zipIdx.filterMap fun p=>if p.1=(n:Int)then some (p.2:Int)else none
theorem zg (p:List Int) (x:Int) (n:Nat):wM (p++[x]) n=wM p n+if n≠0∧x=(n:Int)then 1 else 0:=by
 unfold wM
 by_cases hn:n=0
 · simp [hn]
 · simp [hn,List.countP_append,List.countP_cons]
theorem zR (p:List Int) (x:Int) (n:Nat):syms (p++[x]) n=syms p n++if n≠0∧x=(n:Int)then [(p.length:Int)]else []:=by
 unfold syms
 by_cases hn:n=0
 · simp [hn]
 · simp [hn,List.zipIdx_append,List.filterMap_append]
   split<;>simp_all
theorem GM (l:List Int) (n:Nat):(syms l n).length≤l.length:=by
 unfold syms
 split
 · simp
 · refine uZ (List.length_filterMap_le _ _) ?_
   simp
theorem z4 (l:List Int) (n:Nat):wM l n≤l.length:=by
 unfold wM
 split
 · omega
 · exact List.countP_le_length
structure Bk (h0 h:H) (b:Nat) (C:Nat→AV) (p:List Int):Prop where
 get:h.get b=some (nj 49 C)
 fl:h.floor=h0.next
 fb:h0.next≤b
 nx:h.floor≤h.next
 low:∀id,id<h0.next→h.get id=h0.get id
 Jh:∀n,n<16→C (16+n)=I (wM p n)
 own:∀n,n<16→ni h (C (32+n)) (ints (syms p n))
 nb:∀n,n<16→(C (32+n)).id?≠some b
 KO:∀n m,n<16→m<16→n≠m→∀i,(C (32+n)).id?=some i→(C (32+m)).id?≠some i
set_option maxHeartbeats 1000000 in
theorem IY (h0 h : H) (b : Nat) (C : Nat → AV) (p : List Int) (n : Nat) (x : AV) (N : Int) (bk : Bk h0 h b C p) (hn1 : 0 < n) (hn : n < 16) (hp : p.length < 100000) (hel : ∃ a, fI 1 x (I p.length) = some a ∧ ∀ g : H, (∀ id c, h0.get id = some c → g.get id = some c) → bS false 1 a g = some (I n)) (hN : (p.length : Int) < N) :
 ∃h' C',aK (aQ AP.A) bu AP.f41L1 [(3,.aC b 0),(10,x),(11,I N),(12,I p.length)] h=some (.normal,[(3,.aC b 0),(10,x),(11,I N),(12,I (p.length+1))],h')∧Bk h0 h' b C' (p++[(n:Int)])∧∀i,(i<16∨i=48)→C' i=C i:=by
 obtain⟨a,ha1,ha2⟩:=hel
 have hlow:∀id c,h0.get id=some c→h.get id=some c:=fun id c q=>by rw[bk.low id (h0.lt id c q)];exact q
 have hld:=ha2 h hlow
 have hx:cM (I n) 16=some n:=j4 hn
 have g1:(nj 49 C)[16+n]?=some (I (wM p n)):=by rw[fG (by omega),bk.Jh n hn]
 have hcl:=z4 p n
 have hw:IntKind.wrap .i64 ((wM p n:Int)+1)=wM p n+1:=tw (by omega) (by omega)
 have hw2:IntKind.wrap .i64 ((p.length:Int)+1)=p.length+1:=tw (by omega) (by omega)
 have hfb:h.floor≤b:=by rw[bk.fl];exact bk.fb
 have hs1:(nj 49 C).set (16+n) (I (wM p n+1))=nj 49 (tP C (16+n) (I (wM p n+1))):=tv (by omega) _
 obtain⟨C1,eC1⟩:∃D,D=tP C (16+n) (I (wM p n+1)):=⟨_,rfl⟩
 rw[←eC1]at hs1
 obtain⟨h1,eh1⟩:∃g,g=(h.set b (nj 49 C1)).alloc [I p.length]:=⟨_,rfl⟩
 have hbn:b<h.next:=h.lt _ _ bk.get
 have hb1:h1.get b=some (nj 49 C1):=by
  rw[eh1,H.aV,H.jn,if_neg (by omega),H.dj,if_pos rfl,bk.get];rfl
 have hC1:C1 (32+n)=C (32+n):=by rw[eC1,tP,if_neg (by omega)]
 have hlo1:∀i,i≠b→i≠h.next→h1.get i=h.get i:=fun i q1 q2=>by
  rw[eh1,H.aV,H.jn,if_neg q2,H.dj,if_neg q1]
 have hfl1:h1.floor=h.floor:=by rw[eh1];simp
 have hnx1:h1.next=h.next+1:=by rw[eh1];simp
 have ho1:∀m,m<16→ni h1 (C (32+m)) (ints (syms p m)):=fun m hm=>
  (bk.own m hm).mono hfl1 fun i hi=>hlo1 i (fun e=>bk.nb m hm (e ▸ hi)) (by have:=(bk.own m hm).lt hi;omega)
 have hsl:=GM p n
 have hnxf:=bk.nx
 obtain⟨v',h2,q1,q2,q3,q4,q5,q6⟩:=(ho1 n hn).app (by omega) (z:=8) (I p.length) rfl (by simp [roomy];omega)
 have g2:(nj 49 C1)[32+n]?=some (C (32+n)):=by rw[fG (by omega),hC1]
 have hb2:h2.get b=some (nj 49 C1):=by rw[q5 b (bk.nb n hn) (by omega)];exact hb1
 have hs2:(nj 49 C1).set (32+n) v'=nj 49 (tP C1 (32+n) v'):=tv (by omega) _
 have hfl2:h2.floor≤b:=by have:=bk.fb;have:=bk.fl;omega
 have hv':v'.cells=[v']∧v'.sc=true:=by
  rcases q2 with ⟨rfl,_⟩|⟨id,rfl,_⟩<;>exact⟨rfl,rfl⟩
 have b1:16+n≤48:=by omega
 have b2:32+n≤48:=by omega
 have hal:(h.set b (nj 49 C1)).get b=some (nj 49 C1):=by rw[H.dj,if_pos rfl,bk.get];rfl
 have hal2:h1.get h.next=some [I p.length]:=by rw[eh1,H.aV,H.jn,if_pos rfl]
 refine⟨h2.set b (nj 49 (tP C1 (32+n) v')),tP C1 (32+n) v', ?_, ?_,fun i hi=>by rw[tP,if_neg (by omega),eC1,tP,if_neg (by omega)]⟩
 · simp only[I]at *
   simp [AP.f41L1,aK,au,aM,ai,ah,bq,aX,ha1,hld,hN,hn1,hx,bk.get,g1,hw,hw2,hfb,hs1,dE,dM,kq,aR,H.aV,bW.aN,b1,b2,hal,g2,←eh1,hal2,q1,hb2,hs2,hfl2,hv'.1,hv'.2]
 · refine⟨by rw[H.dj,if_pos rfl,hb2];rfl,by simp;rw[q3,hfl1,bk.fl],bk.fb,by simp;omega,fun id hid=> ?_,fun m hm=> ?_,fun m hm=> ?_,fun m hm=> ?_,fun m k hm hk hne i hi=> ?_⟩
   · have hfb':=bk.fb
     have hfl':=bk.fl
     rw[H.dj,if_neg (by omega),q5 id ?_ (by omega),hlo1 id (by omega) (by omega),bk.low id hid]
     intro hi
     rcases bk.own n hn with ⟨e,_⟩|⟨k,e,_,q⟩
     · rw[e]at hi;cases hi
     · rw[e]at hi;cases hi;have:=q.1;omega
   · rw[tP,if_neg (by omega),eC1,tP,zg]
     by_cases e:m=n
     · subst e;rw[if_pos rfl,if_pos ⟨by omega,rfl⟩];simp
     · rw[if_neg (by omega),bk.Jh m hm,if_neg (by omega)];simp
   · have hm32:tP C1 (32+n) v' (32+m)=if m=n then v' else C (32+m):=by
      simp only[tP]
      by_cases e:m=n
      · rw[if_pos (by omega),if_pos e]
      · rw[if_neg (by omega),if_neg e,eC1,tP,if_neg (by omega)]
     rw[hm32,zR]
     by_cases e:m=n
     · subst e
       rw[if_pos rfl,if_pos ⟨by omega,rfl⟩,pC]
       refine q2.mono (by simp) fun i hi=> ?_
       rw[H.dj,if_neg]
       intro e2;subst e2;rw[q6]at hi;cases hi;omega
     · rw[if_neg e,if_neg (by omega),Sf]
       refine(ho1 m hm).mono (by simp;omega) fun i hi=> ?_
       have hlt:=(bk.own m hm).lt hi
       rw[H.dj,if_neg (fun (e2:i=b)=>bk.nb m hm (e2 ▸ hi)),q5 i (bk.KO m n hm hn e i hi) (by omega)]
   · have hm32:tP C1 (32+n) v' (32+m)=if m=n then v' else C (32+m):=by
      simp only[tP]
      by_cases e:m=n
      · rw[if_pos (by omega),if_pos e]
      · rw[if_neg (by omega),if_neg e,eC1,tP,if_neg (by omega)]
     rw[hm32]
     by_cases e:m=n
     · rw[if_pos e,q6];intro e2;cases e2;omega
     · rw[if_neg e];exact bk.nb m hm
   · have hm32:∀m,tP C1 (32+n) v' (32+m)=if m=n then v' else C (32+m):=fun m=>by
      simp only[tP]
      by_cases e:m=n
      · rw[if_pos (by omega),if_pos e]
      · rw[if_neg (by omega),if_neg e,eC1,tP,if_neg (by omega)]
     rw[hm32]at hi ⊢
     by_cases e:m=n
     · rw[if_pos e,q6]at hi
       cases hi
       rw[if_neg (by omega)]
       intro e2;have:=(bk.own k hk).lt e2;omega
     · rw[if_neg e]at hi
       by_cases e3:k=n
       · rw[if_pos e3,q6];intro e2;cases e2;have:=(bk.own m hm).lt hi;omega
       · rw[if_neg e3];exact bk.KO m k hm hk hne i hi
set_option maxHeartbeats 1000000 in
theorem IZ (h0 h:H) (b:Nat) (C:Nat→AV) (p:List Int) (x:AV) (N:Int) (bk:Bk h0 h b C p) (hp:p.length<100000) (hel:∃a,fI 1 x (I p.length)=some a∧∀g:H,(∀id c,h0.get id=some c→g.get id=some c)→bS false 1 a g=some (I 0)) (hN:(p.length:Int)<N):
 aK (aQ AP.A) bu AP.f41L1 [(3,.aC b 0),(10,x),(11,I N),(12,I p.length)] h=some (.normal,[(3,.aC b 0),(10,x),(11,I N),(12,I (p.length+1))],h)∧Bk h0 h b C (p++[0]):=by
 obtain⟨a,ha1,ha2⟩:=hel
 have hlow:∀id c,h0.get id=some c→h.get id=some c:=fun id c q=>by rw[bk.low id (h0.lt id c q)];exact q
 have hld:=ha2 h hlow
 have hw2:IntKind.wrap .i64 ((p.length:Int)+1)=p.length+1:=tw (by omega) (by omega)
 refine⟨?_,⟨bk.get,bk.fl,bk.fb,bk.nx,bk.low,fun n hn=> ?_,fun n hn=> ?_,bk.nb,bk.KO⟩⟩
 · simp only[I]at *
   simp [AP.f41L1,aK,au,aM,ai,ah,ha1,hld,hN,hw2]
 · rw[bk.Jh n hn,zg,if_neg (by omega)];simp
 · have:=bk.own n hn
   rw[zR,if_neg (by omega),Sf];exact this
theorem Ea (h0 : H) (b : Nat) (x : AV) (l : List Int) (hl : l.length < 100000) (hr : ∀ y ∈ l, 0 ≤ y ∧ y < 16) (hx : Rd h0 x (ints l)) : ∀ (m : Nat) (p q : List Int) (C : Nat → AV) (h : H), l = p ++ q → q.length = m → Bk h0 h b C p →
 ∃h' C' e',Lp AP.A [3,10,11,12] AP.f41L1 [(3,.aC b 0),(10,x),(11,I l.length),(12,I p.length)] h=some (.exit 0,e',h')∧look e' 3=.aC b 0∧Bk h0 h' b C' l∧∀i,(i<16∨i=48)→C' i=C i
 | 0, p, [], C, h, hpq, _, bk => by
   refine⟨h,C, ?_⟩
   have:l=p:=by simpa using hpq
   subst this
   refine⟨_,sV (e':=[(3,.aC b 0),(10,x),(11,I l.length),(12,I l.length),(13,.bool false)]) ?_,rfl,bk,fun _ _=>rfl⟩
   simp [AP.f41L1,aK,au,ai,ah,I]
 | m + 1, p, y :: q, C, h, hpq, hm, bk => by
   have hmem:y∈l:=by rw[hpq];simp
   obtain⟨h1,h2⟩:=hr y hmem
   have hget:l[p.length]?=some y:=by rw[hpq];simp
   have hel:=hx.elem (sC hget)
   have hlen:p.length<l.length:=(uD.1 hget).1
   obtain⟨n,rfl⟩:=R4 h1
   have next:∃h' C',aK (aQ AP.A) bu AP.f41L1 [(3,.aC b 0),(10,x),(11,I l.length),(12,I p.length)] h=some (.normal,[(3,.aC b 0),(10,x),(11,I l.length),(12,I (p.length+1))],h')∧Bk h0 h' b C' (p++[(n:Int)])∧∀i,(i<16∨i=48)→C' i=C i:=by
    by_cases hn:n=0
    · subst hn
      have z:=IZ h0 h b C p x l.length bk (by omega) hel (by omega)
      exact⟨h,C,z.1,z.2,fun _ _=>rfl⟩
    · exact IY h0 h b C p n x l.length bk (by omega) (by omega) (by omega) hel (by omega)
   obtain⟨h',C',s1,bk',hC'⟩:=next
   have ih:=Ea h0 b x l hl hr hx m (p++[(n:Int)]) q C' h' (by rw[hpq];simp) (by simpa using hm) bk'
   obtain⟨h2,C2,e2,k1,k2,k3,k4⟩:=ih
   exact⟨h2,C2,e2,sW s1 (by simpa using k1),k2,k3,fun i hi=>by rw[k4 i hi,hC' i hi]⟩
def vo (l:List Int):Nat→Int
 |0=>0
 |n+1=>(vo l n+wM l n)* 2
def vx (l:List Int):Nat→Int
 |0=>1
 |n+1=>vx l n* 2-wM l (n+1)
theorem Bj {l:List Int} (hl:l.length<100000) (n:Nat):0≤vo l n∧vo l n≤200000* 2^n-200000:=by
 induction n with
 |zero=>simp [vo]
 |succ n ih=>have:=z4 l n;simp only[vo,Int.pow_succ];omega
theorem JY {l:List Int} (hl:l.length<100000) (n:Nat): -(200000* 2^n-100000)≤vx l n∧vx l n≤2^n:=by
 induction n with
 |zero=>simp [vx]
 |succ n ih=>have:=z4 l (n+1);simp only[vx,Int.pow_succ];omega
theorem Bz {m:Nat} (hm:m≤15):(2:Int)^m≤32768:=by
 have h:(2:Nat)^m≤2^15:=Se (by omega) hm
 have h2:((2^m:Nat):Int)≤((2^15:Nat):Int):=Int.ofNat_le.2 h
 simpa using h2
theorem Bk.put {h0 h:H} {b:Nat} {C:Nat→AV} {p:List Int} (bk:Bk h0 h b C p) {i:Nat} (hi:i<16∨i=48) (v:AV):Bk h0 (h.set b (nj 49 (tP C i v))) b (tP C i v) p:=by
 have c:∀j,16≤j→j<48→tP C i v j=C j:=fun j h1 h2=>by rw[tP,if_neg (by omega)]
 have hbn:b<h.next:=h.lt _ _ bk.get
 refine⟨by rw[H.dj,if_pos rfl,bk.get];rfl,by simp [bk.fl],bk.fb,by simp [bk.nx],fun id hid=> ?_,fun n hn=> ?_,fun n hn=> ?_,fun n hn=> ?_,fun n m hn hm hne k hk=> ?_⟩
 · have:=bk.fb
   rw[H.dj,if_neg (by omega)];exact bk.low id hid
 · rw[c _ (by omega) (by omega)];exact bk.Jh n hn
 · rw[c _ (by omega) (by omega)]
   refine(bk.own n hn).mono (by simp) fun k hk=> ?_
   rw[H.dj,if_neg];intro (e:k=b);exact bk.nb n hn (e ▸ hk)
 · rw[c _ (by omega) (by omega)];exact bk.nb n hn
 · rw[c _ (by omega) (by omega)]at hk ⊢;exact bk.KO n m hn hm hne k hk
set_option maxHeartbeats 1000000 in
theorem Hl (h0 h:H) (b:Nat) (C:Nat→AV) (l:List Int) (m:Nat) (bk:Bk h0 h b C l) (hl:l.length<100000) (hm:m<15) (hc:C 48=I (vx l m)):
 aK (aQ AP.A) bu AP.f41L0 [(3,.aC b 0),(6,I (vo l m)),(7,I (m+1))] h=
  some (.normal,[(3,.aC b 0),(6,I (vo l (m+1))),(7,I (m+1+1))],(h.set b (nj 49 (tP C (m+1) (I (vo l (m+1)))))).set b (nj 49 (tP (tP C (m+1) (I (vo l (m+1)))) 48 (I (vx l (m+1)))))):=by
 have hp:=Bz (m:=m) (by omega)
 have hf:=Bj hl m
 have hlf:=JY hl m
 have c1:=z4 l m
 have c2:=z4 l (m+1)
 have w1:IntKind.wrap .i64 (m:Int)=m:=tw (by omega) (by omega)
 have w2:IntKind.wrap .i64 (vo l m+wM l m)=vo l m+wM l m:=tw (by omega) (by omega)
 have w3:IntKind.wrap .i64 ((vo l m+wM l m)* 2)=vo l (m+1):=tw (by omega) (by omega)
 have w4:IntKind.wrap .i64 (vx l m* 2)=vx l m* 2:=tw (by omega) (by omega)
 have w5:IntKind.wrap .i64 (vx l m* 2-wM l (m+1))=vx l (m+1):=tw (by omega) (by omega)
 have w6:IntKind.wrap .i64 ((m:Int)+1+1)=m+1+1:=tw (by omega) (by omega)
 have x1:cM (I m) 16=some m:=j4 (by omega)
 have x2:cM (I (m+1)) 16=some (m+1):=j4 (i:=m+1) (by omega)
 have g1:(nj 49 C)[16+m]?=some (I (wM l m)):=by rw[fG (by omega),bk.Jh m (by omega)]
 obtain⟨C1,e1⟩:∃D,D=tP C (m+1) (I (vo l (m+1))):=⟨_,rfl⟩
 have s1:(nj 49 C).set (m+1) (I (vo l (m+1)))=nj 49 C1:=by rw[e1];exact tv (by omega) _
 have g2:(nj 49 C1)[16+(m+1)]?=some (I (wM l (m+1))):=by rw[fG (by omega),e1,tP,if_neg (by omega),bk.Jh (m+1) (by omega)]
 have g3:(nj 49 C1)[48]?=some (I (vx l m)):=by rw[fG (by omega),e1,tP,if_neg (by omega),hc]
 have g4:C1 48=I (vx l m):=by rw[e1,tP,if_neg (by omega),hc]
 have s2:(nj 49 C1).set 48 (I (vx l (m+1)))=nj 49 (tP C1 48 (I (vx l (m+1)))):=tv (by omega) _
 have hfb:h.floor≤b:=by rw[bk.fl];exact bk.fb
 have ge:(h.set b (nj 49 C1)).get b=some (nj 49 C1):=by rw[H.dj,if_pos rfl,bk.get];rfl
 have b1:m+1≤48:=by omega
 have b3:m≤47:=by omega
 have b4:m≤14:=by omega
 have b2:(m:Int)+1≤15:=by omega
 rw[←e1]
 simp only[I]at *
 simp [AP.f41L0,aK,au,aM,ai,ah,bk.get,w1,w2,w3,w4,w5,w6,x1,x2,g1,g2,g3,g4,s1,s2,hfb,ge,b1,b2,b3,b4]
theorem C4 (h0:H) (b:Nat) (l:List Int) (hl:l.length<100000):∀(k m:Nat) (C:Nat→AV) (h:H),m+k=15→Bk h0 h b C l→C 48=I (vx l m)→(∀i,i≤m→C i=I (vo l i))→
 ∃h' C' e',Lp AP.A [3,6,7] AP.f41L0 [(3,.aC b 0),(6,I (vo l m)),(7,I (m+1))] h=some (.exit 2,e',h')∧look e' 3=.aC b 0∧Bk h0 h' b C' l∧C' 48=I (vx l 15)∧∀i,i≤15→C' i=I (vo l i)
 | 0, m, C, h, hk, bk, hc, hf => by
   obtain rfl:m=15:=by omega
   refine⟨h,C,[(3,.aC b 0),(6,I (vo l 15)),(7,I 16),(45,.bool false)],sV ?_,rfl,bk,hc,hf⟩
   have e:((15:Nat):Int)+1=16:=rfl
   rw[e]
   simp [AP.f41L0,aK,au,ai,ah,I]
 | k + 1, m, C, h, hk, bk, hc, hf => by
   have st:=Hl h0 h b C l m bk hl (by omega) hc
   have bk1:=(bk.put (i:=m+1) (.inl (by omega)) (I (vo l (m+1)))).put (i:=48) (.inr rfl) (I (vx l (m+1)))
   obtain⟨h',C',e',k1,k2⟩:=C4 h0 b l hl k (m+1) _ _ (by omega) bk1 (by simp [tP]) (fun i hi=>by
    rw[tP,if_neg (by omega),tP]
    by_cases e:i=m+1
    · rw[if_pos e,e]
    · rw[if_neg e];exact hf i (by omega))
   exact⟨h',C',e',sW st (by simpa using k1),k2⟩
def zc (l:List AV):AV:=if l=[]then .aO else .aU false l 0 l.length 1
def wH (l:List Int):Nat→AV:=fun i=>if i<16 then I (vo l i)else if i<32 then I (wM l (i-16))else if i<48 then zc (ints (syms l (i-32)))else I (vx l 15)
def vB (l:List Int):AV:=.aJ (nj 49 (wH l)) 0
theorem Lm {f:AV→Option AV} {C D:Nat→AV}:∀(n:Nat),(∀i,i<n→f (C i)=some (D i))→fy f (nj n C)=some (nj n D):=by
 have key:∀(l:List Nat),(∀i∈l,f (C i)=some (D i))→fy f (l.map C)=some (l.map D):=by
  intro l
  induction l with
  |nil=>intro _;rfl
  |cons i l ih=>intro h;simp [fy,h i (by simp),ih (fun j hj=>h j (by simp [hj]))]
 exact fun n h=>key _ fun i hi=>h i (List.mem_range.1 hi)
theorem xG (g:Nat→Option (List AV)) (fl n:Nat) (t:Bool):∀l:List Int,fy (snap g fl (n+1) t) (ints l)=some (ints l)
 |[]=>rfl
 | x :: l => by
   have:=xG g fl n t l
   simp only[ints,R5,fy]at this ⊢
   rw[this];rfl
theorem Kq {h:H} {v:AV} {cs:List AV} {fl n:Nat} (o:ni h v cs) (hf:fl≤h.floor) (hm:fy (snap h.get fl (n+1) false) cs=some cs):snap h.get fl (n+2) false v=some (zc cs):=by
 rcases o with ⟨rfl,rfl⟩|⟨id,rfl,hg,hfl,hne⟩
 · rfl
 · have h1:¬id<fl:=by omega
   simp only[snap,if_neg h1,hg,uE,uM,Nat.mul_one,Si,List.take_length,uH,if_true,hm,zc,if_neg hne]
def C0:Nat→AV:=fun i=>if i<32 then I 0 else if i<48 then .aO else I 1
set_option maxHeartbeats 1000000 in
theorem zr (h : H) (x : AV) (l : List Int) (hl : l.length < 100000) (hr : ∀ y ∈ l, 0 ≤ y ∧ y < 16) (hx : Rd h x (ints l)) : aQ AP.A 41 [x] h = some (vB l, h) := by
 have hb0:Bk h (h.dL.alloc (nj 49 C0)) h.next C0 []:=by
  refine⟨by simp [H.aV],by simp,uH _,by simp,fun id hid=> ?_,fun n hn=> ?_,fun n hn=> ?_,fun n hn=> ?_,fun n m hn hm hne i hi=> ?_⟩
  · rw[H.aV,if_neg (by simp;omega)];rfl
  · simp only[C0,wM,List.countP_nil];rw[if_pos (by omega)];simp
  · simp only[C0];rw[if_neg (by omega),if_pos (by omega)]
    exact .inl ⟨rfl,by unfold syms;split<;>rfl⟩
  · simp only[C0];rw[if_neg (by omega),if_pos (by omega)];exact nofun
  · simp only[C0]at hi;rw[if_neg (by omega),if_pos (by omega)]at hi;cases hi
 obtain⟨h1,D1,e1,k1,k2,bk1,k3⟩:=Ea h h.next x l hl hr hx l.length [] l C0 _ rfl rfl hb0
 obtain⟨h2,D2,e2,k4,k5,bk2,k6,k7⟩:=C4 h h.next l hl 15 0 D1 h1 rfl bk1 (by rw[k3 48 (.inr rfl)];rfl) (fun i hi=>by
  obtain rfl:i=0:=by omega
  rw[k3 0 (.inl (by omega))];rfl)
 have kx:aK (aQ AP.A) bu AP.f41.body (params 0 [x]) h.dL=some (.ret,[(2,.aC h.next 0)],h2):=by
  unfold AP.f41
  refine ub (e1:=[(0,x)]) (h1:=h.dL) rfl ?_
  refine ub (e1:=[(0,x),(3,.aC h.next 0)]) (h1:=h.dL.alloc (nj 49 C0)) rfl ?_
  refine ub (e1:=[(3,.aC h.next 0)]) (h1:=h1) ?_ ?_
  · refine ub (e1:=[(3,.aC h.next 0),(10,x),(11,I l.length),(12,I 0)]) (h1:=h.dL.alloc (nj 49 C0)) ?_ ?_
    · simp [aK,au,ai,ah,hx.len,I]
    · have:=pX (k:=[3]) k1
      simp only[qS,ry,k2]at this
      exact this
  refine ub (e1:=[(3,.aC h.next 0),(6,I 0)]) (h1:=h1) rfl ?_
  refine ub (e1:=[(3,.aC h.next 0)]) (h1:=h2) ?_ ?_
  · refine ub (e1:=[(3,.aC h.next 0),(6,I 0),(7,I 1)]) (h1:=h1) rfl ?_
    have:=pX (k:=[3]) k4
    simp only[qS,ry,k5]at this
    exact this
  exact ub (e1:=[(2,.aC h.next 0)]) (h1:=h2) rfl rfl
 have hsn:snap h2.get h.next 16 true (.aC h.next 0)=some (vB l):=by
  have hm:fy (snap h2.get h.next 15 false) (nj 49 D2)=some (nj 49 (wH l)):=by
   refine Lm 49 fun i hi=> ?_
   by_cases c1:i<16
   · rw[k7 i (by omega),wH,if_pos c1];rfl
   by_cases c2:i<32
   · have:=bk2.Jh (i-16) (by omega)
     rw[show 16+(i-16)=i by omega]at this
     rw[this,wH,if_neg c1,if_pos c2];rfl
   by_cases c3:i<48
   · have:=bk2.own (i-32) (by omega)
     rw[show 32+(i-32)=i by omega]at this
     rw[wH,if_neg c1,if_neg c2,if_pos c3]
     exact Kq (n:=13) this (by rw[bk2.fl];exact uH _) (xG _ _ _ _ _)
   · obtain rfl:i=48:=by omega
     rw[k6,wH,if_neg c1,if_neg c2,if_neg c3];rfl
  simp only[snap,if_neg (Nat.lt_irrefl _),bk2.get,uE,hm,vB]
 exact tL (fn:=AP.f41) rfl rfl rfl kx rfl hsn
theorem ye (w n:Nat) (h:n<2^w):(BitVec.ofInt w (n:Int)).toNat=n:=by
 rw[BitVec.ofInt_natCast,BitVec.toNat_ofNat,Nat.mod_eq_of_lt h]
theorem ve {n:Nat} (h:n<9223372036854775808):IntKind.wrap .i64 (n:Int)=n:=tw (by omega) (by omega)
theorem wrap_u8 {n:Nat} (h:n<256):IntKind.wrap .u8 (n:Int)=n:=by
 have e:IntKind.wrap .u8 (n:Int)=(n:Int)%256:=by simp [IntKind.wrap,IntKind.bits,IntKind.signed]
 rw[e];omega
theorem KY {a b:Nat} (ha:a<9223372036854775808) (hb:b<9223372036854775808):bits .or .i64 (a:Int) (b:Int)=((a|||b:Nat):Int):=by
 have h1:a<2^63:=by simpa using ha
 have h2:b<2^63:=by simpa using hb
 have h3:a|||b<2^63:=Nat.or_lt_two_pow h1 h2
 show IntKind.wrap .i64 (((BitVec.ofInt 64 (a:Int)|||BitVec.ofInt 64 (b:Int)).toNat:Nat):Int)=_
 rw[BitVec.toNat_or,ye 64 a (by omega),ye 64 b (by omega)]
 exact ve (by simpa using h3)
theorem IA {a b:Nat} (ha:a<256) (hb:b<256):bits .and .u8 (a:Int) (b:Int)=((a&&&b:Nat):Int):=by
 have h3:a&&&b<2^8:=Nat.and_lt_two_pow _ (by simpa using hb)
 show IntKind.wrap .u8 (((BitVec.ofInt 8 (a:Int)&&&BitVec.ofInt 8 (b:Int)).toNat:Nat):Int)=_
 rw[BitVec.toNat_and,ye 8 a (by omega),ye 8 b (by omega)]
 exact wrap_u8 (by simpa using h3)
theorem J5 {x b i:Nat} (hx:x<2^i):x|||b* 2^i=x+b* 2^i:=by
 have:=Nat.two_pow_add_eq_or_of_lt hx b
 rw[Nat.or_comm,Nat.mul_comm b,←this,Nat.add_comm]
@[simp] theorem Jo {k j : IntKind} {a b : Int} : bn .shr (.int k a) (.int j b) = oW .shr k a b := rfl
@[simp] theorem Jn {k j : IntKind} {a b : Int} : bn .shl (.int k a) (.int j b) = oW .shl k a b := rfl
attribute [go_sem] Jn Jo
theorem Oz {a s:Nat} (hs:s≤8):oW .shr .u8 (a:Int) (s:Int)=some (.int .u8 ((a/2^s:Nat):Int)):=by
 unfold oW
 rw[if_neg (by omega)]
 simp only[IntKind.bits,Int.toNat_natCast,Nat.min_eq_left hs]
 congr 2
 rw[Int.fdiv_eq_ediv_of_nonneg _ (Int.pow_nonneg (by omega))]
 simp
theorem Ba {a s:Nat} (hs:s≤64) (h:a* 2^s<9223372036854775808):oW .shl .i64 (a:Int) (s:Int)=some (.int .i64 ((a* 2^s:Nat):Int)):=by
 unfold oW
 rw[if_neg (by omega)]
 simp only[IntKind.bits,Int.toNat_natCast,Nat.min_eq_left hs]
 congr 2
 rw[←ve h];simp
def wZ (s:ByteArray) (p:Nat):Nat:=((s[p/8]?).map (·.toNat)).getD 0/2^(p%8)%2
theorem Fy (s:ByteArray) (p:Nat):wZ s p≤1:=by unfold wZ;omega
def vg (s:ByteArray) (p:Nat):Nat→Nat
 |0=>0
 |n+1=>vg s p n+wZ s (p+n)* 2^n
theorem wL (s:ByteArray) (p:Nat):∀n,vg s p n<2^n
 |0=>by simp [vg]
 | n + 1 => by
   have h:=wL s p n
   have b:=Fy s (p+n)
   have hb:wZ s (p+n)=0∨wZ s (p+n)=1:=by omega
   rw[vg,Nat.pow_succ]
   rcases hb with hb|hb<;>rw[hb]<;>omega
theorem zE (l:List Int) (n:Nat):(syms l n).length=wM l n:=by
 have key:∀(l:List Int) (k:Nat),((l.zipIdx k).filterMap fun p=>if p.1=(n:Int)then some (p.2:Int)else none).length=l.countP (fun x=>x==(n:Int)):=by
  intro l
  induction l with
  |nil=>intro k;rfl
  | cons x l ih =>
    intro k
    rw[List.zipIdx_cons,List.filterMap_cons,List.countP_cons]
    by_cases h:x=(n:Int)
    · simp only[if_pos h,RX,ih (k+1)];simp [h]
    · simp only[if_neg h,ih (k+1)];simp [h]
 unfold syms wM
 split
 · rfl
 · exact key l 0
def xD (l:List Int) (n:Nat) (v:Int):Option Int:=if vo l n≤v then(syms l n)[(v-vo l n).toNat]? else none
set_option maxHeartbeats 1000000 in
theorem Nl (h:H) (l:List Int) (hl:l.length<100000) (n:Nat) (hn1:1≤n) (hn:n≤15) (v:Int) (hv0:0≤v) (hv:v<1000000):
 aQ AP.A 72 [vB l,I n,I v] h=some (match xD l n v with|some y=>.bO [I y,.bool true]|none=>.bO [I 0,.bool false],h):=by
 have hp:=Bz hn
 have hf:=Bj hl n
 have hc:=z4 l n
 have hsc:=zE l n
 have c1:¬((n:Int)<1):=by omega
 have c2:¬(15:Int)<n:=by omega
 have a1:cM (I n) 16=some n:=j4 (by omega)
 have e1:wH l n=I (vo l n):=by rw[wH,if_pos (by omega)]
 have e2:wH l (16+n)=I (wM l n):=by rw[wH,if_neg (by omega),if_pos (by omega),show 16+n-16=n by omega]
 have e3:wH l (32+n)=zc (ints (syms l n)):=by rw[wH,if_neg (by omega),if_neg (by omega),if_pos (by omega),show 32+n-32=n by omega]
 have g1:(nj 49 (wH l))[n]?=some (I (vo l n)):=by rw[fG (by omega),e1]
 have g2:(nj 49 (wH l))[16+n]?=some (I (wM l n)):=by rw[fG (by omega),e2]
 have g3:(nj 49 (wH l))[32+n]?=some (zc (ints (syms l n))):=by rw[fG (by omega),e3]
 have hb:vB l=.aJ (nj 49 (wH l)) 0:=rfl
 rw[hb]
 clear hb e1 e2 e3
 generalize nj 49 (wH l)=T at g1 g2 g3 ⊢
 by_cases k1:v<vo l n
 · have:xD l n v=none:=by rw[xD,if_neg (by omega)]
   rw[this]
   refine tq (fn:=AP.f72) (e:=[(6,I 0),(7,.bool false)]) rfl rfl rfl ?_ rfl
   simp only[I]at *
   simp only[AP.f72,go_sem,R0 c1,R0 c2,a1,g1,R2 k1]
 have w1:IntKind.wrap .i64 (v-vo l n)=v-vo l n:=tw (by omega) (by omega)
 by_cases k2:(wM l n:Int)≤v-vo l n
 · have:xD l n v=none:=by rw[xD,if_pos (by omega),Sa (by omega)]
   rw[this]
   refine tq (fn:=AP.f72) (e:=[(6,I 0),(7,.bool false)]) rfl rfl rfl ?_ rfl
   simp only[I]at *
   simp only[AP.f72,go_sem,R0 c1,R0 c2,a1,g1,g2,R0 k1,w1,R2 k2]
 · obtain⟨i,hi⟩:∃i:Nat,v-vo l n=i:=R4 (by omega)
   have hil:i<(syms l n).length:=by omega
   obtain⟨y,hy⟩:∃y,(syms l n)[i]?=some y:=⟨_,RY hil⟩
   have:xD l n v=some y:=by rw[xD,if_pos (by omega),hi,Int.toNat_natCast,hy]
   rw[this]
   have hne:ints (syms l n)≠[]:=by intro e;have:=Sp List.length e;simp at this;simp [this]at hil
   have hs:zc (ints (syms l n))=.aU false (ints (syms l n)) 0 (ints (syms l n)).length 1:=by rw[zc,if_neg hne]
   rw[hs]at g3
   have a2:fI 1 (.aU false (ints (syms l n)) 0 (ints (syms l n)).length 1) (I i)=some (.aJ (ints (syms l n)) i):=by
    simp [fI,j4 (show i<(syms l n).length from hil)]
   have g4:=sC hy
   rw[hi]at w1 k2
   refine tq (fn:=AP.f72) (e:=[(6,I y),(7,.bool true)]) rfl rfl rfl ?_ rfl
   simp only[I]at *
   simp only[AP.f72,go_sem,R0 c1,R0 c2,a1,g1,g2,R0 k1,hi,w1,R0 k2,g3,a2,g4]
attribute [local congr] sX
theorem yO (a b:Nat):Int.tdiv (a:Int) (b:Int)=((a/b:Nat):Int):=by simp
theorem Dr (a b:Nat):Int.tmod (a:Int) (b:Int)=((a%b:Nat):Int):=by rw[Int.tmod_eq_emod_of_nonneg (by omega)];simp
theorem K2 {s:ByteArray} {i:Nat} (h:i<s.size):∃b:UInt8,s[i]?=some b:=⟨s[i],by simp [h]⟩
set_option maxHeartbeats 1000000 in
theorem JQ (h:H) (r:Nat) (s:ByteArray) (p x i n:Nat) (hg:h.get r=some [.str s,I p]) (hf:h.floor≤r) (hp:p<8* s.size) (hs:s.size<1125899906842624) (hx:x<2^i) (hi:i<n) (hn:n≤16):
 aK (aQ AP.A) bu AP.f58L0 [(0,.aC r 0),(6,I x),(32,I n),(33,I i)] h=some (.normal,[(0,.aC r 0),(6,I (x+wZ s p* 2^i:Nat)),(32,I n),(33,I (i+1:Nat))],h.set r [.str s,I (p+1:Nat)]):=by
 obtain⟨b,hb⟩:=K2 (s:=s) (i:=p/8) (by omega)
 have hb8:b.toNat<256:=b.toNat_lt
 have hbit:wZ s p=b.toNat/2^(p%8)%2:=by simp [wZ,hb]
 have t1:Int.tdiv (p:Int) 8=((p/8:Nat):Int):=yO p 8
 have t2:Int.tmod (p:Int) 8=((p%8:Nat):Int):=Dr p 8
 have w1:IntKind.wrap .i64 ((p/8:Nat):Int)=((p/8:Nat):Int):=ve (by omega)
 have a1:cM (I (p/8:Nat)) s.size=some (p/8):=j4 (by omega)
 have s1:oW .shr .u8 (b.toNat:Int) ((p%8:Nat):Int)=some (.int .u8 ((b.toNat/2^(p%8):Nat):Int)):=Oz (by omega)
 have hlt:b.toNat/2^(p%8)<256:=Nat.lt_of_le_of_lt (Nat.div_le_self _ _) hb8
 have n1:bits .and .u8 ((b.toNat/2^(p%8):Nat):Int) 1=((wZ s p:Nat):Int):=by
  have:=IA (b:=1) hlt (by omega)
  rw[Nat.and_one_is_mod]at this
  rw[hbit];exact this
 have hbl:=Fy s p
 have w2:IntKind.wrap .i64 ((wZ s p:Nat):Int)=((wZ s p:Nat):Int):=ve (by omega)
 have hpow:(2:Nat)^i≤2^16:=Se (by omega) (by omega)
 have hmul:wZ s p* 2^i≤2^i:=by
  have:=uK (2^i) hbl;simpa using this
 have s2:oW .shl .i64 ((wZ s p:Nat):Int) (i:Int)=some (.int .i64 ((wZ s p* 2^i:Nat):Int)):=Ba (by omega) (by omega)
 have o1:bits .or .i64 (x:Int) ((wZ s p* 2^i:Nat):Int)=((x+wZ s p* 2^i:Nat):Int):=by
  rw[KY (by omega) (by omega),J5 hx]
 have w3:IntKind.wrap .i64 ((p:Int)+1)=((p+1:Nat):Int):=ve (n:=p+1) (by omega)
 have w4:IntKind.wrap .i64 ((i:Int)+1)=((i+1:Nat):Int):=ve (n:=i+1) (by omega)
 generalize hB:wZ s p=B at *
 generalize hD:b.toNat/2^(p%8)=D at *
 generalize hE:p/8=E at *
 generalize hF:p%8=F at *
 generalize hO:x+B* 2^i=O at *
 generalize hM:B* 2^i=W at *
 simp only[I]at *
 simp [AP.f58L0,aK,au,aM,ai,ah,hg,rH,rI,t1,t2,w1,lS,a1,hb,s1,n1,w2,s2,o1,w3,w4,hi,hf]
theorem FU (r:Nat) (s:ByteArray) (p n:Nat) (hs:s.size<1125899906842624) (hp:p+n≤8* s.size) (hn:n≤16):∀(k i:Nat) (h:H),i+k=n→h.get r=some [.str s,I (p+i:Nat)]→h.floor≤r→
 ∃e',Lp AP.A [0,6,32,33] AP.f58L0 [(0,.aC r 0),(6,I (vg s p i:Nat)),(32,I n),(33,I i)] h=some (.exit 1,e',h.set r [.str s,I (p+n:Nat)])∧look e' 6=I (vg s p n:Nat)
 | 0, i, h, hk, hg, hf => by
   obtain rfl:i=n:=by omega
   refine⟨[(0,.aC r 0),(6,I (vg s p i:Nat)),(32,I i),(33,I i),(34,.bool false)],sV ?_,rfl⟩
   rw[H.js hg]
   simp [AP.f58L0,aK,au,ai,ah,I]
 | k + 1, i, h, hk, hg, hf => by
   have st:=JQ h r s (p+i) (vg s p i) i n hg hf (by omega) hs (wL s p i) (by omega) hn
   obtain⟨e',k1,k2⟩:=FU r s p n hs hp hn k (i+1) (h.set r [.str s,I (p+i+1:Nat)]) (by omega) (by rw[H.dj,if_pos rfl,hg];rfl) (by simpa using hf)
   rw[H.set_set]at k1
   exact⟨e',sW st k1,k2⟩
theorem Oe (h:H) (r:Nat) (s:ByteArray) (p n:Nat) (hg:h.get r=some [.str s,I p]) (hf:h.floor≤r) (hs:s.size<1125899906842624) (hp:p+n≤8* s.size) (hn:n≤16):
 aQ AP.A 58 [.aC r 0,I n] h=some (.bO [I (vg s p n:Nat),I 0],h.set r [.str s,I (p+n:Nat)]):=by
 obtain⟨e',k1,k2⟩:=FU r s p n hs hp hn n 0 h (by omega) hg hf
 have l1:=pX (k:=[6]) k1
 simp only[qS,ry,k2]at l1
 have c0:¬(n:Int)<0:=by omega
 have c1:¬(16:Int)<n:=by omega
 have w1:IntKind.wrap .i64 (8* (s.size:Int))=((8* s.size:Nat):Int):=ve (n:=8* s.size) (by omega)
 have w2:IntKind.wrap .i64 (((8* s.size:Nat):Int)-p)=((8* s.size-p:Nat):Int):=by
  rw[←Int.ofNat_sub (by omega)];exact ve (by omega)
 have c2:¬((8* s.size-p:Nat):Int)<n:=by omega
 refine tq (fn:=AP.f58) (e:=[(4,I (vg s p n:Nat)),(5,I 0)]) rfl rfl rfl ?_ rfl
 unfold AP.f58
 refine ub (e1:=[(0,.aC r 0),(1,I n)]) (h1:=h) rfl ?_
 refine ub (e1:=[(0,.aC r 0),(1,I n)]) (h1:=h) ?_ ?_
 · generalize hM:8* s.size-p=W at *
   generalize hM2:8* s.size=W2 at *
   simp only[I]at *
   simp [aK,au,aM,ai,ah,fw,pb,hg,iP,w1,w2,c0,c1,c2]
 refine ub (e1:=[(0,.aC r 0),(1,I n),(6,I 0)]) (h1:=h) rfl ?_
 refine ub (e1:=[(6,I (vg s p n:Nat))]) (h1:=h.set r [.str s,I (p+n:Nat)]) ?_ ?_
 · refine ub (e1:=[(0,.aC r 0),(6,I 0),(32,I n),(33,I 0)]) (h1:=h) rfl ?_
   exact l1
 exact ub (e1:=[(4,I (vg s p n:Nat)),(5,I 0)]) (h1:=h.set r [.str s,I (p+n:Nat)]) rfl rfl
theorem Lg (h:H) (r:Nat) (s:ByteArray) (p n:Nat) (hg:h.get r=some [.str s,I p]) (hs:s.size<1125899906842624) (hp0:p≤8* s.size) (hp:8* s.size<p+n) (hn:n≤16):
 aQ AP.A 58 [.aC r 0,I n] h=some (.bO [I 0,I 101],h):=by
 have c0:¬(n:Int)<0:=by omega
 have c1:¬(16:Int)<n:=by omega
 have w1:IntKind.wrap .i64 (8* (s.size:Int))=((8* s.size:Nat):Int):=ve (n:=8* s.size) (by omega)
 have w2:IntKind.wrap .i64 (((8* s.size:Nat):Int)-p)=((8* s.size-p:Nat):Int):=by
  rw[←Int.ofNat_sub (by omega)];exact ve (by omega)
 have c2:((8* s.size-p:Nat):Int)<n:=by omega
 refine tq (fn:=AP.f58) (e:=[(4,I 0),(5,I 101)]) rfl rfl rfl ?_ rfl
 unfold AP.f58
 refine ub (e1:=[(0,.aC r 0),(1,I n)]) (h1:=h) rfl ?_
 refine uc ?_
 generalize hM:8* s.size-p=W at *
 generalize hM2:8* s.size=W2 at *
 simp only[I]at *
 simp [aK,au,aM,ai,ah,fw,pb,hg,iP,w1,w2,c0,c1,c2]
attribute [local congr] sX
theorem vW {A:a9} {f:Nat} {fn:eZ} {args:List AV} {h h2:H} {e:Env} {vs:List AV} (hf:A f=some fn) (hnp:args.length=fn.np) (hp:fn.pure=false)
 (hx:aK (aQ A) bu fn.body (params 0 args) h=some (.normal,e,h2)) (hres:cu e h2 fn.res=some vs):aQ A f args h=some (de vs,h2):=by
 refine j9 hf ?_
 unfold eX
 rw[if_pos hnp]
 simp [hp,hx,fin,hres]
def xO (l:List Nat):List AV:=l.map fun (b:Nat)=>AV.int .u8 (b:Int)
@[simp] theorem yT (l : List Nat) : (xO l).length = l.length := by simp [xO]
structure SS where
 at_:Nat
 out:List Nat
 e:Int
structure SC where
 s:Nat
 r:Nat
 text:ByteArray
 most:Int
structure St (c:SC) (S:SS) (h:H) (ov:AV):Prop where
 gs:h.get c.s=some [.aC c.r 0,ov,I c.most,I S.e]
 gr:h.get c.r=some [.str c.text,I S.at_]
 own:ni h ov (xO S.out)
 sr:c.s≠c.r
 fs:h.floor≤c.s
 fr:h.floor≤c.r
 os:ov.id?≠some c.s
 or:ov.id?≠some c.r
 nx:h.floor≤h.next
 sz:c.text.size<1125899906842624
 yC:S.at_≤8* c.text.size
 ol:(S.out.length:Int)≤c.most
 ml:c.most≤900000
structure Fr (c:SC) (h:H) (ov:AV) (h':H) (ov':AV):Prop where
 fl:h'.floor=h.floor
 nx:h.next≤h'.next
 GV:∀id,id<h.next→id≠c.s→id≠c.r→ov.id?≠some id→h'.get id=h.get id
 nb:∀i,ov'.id?=some i→ov.id?=some i∨h.next≤i
theorem Fr.refl (c:SC) (h:H) (ov:AV):Fr c h ov h ov:=⟨rfl,uH _,fun _ _ _ _ _=>rfl,fun _ q=>.inl q⟩
theorem Fr.trans {c:SC} {h1 h2 h3:H} {o1 o2 o3:AV} (a:Fr c h1 o1 h2 o2) (b:Fr c h2 o2 h3 o3):Fr c h1 o1 h3 o3:=by
 refine⟨b.fl.trans a.fl,uZ a.nx b.nx,fun id h4 h5 h6 h7=> ?_,fun i hi=> ?_⟩
 · rw[b.GV id (Nat.lt_of_lt_of_le h4 a.nx) h5 h6 (fun q=> ?_),a.GV id h4 h5 h6 h7]
   rcases a.nb id q with q|q
   · exact h7 q
   · omega
 · rcases b.nb i hi with q|q
   · exact a.nb i q
   · exact .inr (uZ a.nx q)
theorem St.Qm {c:SC} {S:SS} {h:H} {ov:AV} (st:St c S h ov) (e:Int):St c {S with e:=e} (h.set c.s [.aC c.r 0,ov,I c.most,I e]) ov∧Fr c h ov (h.set c.s [.aC c.r 0,ov,I c.most,I e]) ov:=by
 refine⟨⟨by rw[H.dj,if_pos rfl,st.gs];rfl,by rw[H.dj,if_neg (Ne.symm st.sr)];exact st.gr,st.own.mono (by simp) fun i hi=> ?_,st.sr,by simpa using st.fs,by simpa using st.fr,st.os,st.or,by simpa using st.nx,st.sz,st.yC,st.ol,st.ml⟩,⟨by simp,by simp,fun id h1 h2 h3 h4=>by rw[H.dj,if_neg h2],fun _ q=>.inl q⟩⟩
 rw[H.dj,if_neg];intro (e:i=c.s);exact st.os (e ▸ hi)
theorem St.Oy {c:SC} {S:SS} {h:H} {ov:AV} (st:St c S h ov) {p:Nat} (hp:p≤8* c.text.size):St c {S with at_:=p} (h.set c.r [.str c.text,I p]) ov∧Fr c h ov (h.set c.r [.str c.text,I p]) ov:=by
 refine⟨⟨by rw[H.dj,if_neg st.sr];exact st.gs,by rw[H.dj,if_pos rfl,st.gr];rfl,st.own.mono (by simp) fun i hi=> ?_,st.sr,by simpa using st.fs,by simpa using st.fr,st.os,st.or,by simpa using st.nx,st.sz,hp,st.ol,st.ml⟩,⟨by simp,by simp,fun id h1 h2 h3 h4=>by rw[H.dj,if_neg h3],fun _ q=>.inl q⟩⟩
 rw[H.dj,if_neg];intro (e:i=c.r);exact st.or (e ▸ hi)
def vF (k:Int) (S:SS):SS:=if S.e=0 then {S with e:=k}else S
theorem xg {c:SC} {S:SS} {h:H} {ov:AV} (st:St c S h ov) (k:Int):∃h',aQ AP.A 45 [.aC c.s 0,I k] h=some (.bO [],h')∧St c (vF k S) h' ov∧Fr c h ov h' ov:=by
 have gs:=st.gs
 have fs:=st.fs
 by_cases he:S.e=0
 · refine⟨_, ?_,by rw[vF,if_pos he];exact(st.Qm k).1,(st.Qm k).2⟩
   refine vW (fn:=AP.f45) (e:=[]) rfl rfl rfl ?_ rfl
   simp only[I]at *
   simp [AP.f45,params,aK,au,ai,ah,gs,he,fs]
 · refine⟨h, ?_,by rw[vF,if_neg he];exact st,Fr.refl _ _ _⟩
   refine vW (fn:=AP.f45) (e:=[]) rfl rfl rfl ?_ rfl
   simp only[I]at *
   simp [AP.f45,params,aK,au,ai,ah,gs,he,fs]
def vh (c:SC) (n:Nat) (S:SS):Nat×SS:=if S.at_+n≤8* c.text.size then(vg c.text S.at_ n,{S with at_:=S.at_+n})else(0,vF 700 S)
theorem JP {c:SC} {S:SS} {h:H} {ov:AV} (st:St c S h ov) {n:Nat} (hn:n≤16):∃h',aQ AP.A 38 [.aC c.s 0,I n] h=some (I ((vh c n S).1:Nat),h')∧St c (vh c n S).2 h' ov∧Fr c h ov h' ov:=by
 have gs:=st.gs
 by_cases hp:S.at_+n≤8* c.text.size
 · have g:=Oe h c.r c.text S.at_ n st.gr st.fr st.sz hp hn
   refine⟨_, ?_,by rw[vh,if_pos hp];exact(st.Oy hp).1,(st.Oy hp).2⟩
   rw[vh,if_pos hp]
   refine tq (fn:=AP.f38) (e:=[(4,I (vg c.text S.at_ n:Nat))]) rfl rfl rfl ?_ rfl
   simp only[I]at *
   simp [AP.f38,params,aK,au,ai,ah,gs,aW,g]
 · have g:=Lg h c.r c.text S.at_ n st.gr st.sz st.yC (by omega) hn
   obtain⟨h',k1,k2,k3⟩:=xg st 700
   refine⟨h', ?_,by rw[vh,if_neg hp];exact k2,k3⟩
   rw[vh,if_neg hp]
   refine tq (fn:=AP.f38) (e:=[(4,I 0)]) rfl rfl rfl ?_ rfl
   simp only[I]at *
   simp [AP.f38,params,aK,au,ai,ah,gs,aW,g,k1]
def Dd (c:SC) (b:Nat) (S:SS):SS:=
 let T:=if c.most≤S.out.length then vF 701 S else S
 if T.e=0 then {T with out:=T.out++[b]}else T
theorem ni.len {h:H} {v:AV} {cs:List AV} (o:ni h v cs):iP false v=some (I cs.length):=by
 rcases o with ⟨rfl,rfl⟩|⟨id,rfl,_⟩<;>rfl
theorem Kf {c : SC} {S : SS} {h : H} {ov : AV} (st : St c S h ov) {b : Nat} : ∃ h' ov', aQ AP.A 59 [.aC c.s 0, .int .u8 b] h = some (.bO [], h') ∧ St c (Dd c b S) h' ov' ∧ Fr c h ov h' ov' := by
 have gs0:=st.gs
 have hol:=st.ol
 have hml:=st.ml
 have ln:=st.own.len
 rw[yT]at ln
 by_cases hm:c.most≤S.out.length
 · obtain⟨h1,k1,k2,k3⟩:=xg st 701
   have he:(vF 701 S).e≠0:=by unfold vF;split<;>simp_all
   have hp:Dd c b S=vF 701 S:=by unfold Dd;simp only[if_pos hm,if_neg he]
   have gs1:=k2.gs
   refine⟨h1,ov, ?_,by rw[hp];exact k2,k3⟩
   refine vW (fn:=AP.f59) (e:=[]) rfl rfl rfl ?_ rfl
   simp only[I]at *
   simp [AP.f59,params,aK,au,aM,ai,ah,gs0,ln,hm,aW,k1,gs1,he]
 by_cases he:S.e=0
 · have hp:Dd c b S={S with out:=S.out++[b]}:=by unfold Dd;simp only[if_neg hm,if_pos he]
   have hsl:c.s<h.next:=h.lt _ _ st.gs
   have hrl:c.r<h.next:=h.lt _ _ st.gr
   obtain⟨h1,eh1⟩:∃g,g=h.alloc [.int .u8 b]:=⟨_,rfl⟩
   have hlo1:∀i,i≠h.next→h1.get i=h.get i:=fun i q=>by rw[eh1,H.aV,if_neg q]
   have hfl1:h1.floor=h.floor:=by rw[eh1];simp
   have hnx1:h1.next=h.next+1:=by rw[eh1];simp
   have ho1:ni h1 ov (xO S.out):=st.own.mono hfl1 fun i hi=>hlo1 i (by have:=st.own.lt hi;omega)
   have hnxf:=st.nx
   obtain⟨v',h2,q1,q2,q3,q4,q5,q6⟩:=ho1.app (by omega) (z:=1) (.int .u8 b) rfl (by simp [roomy];omega)
   have hal2:h1.get h.next=some [.int .u8 b]:=by rw[eh1,H.aV,if_pos rfl]
   have gs1:h1.get c.s=some [.aC c.r 0,ov,I c.most,I S.e]:=by rw[hlo1 _ (by omega)];exact st.gs
   have gs2:h2.get c.s=some [.aC c.r 0,ov,I c.most,I S.e]:=by rw[q5 _ st.os (by omega)];exact gs1
   have gr2:h2.get c.r=some [.str c.text,I S.at_]:=by rw[q5 _ st.or (by omega),hlo1 _ (by omega)];exact st.gr
   have fs2:h2.floor≤c.s:=by have:=st.fs;omega
   have hv':v'.cells=[v']∧v'.sc=true:=by
    rcases q2 with ⟨rfl,_⟩|⟨id,rfl,_⟩<;>exact⟨rfl,rfl⟩
   have hby:xO (S.out++[b])=xO S.out++[.int .u8 b]:=by simp [xO]
   refine⟨h2.set c.s [.aC c.r 0,v',I c.most,I S.e],v', ?_, ?_, ?_⟩
   · refine vW (fn:=AP.f59) (e:=[]) rfl rfl rfl ?_ rfl
     simp only[I]at *
     simp [AP.f59,params,aK,au,aM,ai,ah,bq,aX,dE,dM,kq,aR,gs0,ln,hm,he,←eh1,hal2,gs1,q1,gs2,fs2,hv'.1,hv'.2]
   · rw[hp]
     refine⟨by rw[H.dj,if_pos rfl,gs2];rfl,by rw[H.dj,if_neg (Ne.symm st.sr)];exact gr2, ?_,st.sr,by simpa using fs2,by have:=st.fr;simp;omega, ?_, ?_,by simp;omega,st.sz,st.yC,by simp;omega,st.ml⟩
     · rw[hby]
       refine q2.mono (by simp) fun i hi=> ?_
       rw[q6]at hi;cases hi
       rw[H.dj,if_neg (by omega)]
     · rw[q6];intro e;have:=uv e;omega
     · rw[q6];intro e;have:=uv e;omega
   · refine⟨by simp;omega,by simp;omega,fun id a1 a2 a3 a4=> ?_,fun i hi=> ?_⟩
     · rw[H.dj,if_neg a2,q5 id a4 (by omega),hlo1 id (by omega)]
     · rw[q6]at hi;cases hi;right;omega
 · have hp:Dd c b S=S:=by unfold Dd;simp only[if_neg hm,if_neg he]
   refine⟨h,ov, ?_,by rw[hp];exact st,Fr.refl _ _ _⟩
   refine vW (fn:=AP.f59) (e:=[]) rfl rfl rfl ?_ rfl
   simp only[I]at *
   simp [AP.f59,params,aK,au,aM,ai,ah,gs0,ln,hm,he]
theorem QG (h:H) (s:ByteArray):aQ AP.A 14 [.str s] h=some (.aC h.next 0,h.alloc [.str s,I 0]):=by
 refine tq (fn:=AP.f14) (e:=[(2,.aC h.next 0)]) rfl rfl rfl ?_ rfl
 have b:aX [(4,.agg [.str s,I 0]),(3,.str s),(0,.str s)] (.box 2 (.t 4))=some ([.str s,I 0],fun i=>.aC i 0):=rfl
 have f:dM [.str ⟨#[]⟩,.int .i64 0] [(0,1,.str s)]=some [.str s,I 0]:=rfl
 simp only[I]at *
 simp only[AP.f14,go_sem,R5,SD,f,b]
theorem KV (h:H) (r:Nat) (s:ByteArray) (p:Nat) (hg:h.get r=some [.str s,I p]) (hf:h.floor≤r) (hs:s.size<1125899906842624) (hp:p≤8* s.size):
 aQ AP.A 16 [.aC r 0] h=some (I 0,h.set r [.str s,I ((p+7)/8* 8:Nat)]):=by
 refine tq (fn:=AP.f16) (e:=[(2,I 0)]) rfl rfl rfl ?_ rfl
 have w1:IntKind.wrap .i64 ((p:Int)+8)=((p+8:Nat):Int):=ve (n:=p+8) (by omega)
 have w2:IntKind.wrap .i64 (((p+8:Nat):Int)-1)=((p+7:Nat):Int):=by
  rw[show((p+8:Nat):Int)-1=((p+7:Nat):Int)by omega];exact ve (by omega)
 have w3:IntKind.wrap .i64 (((p+7:Nat):Int).tdiv 8)=(((p+7)/8:Nat):Int):=by
  rw[show(8:Int)=((8:Nat):Int)from rfl,yO];exact ve (by omega)
 have w4:IntKind.wrap .i64 ((((p+7)/8:Nat):Int)* 8)=(((p+7)/8* 8:Nat):Int):=by
  rw[show(((p+7)/8:Nat):Int)* 8=(((p+7)/8* 8:Nat):Int)by omega];exact ve (by omega)
 have st:∀v,tN h r 1 1 [.int .i64 v] (some [.str s,.int .i64 p])=some (h.set r [.str s,.int .i64 v]):=fun v=>ue hf (by simp) rfl
 have q:bn .quo (.int .i64 ((p+7:Nat):Int)) (.int .i64 8)=some (.int .i64 (((p+7)/8:Nat):Int)):=by rw[rH _ _ _ (by omega),w3]
 simp only[I]at *
 simp only[AP.f16,go_sem,hg,w1,w2,q,w4,st]
theorem Qw (h:H) (r:Nat) (s:ByteArray) (p:Nat) (hg:h.get r=some [.str s,I p]):aQ AP.A 17 [.aC r 0] h=some (I p,h):=by
 refine tq (fn:=AP.f17) (e:=[(2,I p)]) rfl rfl rfl ?_ rfl
 simp only[I]at *
 simp only[AP.f17,go_sem,hg]
theorem yH {c:SC} {S:SS} {h:H} {ov:AV} (st:St c S h ov) (n:Nat) (m:Int) (hm:m=n) (hn:n≤16):∃h',aQ AP.A 38 [.aC c.s 0,I m] h=some (I ((vh c n S).1:Nat),h')∧St c (vh c n S).2 h' ov∧Fr c h ov h' ov:=by
 subst hm;exact JP st hn
theorem Is {c:SC} {S:SS} {h:H} {ov:AV} (st:St c S h ov) {n least:Nat} (hn:n≤16) (hl:least<100000):∃h',aQ AP.A 73 [.aC c.s 0,I least,I n,I 0] h=some (I ((least+(vh c n S).1:Nat)),h')∧St c (vh c n S).2 h' ov∧Fr c h ov h' ov:=by
 obtain⟨h',k1,k2,k3⟩:=JP st hn
 refine⟨h', ?_,k2,k3⟩
 have hb:(vh c n S).1<65536:=by
  unfold vh;split
  · have:=wL c.text S.at_ n
    have:=Se (show 0<2 by omega) hn
    simp at *;omega
  · simp
 have w:IntKind.wrap .i64 ((least:Int)+((vh c n S).1:Nat))=((least+(vh c n S).1:Nat):Int):=by
  rw[show(least:Int)+((vh c n S).1:Nat)=((least+(vh c n S).1:Nat):Int)by omega];exact ve (by omega)
 refine tq (fn:=AP.f73) (e:=[(8,I ((least+(vh c n S).1:Nat)))]) rfl rfl rfl ?_ rfl
 simp only[I]at *
 simp only[AP.f73,go_sem,k1,w]
theorem Ew {c:SC} {S:SS} {h:H} {ov:AV} (st:St c S h ov) (he:S.e=0):∃h' S',aQ AP.A 73 [.aC c.s 0,I 0,I 0,I 600] h=some (I 0,h')∧St c S' h' ov∧Fr c h ov h' ov∧S'.e=700:=by
 obtain⟨h1,k1,k2,k3⟩:=xg st 700
 obtain⟨h',l1,l2,l3⟩:=JP k2 (n:=0) (by omega)
 have hS:vF 700 S={S with e:=700}:=by rw[vF,if_pos he]
 have hle:=st.yC
 have hg:vh c 0 (vF 700 S)=(0,vF 700 S):=by
  rw[vh,if_pos (by rw[hS];exact hle)];rfl
 rw[hg]at l1 l2
 have l1':aQ AP.A 38 [.aC c.s 0,I 0] h1=some (I 0,h'):=l1
 clear l1
 refine⟨h',_, ?_,l2,k3.trans l3,by rw[hS]⟩
 have w:IntKind.wrap .i64 (0+0)=0:=tw (by omega) (by omega)
 refine tq (fn:=AP.f73) (e:=[(8,I 0)]) rfl rfl rfl ?_ rfl
 simp only[I]at *
 simp only[AP.f73,go_sem,k1,l1',w]
def xB (t:ByteArray) (l:List Int):Nat→Nat→Nat→Nat→Option (Int×Nat)
 |0,_,_,_=>none
 |k+1,n,v,p=>if p+1≤8* t.size then(match xD l n ((v* 2+vg t p 1:Nat):Int)with|some y=>some (y,p+1)|none=>xB t l k (n+1) (v* 2+vg t p 1) (p+1))else none
theorem GL {c:SC} {S:SS} {h:H} {ov:AV} (st:St c S h ov) (l:List Int) (v n:Nat) (hs:n=16∨(n≤15∧S.e≠0)):
 ∃e',Lp AP.A [0,1,5,6] AP.f60L0 [(0,.aC c.s 0),(1,vB l),(5,I v),(6,I n)] h=some (.exit 0,e',h)∧look e' 0=.aC c.s 0:=by
 have gs:=st.gs
 refine⟨[(0,.aC c.s 0),(1,vB l),(5,I v),(6,I n),(17,.bool false)],sV ?_,rfl⟩
 rcases hs with hn|⟨hn,he⟩
 · have c1:¬(n:Int)≤15:=by omega
   simp only[I]at *
   simp only[AP.f60L0,go_sem,R0 c1]
 · have c1:(n:Int)≤15:=by omega
   have c2:(S.e==0)=false:=tR he
   simp only[I]at *
   simp only[AP.f60L0,go_sem,R2 c1,gs,c2]
theorem GK {c : SC} (l : List Int) (hl : l.length < 100000) : ∀ (k n v : Nat) (S : SS) (h : H) (ov : AV), n + k = 16 → 1 ≤ n → v < 2 ^ (n - 1) → St c S h ov → S.e = 0 →
 ∃ h' S', St c S' h' ov ∧ Fr c h ov h' ov ∧ match xB c.text l k n v S.at_ with
   |some (y,p)=>S'={S with at_:=p}∧∃e',Lp AP.A [0,1,5,6] AP.f60L0 [(0,.aC c.s 0),(1,vB l),(5,I v),(6,I n)] h=some (.ret,e',h')∧look e' 4=I y
   |none=>(S'.e=0∨S'.e=700)∧∃e',Lp AP.A [0,1,5,6] AP.f60L0 [(0,.aC c.s 0),(1,vB l),(5,I v),(6,I n)] h=some (.exit 0,e',h')∧look e' 0=.aC c.s 0
 | 0, n, v, S, h, ov, hk, hn, hv, st, he => by
   obtain⟨e',q1,q2⟩:=GL st l v n (.inl (by omega))
   exact⟨h,S,st,Fr.refl _ _ _,by simp only[xB];exact⟨.inl he,e',q1,q2⟩⟩
 | k + 1, n, v, S, h, ov, hk, hn, hv, st, he => by
   have gs:=st.gs
   obtain⟨h1,k1,k2,k3⟩:=yH st 1 1 rfl (by omega)
   obtain⟨x,hx⟩:∃x,x=(vh c 1 S).1:=⟨_,rfl⟩
   obtain⟨S1,hS1⟩:∃x,x=(vh c 1 S).2:=⟨_,rfl⟩
   rw[←hx]at k1;rw[←hS1]at k2
   have hp:2^n≤2^15:=Se (by omega) (by omega)
   have h2:2^(n-1+1)=2^(n-1)* 2:=Nat.pow_succ 2 (n-1)
   rw[show n-1+1=n by omega]at h2
   obtain⟨P,hP⟩:∃P:Nat,P=2^(n-1):=⟨_,rfl⟩
   rw[←hP]at h2 hv
   obtain⟨Q,hQ⟩:∃Q:Nat,Q=2^n:=⟨_,rfl⟩
   rw[←hQ]at h2 hp
   simp only[Nat.reducePow]at hp
   have hx1:x<2:=by
    rw[hx];unfold vh;split
    · have:=wL c.text S.at_ 1;simpa using this
    · simp
   have hv':v* 2+x<Q:=by omega
   have w1:IntKind.wrap .i64 ((v:Int)* 2)=((v* 2:Nat):Int):=by
    rw[show(v:Int)* 2=((v* 2:Nat):Int)by omega];exact ve (by omega)
   have w2:IntKind.wrap .i64 (((v* 2:Nat):Int)+(x:Int))=((v* 2+x:Nat):Int):=by
    rw[show((v* 2:Nat):Int)+(x:Int)=((v* 2+x:Nat):Int)by omega];exact ve (by omega)
   have w3:IntKind.wrap .i64 ((n:Int)+1)=((n+1:Nat):Int):=ve (n:=n+1) (by omega)
   have c1:(n:Int)≤15:=by omega
   have fc:=Nl h1 l hl n hn (by omega) ((v* 2+x:Nat):Int) (by omega) (by omega)
   have gs1:=k2.gs
   have step:(xD l n ((v* 2+x:Nat):Int)=none∨S1.e≠0)→aK (aQ AP.A) bu AP.f60L0 (ax [(0,.aC c.s 0),(1,vB l),(5,I v),(6,I n)] [0,1,5,6]) h=some (.normal,[(0,.aC c.s 0),(1,vB l),(5,I (v* 2+x:Nat)),(6,I (n+1:Nat))],h1):=by
    intro hc
    rcases hc with hc|hc
    · rw[hc]at fc
      simp only[I]at *
      simp only[AP.f60L0,go_sem,R2 c1,gs,he,k1,w1,w2,fc,w3]
    · have c2:(S1.e==0)=false:=tR hc
      cases hf:xD l n ((v* 2+x:Nat):Int)with
      | none =>
        rw[hf]at fc
        simp only[I]at *
        simp only[AP.f60L0,go_sem,R2 c1,gs,he,k1,w1,w2,fc,w3]
      | some y =>
        rw[hf]at fc
        simp only[I]at *
        simp only[AP.f60L0,go_sem,R2 c1,gs,he,k1,w1,w2,fc,w3,gs1,c2]
   by_cases hat:S.at_+1≤8* c.text.size
   · have eg:vh c 1 S=(vg c.text S.at_ 1,{S with at_:=S.at_+1}):=by rw[vh,if_pos hat]
     rw[eg]at hx hS1
     dsimp only at hx hS1
     subst hx hS1
     rw[xB,if_pos hat]
     cases hf:xD l n ((v* 2+vg c.text S.at_ 1:Nat):Int)with
     | none =>
       obtain⟨h',S',q1,q2,q3⟩:=GK l hl k (n+1) (v* 2+vg c.text S.at_ 1) _ h1 ov (by omega) (by omega) (by rw[Nat.add_sub_cancel,←hQ];exact hv') k2 he
       refine⟨h',S',q1,k3.trans q2, ?_⟩
       dsimp only at q3 ⊢
       have sp:=step (.inl hf)
       cases hy:xB c.text l k (n+1) (v* 2+vg c.text S.at_ 1) (S.at_+1)with
       | none =>
         rw[hy]at q3
         obtain⟨q3,e',q4,q5⟩:=q3
         exact⟨q3,e',sW sp q4,q5⟩
       | some y =>
         rw[hy]at q3
         obtain⟨q3,e',q4,q5⟩:=q3
         exact⟨q3,e',sW sp q4,q5⟩
     | some y =>
       refine⟨h1,_,k2,k3,rfl,[(4,I y)],tB ?_,rfl⟩
       rw[hf]at fc
       simp only[I]at *
       simp only[AP.f60L0,go_sem,R2 c1,gs,he,k1,w1,w2,fc,w3,gs1]
   · have eg:vh c 1 S=(0,{S with e:=700}):=by rw[vh,if_neg hat,vF,if_pos he]
     rw[eg]at hx hS1
     dsimp only at hx hS1
     subst hx hS1
     rw[xB,if_neg hat]
     have hst:n+1=16∨(n+1≤15∧(700:Int)≠0):=by omega
     obtain⟨e',q1,q2⟩:=GL k2 l (v* 2+0) (n+1) hst
     exact⟨h1,_,k2,k3,.inr rfl,e',sW (step (.inr (by simp))) q1,q2⟩
theorem Dp {c:SC} {S:SS} {h:H} {ov:AV} (l:List Int) (hl:l.length<100000) (st:St c S h ov) (he:S.e=0):
 ∃ h' S' y, aQ AP.A 60 [.aC c.s 0, vB l] h = some (I y, h') ∧ St c S' h' ov ∧ Fr c h ov h' ov ∧ match xB c.text l 15 1 0 S.at_ with
   |some (z,p)=>S'={S with at_:=p}∧y=z
   |none=>S'.e=700∧y=256:=by
 obtain⟨h1,S1,q1,q2,q3⟩:=GK l hl 15 1 0 S h ov (by omega) (by omega) (by simp) st he
 cases hy:xB c.text l 15 1 0 S.at_ with
 | some yp =>
   rw[hy]at q3
   obtain⟨q3,e',q4,q5⟩:=q3
   refine⟨h1,S1,yp.1, ?_,q1,q2,q3,rfl⟩
   refine tq (fn:=AP.f60) (e:=e') (vs:=[I yp.1]) rfl rfl rfl ?_ (by simp only[AP.f60,cu,mY,q5];rfl)
   have q6:Lp AP.A [0,1,5,6] AP.f60L0 [(0,.aC c.s 0),(1,vB l),(5,I 0),(6,I 1)] h=some (.ret,e',h1):=q4
   clear q4
   simp only[I]at *
   simp only[AP.f60,go_sem,rR,q6]
 | none =>
   rw[hy]at q3
   obtain⟨q3,e',q4,q5⟩:=q3
   obtain⟨h2,r1,r2,r3⟩:=xg q1 700
   refine⟨h2,vF 700 S1,256, ?_,r2,q2.trans r3, ?_,rfl⟩
   · refine tq (fn:=AP.f60) (e:=[(4,I 256)]) rfl rfl rfl ?_ rfl
     have q6:Lp AP.A [0,1,5,6] AP.f60L0 [(0,.aC c.s 0),(1,vB l),(5,I 0),(6,I 1)] h=some (.exit 0,e',h1):=q4
     clear q4
     simp only[I]at *
     simp only[AP.f60,go_sem,rR,q6,q5,r1]
   · rcases q3 with q3|q3<;>simp [vF,q3]
def lenOf (y:Nat):Option (Nat×Nat):=
 if y≤256∨285<y then none else if y=285 then some (258,0)else if y<265 then some (y-254,0)else some (3+(4+(y-257)%4)* 2^((y-257)/4-1),(y-257)/4-1)
def vD (y:Nat):Option (Nat×Nat):=
 if 30≤y then none else if y<4 then some (1+y,0)else some (1+(2+y%2)* 2^(y/2-1),y/2-1)
theorem CX {y a b:Nat} (h:lenOf y=some (a,b)):a≤258∧b≤5∧0<a:=by
 have key:∀y<286,∀a b,lenOf y=some (a,b)→a≤258∧b≤5∧0<a:=by
  intro y hy a b h
  have:((lenOf y).map fun p=>decide (p.1≤258∧p.2≤5∧0<p.1))=(lenOf y).map fun _=>true:=by
   clear h
   revert y
   decide+kernel
  rw[h]at this
  simpa using this
 by_cases hy:y<286
 · exact key y hy a b h
 · rw[lenOf,if_pos (by omega)]at h;cases h
theorem Bi {y a b:Nat} (h:vD y=some (a,b)):a≤24577∧b≤13∧0<a:=by
 have key:∀y<30,∀a b,vD y=some (a,b)→a≤24577∧b≤13∧0<a:=by
  intro y hy a b h
  have:((vD y).map fun p=>decide (p.1≤24577∧p.2≤13∧0<p.1))=(vD y).map fun _=>true:=by
   clear h
   revert y
   decide+kernel
  rw[h]at this
  simpa using this
 by_cases hy:y<30
 · exact key y hy a b h
 · rw[vD,if_pos (by omega)]at h;cases h
def Dw (o:Option (Nat×Nat)):AV:=match o with
 |some p=>.bO [I p.1,I p.2,I 0]
 |none=>.bO [I 0,I 0,I 600]
theorem HZ (h:H) (y:Nat) (hy:y<1000000):aQ AP.A 74 [I y] h=some (Dw (lenOf y),h):=by
 have d1:decide ((y:Int)≤256)=decide (y≤256):=by by_cases q:y≤256<;>simp [q]<;>omega
 have w1:IntKind.wrap .i64 ((y:Int)-256)=(y:Int)-256:=tw (by omega) (by omega)
 have w2:IntKind.wrap .i64 ((y:Int)-256-1)=(y:Int)-257:=by rw[show(y:Int)-256-1=(y:Int)-257 by omega];exact tw (by omega) (by omega)
 by_cases c1:y≤256
 · rw[lenOf,if_pos (.inl c1)]
   refine tL (fn:=AP.f74) (h2:=h.dL) (e:=[(2,I 0),(3,I 0),(4,I 600)]) rfl rfl rfl ?_ rfl rfl
   have c1':(y:Int)≤256:=by omega
   simp only[I]at *
   simp only[AP.f74,go_sem,w1,w2,R2 c1']
 have c1':¬(y:Int)≤256:=by omega
 by_cases c2:285<y
 · rw[lenOf,if_pos (.inr c2)]
   refine tL (fn:=AP.f74) (h2:=h.dL) (e:=[(2,I 0),(3,I 0),(4,I 600)]) rfl rfl rfl ?_ rfl rfl
   have c2':(285:Int)<y:=by omega
   simp only[I]at *
   simp only[AP.f74,go_sem,w1,w2,R0 c1',R2 c2']
 have c2':¬(285:Int)<y:=by omega
 rw[lenOf,if_neg (by omega)]
 by_cases c3:y=285
 · rw[if_pos c3]
   refine tL (fn:=AP.f74) (h2:=h.dL) (e:=[(2,I 258),(3,I 0),(4,I 0)]) rfl rfl rfl ?_ rfl rfl
   have c3':((y:Int)==285)=true:=tS (by omega)
   simp only[I]at *
   simp only[AP.f74,go_sem,w1,w2,R0 c1',R0 c2',c3']
 rw[if_neg c3]
 have c3':((y:Int)==285)=false:=tR (by omega)
 by_cases c4:y<265
 · rw[if_pos c4]
   refine tL (fn:=AP.f74) (h2:=h.dL) (e:=[(2,I (y-254:Nat)),(3,I 0),(4,I 0)]) rfl rfl rfl ?_ rfl rfl
   have c4':(y:Int)-257<8:=by omega
   have w3:IntKind.wrap .i64 (3+((y:Int)-257))=((y-254:Nat):Int):=by rw[show 3+((y:Int)-257)=((y-254:Nat):Int)by omega];exact ve (by omega)
   simp only[I]at *
   simp only[AP.f74,go_sem,w1,w2,R0 c1',R0 c2',c3',R2 c4',w3]
 rw[if_neg c4]
 have c4':¬(y:Int)-257<8:=by omega
 obtain⟨k,hk⟩:∃k:Nat,(y:Int)-257=k:=R4 (by omega)
 have hk':y-257=k:=by omega
 rw[hk]at w2 c4'
 rw[hk']
 have q1:bn .quo (.int .i64 (k:Int)) (.int .i64 4)=some (.int .i64 ((k/4:Nat):Int)):=by
  rw[rH _ _ _ (by omega),show(4:Int)=((4:Nat):Int)from rfl,yO,ve (by omega)]
 have q2:bn .rem (.int .i64 (k:Int)) (.int .i64 4)=some (.int .i64 ((k%4:Nat):Int)):=by
  rw[rI _ _ _ (by omega),show(4:Int)=((4:Nat):Int)from rfl,Dr]
 have w3:IntKind.wrap .i64 (((k/4:Nat):Int)-1)=((k/4-1:Nat):Int):=by rw[show((k/4:Nat):Int)-1=((k/4-1:Nat):Int)by omega];exact ve (by omega)
 have w4:IntKind.wrap .i64 (4+((k%4:Nat):Int))=((4+k%4:Nat):Int):=by rw[show 4+((k%4:Nat):Int)=((4+k%4:Nat):Int)by omega];exact ve (by omega)
 have hp:2^(k/4-1)≤2^5:=Se (by omega) (by omega)
 have hm:(4+k%4)* 2^(k/4-1)≤7* 2^5:=Nat.mul_le_mul (by omega) hp
 have q3:oW .shl .i64 ((4+k%4:Nat):Int) ((k/4-1:Nat):Int)=some (.int .i64 (((4+k%4)* 2^(k/4-1):Nat):Int)):=Ba (by omega) (by omega)
 generalize (4+k%4)* 2^(k/4-1)=P at *
 have w5:IntKind.wrap .i64 (3+(P:Int))=((3+P:Nat):Int):=by rw[show 3+(P:Int)=((3+P:Nat):Int)by omega];exact ve (by omega)
 refine tL (fn:=AP.f74) (h2:=h.dL) (e:=[(2,I (3+P:Nat)),(3,I (k/4-1:Nat)),(4,I 0)]) rfl rfl rfl ?_ rfl rfl
 simp only[I]at *
 simp only[AP.f74,go_sem,w1,w2,R0 c1',R0 c2',c3',R0 c4',q1,q2,w3,w4,q3,w5]
theorem FN (h:H) (y:Nat) (hy:y<1000000):aQ AP.A 75 [I y] h=some (Dw (vD y),h):=by
 have c0:¬(y:Int)<0:=by omega
 by_cases c1:30≤y
 · rw[vD,if_pos c1]
   refine tL (fn:=AP.f75) (h2:=h.dL) (e:=[(2,I 0),(3,I 0),(4,I 600)]) rfl rfl rfl ?_ rfl rfl
   have c1':(30:Int)≤y:=by omega
   simp only[I]at *
   simp only[AP.f75,go_sem,R0 c0,R2 c1']
 have c1':¬(30:Int)≤y:=by omega
 rw[vD,if_neg c1]
 by_cases c2:y<4
 · rw[if_pos c2]
   refine tL (fn:=AP.f75) (h2:=h.dL) (e:=[(2,I (1+y:Nat)),(3,I 0),(4,I 0)]) rfl rfl rfl ?_ rfl rfl
   have c2':(y:Int)<4:=by omega
   have w3:IntKind.wrap .i64 (1+(y:Int))=((1+y:Nat):Int):=by rw[show 1+(y:Int)=((1+y:Nat):Int)by omega];exact ve (by omega)
   simp only[I]at *
   simp only[AP.f75,go_sem,R0 c0,R0 c1',R2 c2',w3]
 rw[if_neg c2]
 have c2':¬(y:Int)<4:=by omega
 have q1:bn .quo (.int .i64 (y:Int)) (.int .i64 2)=some (.int .i64 ((y/2:Nat):Int)):=by
  rw[rH _ _ _ (by omega),show(2:Int)=((2:Nat):Int)from rfl,yO,ve (by omega)]
 have q2:bn .rem (.int .i64 (y:Int)) (.int .i64 2)=some (.int .i64 ((y%2:Nat):Int)):=by
  rw[rI _ _ _ (by omega),show(2:Int)=((2:Nat):Int)from rfl,Dr]
 have w3:IntKind.wrap .i64 (((y/2:Nat):Int)-1)=((y/2-1:Nat):Int):=by rw[show((y/2:Nat):Int)-1=((y/2-1:Nat):Int)by omega];exact ve (by omega)
 have w4:IntKind.wrap .i64 (2+((y%2:Nat):Int))=((2+y%2:Nat):Int):=by rw[show 2+((y%2:Nat):Int)=((2+y%2:Nat):Int)by omega];exact ve (by omega)
 have hp:2^(y/2-1)≤2^13:=Se (by omega) (by omega)
 have hm:(2+y%2)* 2^(y/2-1)≤3* 2^13:=Nat.mul_le_mul (by omega) hp
 have q3:oW .shl .i64 ((2+y%2:Nat):Int) ((y/2-1:Nat):Int)=some (.int .i64 (((2+y%2)* 2^(y/2-1):Nat):Int)):=Ba (by omega) (by omega)
 generalize (2+y%2)* 2^(y/2-1)=P at *
 have w5:IntKind.wrap .i64 (1+(P:Int))=((1+P:Nat):Int):=by rw[show 1+(P:Int)=((1+P:Nat):Int)by omega];exact ve (by omega)
 refine tL (fn:=AP.f75) (h2:=h.dL) (e:=[(2,I (1+P:Nat)),(3,I (y/2-1:Nat)),(4,I 0)]) rfl rfl rfl ?_ rfl rfl
 simp only[I]at *
 simp only[AP.f75,go_sem,R0 c0,R0 c1',R0 c2',q1,q2,w3,w4,q3,w5]
abbrev Rs:=Except Int (Nat×List Nat)
def Fin (r:Rs) (S:SS):Prop:=match r with
 | .ok q=>S=⟨q.1,q.2,0⟩
 | .error k=>S.e=k∧k≠0
theorem E9 {c:SC} {S:SS} (b:Nat) (he:S.e=0) (hm:¬c.most≤S.out.length):Dd c b S=⟨S.at_,S.out++[b],0⟩:=by
 simp only[Dd,if_neg hm,he,if_true]
theorem BC {c:SC} {S:SS} (b:Nat) (he:S.e=0) (hm:c.most≤S.out.length):(Dd c b S).e=701:=by
 simp [Dd,hm,vF,he]
def wq (t:ByteArray) (most:Int):Nat→Nat→List Nat→Rs
 |0,p,out=>.ok (p,out)
 |n+1,p,out=>if p+8≤8* t.size then(if most≤out.length then .error 701 else wq t most n (p+8) (out++[vg t p 8]))else .error 700
theorem yl {c:SC} {S:SS} {h:H} {ov:AV} (st:St c S h ov) (n:Nat) (hs:n=0∨S.e≠0):
 ∃e',Lp AP.A [0,2] AP.f39L0 [(0,.aC c.s 0),(2,I n)] h=some (.exit 0,e',h):=by
 have gs:=st.gs
 refine⟨[(0,.aC c.s 0),(2,I n),(26,.bool false)],sV ?_⟩
 by_cases hn:n=0
 · have c1:¬(0:Int)<n:=by omega
   simp only[I]at *
   simp only[AP.f39L0,go_sem,R0 c1]
 · have c1:(0:Int)<n:=by omega
   have c2:(S.e==0)=false:=tR (by omega)
   simp only[I]at *
   simp only[AP.f39L0,go_sem,R2 c1,gs,c2]
theorem Dm {c : SC} : ∀ (n : Nat) (S : SS) (h : H) (ov : AV), St c S h ov → S.e = 0 → n ≤ 65535 →
 ∃e' h' ov' S',Lp AP.A [0,2] AP.f39L0 [(0,.aC c.s 0),(2,I n)] h=some (.exit 0,e',h')∧St c S' h' ov'∧Fr c h ov h' ov'∧Fin (wq c.text c.most n S.at_ S.out) S'
 | 0, S, h, ov, st, he, hn => by
   obtain⟨e',q⟩:=yl st 0 (.inl rfl)
   exact⟨e',h,ov,S,q,st,Fr.refl _ _ _,by simp only[wq,Fin];cases S;simp_all⟩
 | n + 1, S, h, ov, st, he, hn => by
   have gs:=st.gs
   obtain⟨h1,k1,k2,k3⟩:=yH st 8 8 rfl (by omega)
   have gs1:=k2.gs
   have c1:(0:Int)<((n+1:Nat):Int):=by omega
   have w1:IntKind.wrap .i64 (((n+1:Nat):Int)-1)=(n:Int):=by rw[show((n+1:Nat):Int)-1=(n:Int)by omega];exact ve (by omega)
   by_cases hp:S.at_+8≤8* c.text.size
   · have eg:vh c 8 S=(vg c.text S.at_ 8,{S with at_:=S.at_+8}):=by rw[vh,if_pos hp]
     rw[eg]at k1 k2 gs1
     dsimp only at k1 k2 gs1
     obtain⟨h2,ov2,p1,p2,p3⟩:=Kf k2 (b:=vg c.text S.at_ 8)
     have hb:=wL c.text S.at_ 8
     have w2:IntKind.wrap .u8 ((vg c.text S.at_ 8:Nat):Int)=((vg c.text S.at_ 8:Nat):Int):=wrap_u8 (by simpa using hb)
     have step:aK (aQ AP.A) bu AP.f39L0 (ax [(0,.aC c.s 0),(2,I (n+1:Nat))] [0,2]) h=some (.normal,[(0,.aC c.s 0),(2,I n)],h2):=by
      simp only[I]at *
      simp only[AP.f39L0,go_sem,R2 c1,gs,he,k1,gs1,w2,p1,w1]
     rw[wq,if_pos hp]
     by_cases hm:c.most≤S.out.length
     · rw[if_pos hm]
       have hl:=BC (c:=c) (S:={S with at_:=S.at_+8}) (vg c.text S.at_ 8) he hm
       obtain⟨e',q⟩:=yl p2 n (.inr (by rw[hl];decide))
       exact⟨e',h2,ov2,_,sW step q,p2,k3.trans p3,hl,by decide⟩
     · rw[if_neg hm]
       rw[E9 (S:={S with at_:=S.at_+8}) _ he hm]at p2
       obtain⟨e',h',ov',S',q1,q2,q3,q4⟩:=Dm n _ h2 ov2 p2 rfl (by omega)
       exact⟨e',h',ov',S',sW step q1,q2,(k3.trans p3).trans q3,q4⟩
   · have eg:vh c 8 S=(0,{S with e:=700}):=by rw[vh,if_neg hp,vF,if_pos he]
     rw[eg]at k1 k2 gs1
     dsimp only at k1 k2 gs1
     have step:aK (aQ AP.A) bu AP.f39L0 (ax [(0,.aC c.s 0),(2,I (n+1:Nat))] [0,2]) h=some (.normal,[(0,.aC c.s 0),(2,I n)],h1):=by
      simp only[I]at *
      simp only[AP.f39L0,go_sem,R2 c1,gs,he,k1,gs1,w1]
     rw[wq,if_neg hp]
     obtain⟨e',q⟩:=yl k2 n (.inr (by simp))
     exact⟨e',h1,ov,_,sW step q,k2,k3,rfl,by decide⟩
def wX (t:ByteArray) (most:Int) (p0:Nat) (out:List Nat):Rs:=
 let p:=(p0+7)/8* 8
 if p+32≤8* t.size then(if vg t p 16+vg t (p+16) 16=65535 then wq t most (vg t p 16) (p+32) out else .error 700)else .error 700
theorem KL {n:Nat} (hn:n<65536):bits .xor .i64 (n:Int) 65535=((65535-n:Nat):Int):=by
 have h1:n<2^16:=by simpa using hn
 show IntKind.wrap .i64 (((BitVec.ofInt 64 (n:Int)^^^BitVec.ofInt 64 ((65535:Nat):Int)).toNat:Nat):Int)=_
 rw[BitVec.toNat_xor,ye 64 n (by omega),ye 64 65535 (by omega)]
 have h2:n^^^65535=65535-n:=by
  have:65535-n=2^16-(n+1):=by omega
  rw[this]
  apply Nat.eq_of_testBit_eq
  intro i
  rw[Nat.testBit_two_pow_sub_succ h1,Nat.testBit_xor,show 65535=2^16-1 from rfl,Nat.testBit_two_pow_sub_one]
  by_cases hi:i<16
  · simp [hi]
  · have:n.testBit i=false:=Nat.testBit_lt_two_pow (Nat.lt_of_lt_of_le h1 (Se (by omega) (by omega)))
    simp [hi,this]
 rw[h2];exact ve (by omega)
theorem St.align {c:SC} {S:SS} {h:H} {ov:AV} (st:St c S h ov):∃h',aQ AP.A 16 [.aC c.r 0] h=some (I 0,h')∧St c {S with at_:=(S.at_+7)/8* 8} h' ov∧Fr c h ov h' ov:=by
 have hle:=st.yC
 have:=st.Oy (p:=(S.at_+7)/8* 8) (by omega)
 exact⟨_,KV h c.r c.text S.at_ st.gr st.fr st.sz st.yC,this.1,this.2⟩
theorem KD {c : SC} {S : SS} {h : H} {ov : AV} (st : St c S h ov) (he : S.e = 0) :
 ∃h' ov' S',aQ AP.A 39 [.aC c.s 0] h=some (.bO [],h')∧St c S' h' ov'∧Fr c h ov h' ov'∧Fin (wX c.text c.most S.at_ S.out) S':=by
 have gs:=st.gs
 obtain⟨h1,a1,a2,a3⟩:=st.align
 obtain⟨p,hp⟩:∃p,p=(S.at_+7)/8* 8:=⟨_,rfl⟩
 rw[←hp]at a2
 have hS:wX c.text c.most S.at_ S.out=if p+32≤8* c.text.size then(if vg c.text p 16+vg c.text (p+16) 16=65535 then wq c.text c.most (vg c.text p 16) (p+32) S.out else .error 700)else .error 700:=by
  rw[hp];rfl
 rw[hS];clear hS
 obtain⟨h2,b1,b2,b3⟩:=yH a2 16 16 rfl (by omega)
 obtain⟨h3,d1,d2,d3⟩:=yH b2 16 16 rfl (by omega)
 obtain⟨n,hn⟩:∃n,n=(vh c 16 {S with at_:=p}).1:=⟨_,rfl⟩
 obtain⟨S2,hS2⟩:∃n,n=(vh c 16 {S with at_:=p}).2:=⟨_,rfl⟩
 obtain⟨m,hm⟩:∃n,n=(vh c 16 S2).1:=⟨_,rfl⟩
 obtain⟨S3,hS3⟩:∃n,n=(vh c 16 S2).2:=⟨_,rfl⟩
 rw[←hn]at b1;rw[←hS2]at b2 d1 d2;rw[←hm]at d1;rw[←hS3]at d2
 have hn16:n<65536:=by
  rw[hn];unfold vh;split
  · simpa using wL c.text p 16
  · simp
 have x1:=KL hn16
 by_cases hx:m=65535-n
 · have c1:((m:Int) !=((65535-n:Nat):Int))=false:=tT (by omega)
   have fin:∀e' h',Lp AP.A [0,2] AP.f39L0 [(0,.aC c.s 0),(2,I n)] h3=some (.exit 0,e',h')→aQ AP.A 39 [.aC c.s 0] h=some (.bO [],h'):=by
    intro e' h' q
    refine vW (fn:=AP.f39) (e:=[]) rfl rfl rfl ?_ rfl
    simp only[I]at *
    simp only[AP.f39,go_sem,rR,gs,a1,b1,d1,x1,c1,q]
   by_cases h32:p+32≤8* c.text.size
   · have e2:vh c 16 {S with at_:=p}=(vg c.text p 16,{S with at_:=p+16}):=by rw[vh,if_pos (by show p+16≤_;omega)]
     rw[e2]at hn hS2;dsimp only at hn hS2;subst hS2
     have e3:vh c 16 {S with at_:=p+16}=(vg c.text (p+16) 16,{S with at_:=p+16+16}):=by rw[vh,if_pos (by show p+16+16≤_;omega)]
     rw[e3]at hm hS3;dsimp only at hm hS3;subst hS3
     rw[if_pos h32,←hn,←hm,if_pos (by omega)]
     obtain⟨e',h',ov',S',q1,q2,q3,q4⟩:=Dm n _ h3 ov d2 he (by omega)
     exact⟨h',ov',S',fin e' h' q1,q2,((a3.trans b3).trans d3).trans q3,q4⟩
   · rw [if_neg h32]
     have he3:S3.e=700:=by
      rw[hS3,hS2]
      unfold vh
      by_cases q1:p+16≤8* c.text.size
      · simp only[if_pos q1]
        rw[if_neg (by omega)];simp [vF,he]
      · simp only[if_neg q1,vF,he,if_true]
        split<;>simp
     obtain⟨e',q⟩:=yl d2 n (.inr (by rw[he3];decide))
     exact⟨h3,ov,S3,fin e' h3 q,d2,(a3.trans b3).trans d3,he3,by decide⟩
 · have c1:((m:Int) !=((65535-n:Nat):Int))=true:=tU (by omega)
   obtain⟨h4,f1,f2,f3⟩:=xg d2 700
   have he4:(vF 700 S3).e=700:=by
    have:S3.e=0∨S3.e=700:=by
     rw[hS3,hS2]
     unfold vh
     by_cases q1:p+16≤8* c.text.size
     · simp only[if_pos q1]
       split<;>simp [vF,he]
     · simp only[if_neg q1,vF,he,if_true]
       split<;>simp
    rcases this with q|q<;>simp [vF,q]
   obtain⟨e',q⟩:=yl f2 n (.inr (by rw[he4];decide))
   refine⟨h4,ov,vF 700 S3, ?_,f2,((a3.trans b3).trans d3).trans f3, ?_⟩
   · refine vW (fn:=AP.f39) (e:=[]) rfl rfl rfl ?_ rfl
     simp only[I]at *
     simp only[AP.f39,go_sem,rR,gs,a1,b1,d1,x1,c1,f1,q]
   · by_cases h32:p+32≤8* c.text.size
     · have e2:vh c 16 {S with at_:=p}=(vg c.text p 16,{S with at_:=p+16}):=by rw[vh,if_pos (by show p+16≤_;omega)]
       rw[e2]at hn hS2;dsimp only at hn hS2;subst hS2
       have e3:vh c 16 {S with at_:=p+16}=(vg c.text (p+16) 16,{S with at_:=p+16+16}):=by rw[vh,if_pos (by show p+16+16≤_;omega)]
       rw[e3]at hm hS3;dsimp only at hm hS3
       rw[if_pos h32,←hn,←hm,if_neg (by omega)]
       exact⟨he4,by decide⟩
     · rw[if_neg h32];exact⟨he4,by decide⟩
def w9 (most:Int) (d:Nat):Nat→List Nat→Except Int (List Nat)
 |0,out=>.ok out
 |n+1,out=>if most≤out.length then .error 701 else w9 most d n (out++[out.getD (out.length-d) 0])
def KM (l:List Nat):Prop:=∀b∈l,b<256
theorem yF {c:SC} {S:SS} {h:H} {ov:AV} (st:St c S h ov) (n d:Nat) (hs:n=0∨S.e≠0):
 ∃e',Lp AP.A [0,6,8] AP.f61L0 [(0,.aC c.s 0),(6,I n),(8,I d)] h=some (.exit 0,e',h):=by
 have gs:=st.gs
 refine⟨[(0,.aC c.s 0),(6,I n),(8,I d),(53,.bool false)],sV ?_⟩
 by_cases hn:n=0
 · have c1:¬(0:Int)<n:=by omega
   simp only[I]at *
   simp only[AP.f61L0,go_sem,R0 c1]
 · have c1:(0:Int)<n:=by omega
   have c2:(S.e==0)=false:=tR (by omega)
   simp only[I]at *
   simp only[AP.f61L0,go_sem,R2 c1,gs,c2]
theorem ni.elem {h:H} {v:AV} {cs:List AV} (o:ni h v cs) {i:Nat} {x:AV} (hx:cs[i]?=some x):∃id,v=.aD id 0 cs.length 1∧fI 1 v (I i)=some (.aC id i)∧h.get id=some cs:=by
 have hi:i<cs.length:=(uD.1 hx).1
 rcases o with ⟨rfl,rfl⟩|⟨id,rfl,h1,_⟩
 · simp at hi
 · exact⟨id,rfl,by simp [fI,j4 hi],h1⟩
theorem K0 {l:List Nat} {i:Nat} (h:i<l.length):(xO l)[i]?=some (.int .u8 (l.getD i 0:Nat)):=by
 simp [xO,uQ,h,List.getD]
theorem DQ {c:SC} (d:Nat) (hd:0<d):∀(n:Nat) (S:SS) (h:H) (ov:AV),St c S h ov→S.e=0→d≤S.out.length→n≤65535→
 ∃ e' h' ov' S', Lp AP.A [0, 6, 8] AP.f61L0 [(0, .aC c.s 0), (6, I n), (8, I d)] h = some (.exit 0, e', h') ∧ St c S' h' ov' ∧ Fr c h ov h' ov' ∧ match w9 c.most d n S.out with
   | .ok o=>S'={S with out:=o}
   | .error k=>S'.e=k∧k≠0
 | 0, S, h, ov, st, he, hl, hn => by
   obtain⟨e',q⟩:=yF st 0 d (.inl rfl)
   exact⟨e',h,ov,S,q,st,Fr.refl _ _ _,by simp only[w9]⟩
 | n + 1, S, h, ov, st, he, hl, hn => by
   have gs:=st.gs
   have hol:=st.ol
   have hml:=st.ml
   have ln:=st.own.len
   rw[yT]at ln
   have c1:(0:Int)<((n+1:Nat):Int):=by omega
   have w1:IntKind.wrap .i64 (((n+1:Nat):Int)-1)=(n:Int):=by rw[show((n+1:Nat):Int)-1=(n:Int)by omega];exact ve (by omega)
   have w2:IntKind.wrap .i64 ((S.out.length:Int)-d)=((S.out.length-d:Nat):Int):=by rw[show(S.out.length:Int)-d=((S.out.length-d:Nat):Int)by omega];exact ve (by omega)
   have hb:=K0 (l:=S.out) (i:=S.out.length-d) (by omega)
   obtain⟨id,i1,i2,i3⟩:=st.own.elem hb
   obtain⟨h2,ov2,p1,p2,p3⟩:=Kf st (b:=S.out.getD (S.out.length-d) 0)
   have step:aK (aQ AP.A) bu AP.f61L0 (ax [(0,.aC c.s 0),(6,I (n+1:Nat)),(8,I d)] [0,6,8]) h=some (.normal,[(0,.aC c.s 0),(6,I n),(8,I d)],h2):=by
    clear i1
    simp only[I]at *
    simp only[AP.f61L0,go_sem,R2 c1,gs,he,ln,w2,i2,i3,hb,p1,w1]
   rw[w9]
   by_cases hm:c.most≤S.out.length
   · rw[if_pos hm]
     have hl:=BC (c:=c) (S:=S) (S.out.getD (S.out.length-d) 0) he hm
     obtain⟨e',q⟩:=yF p2 n d (.inr (by rw[hl];decide))
     exact⟨e',h2,ov2,_,sW step q,p2,p3,hl,by decide⟩
   · rw[if_neg hm]
     rw[E9 _ he hm]at p2
     obtain⟨e',h',ov',S',q1,q2,q3,q4⟩:=DQ d hd n _ h2 ov2 p2 rfl (by simp;omega) (by omega)
     refine⟨e',h',ov',S',sW step q1,q2,p3.trans q3, ?_⟩
     dsimp only at q4 ⊢
     rw[he]
     exact q4
def xC (t : ByteArray) (most : Int) (dl : List Int) (y : Nat) (p : Nat) (out : List Nat) : Rs :=
 match lenOf y with
 |none=>.error 700
 | some (least, extra) =>
   if p+extra≤8* t.size then
    match xB t dl 15 1 0 (p+extra)with
    |none=>.error 700
    | some (z, p2) => match vD z.toNat with
      |none=>.error 700
      | some (ld, xd) =>
        if p2+xd≤8* t.size∧ld+vg t p2 xd≤out.length then
         (match w9 most (ld+vg t p2 xd) (least+vg t p extra) out with
         | .ok o=>.ok (p2+xd,o)
         | .error k=>.error k)
        else .error 700
   else .error 700
theorem KG {l:List Int} {n:Nat} {y:Int} (h:y∈syms l n):0≤y∧y<l.length:=by
 unfold syms at h
 split at h
 · cases h
 · rw[List.mem_filterMap]at h
   obtain⟨q,hq,h⟩:=h
   split at h
   · obtain rfl:=uv h
     have:=List.mem_zipIdx hq
     omega
   · cases h
theorem JK {l:List Int} {n:Nat} {v y:Int} (h:xD l n v=some y):0≤y∧y<l.length:=by
 unfold xD at h
 split at h
 · exact KG (uL h)
 · cases h
theorem xi {t : ByteArray} {l : List Int} : ∀ {k n v p : Nat} {y : Int} {p2 : Nat}, xB t l k n v p = some (y, p2) → 0 ≤ y ∧ y < l.length ∧ p < p2 ∧ p2 ≤ 8 * t.size
 |0,_,_,_,_,_,h=>by cases h
 | k + 1, n, v, p, y, p2, h => by
   rw[xB]at h
   split at h
   · split at h
     · rename_i hf
       obtain⟨rfl,rfl⟩:=ux (uv h)
       have:=JK hf
       omega
     · have:=xi h
       omega
   · cases h
theorem Jz {c : SC} {S : SS} {h : H} {ov : AV} (dl : List Int) (hdl : dl.length < 100000) (st : St c S h ov) (he : S.e = 0) (y : Nat) (hy : y < 100000) :
 ∃h' ov' S',aQ AP.A 61 [.aC c.s 0,I y,vB dl] h=some (.bO [],h')∧St c S' h' ov'∧Fr c h ov h' ov'∧Fin (xC c.text c.most dl y S.at_ S.out) S':=by
 have lo:=HZ h y (by omega)
 unfold xC
 cases hlo:lenOf y with
 | none =>
   rw[hlo]at lo
   obtain⟨h1,S1,k1,k2,k3,k4⟩:=Ew st he
   have gs1:=k2.gs
   have c1:(S1.e !=0)=true:=tU (by omega)
   refine⟨h1,ov,S1, ?_,k2,k3,k4,by decide⟩
   refine tq (fn:=AP.f61) (e:=[(0,.aC c.s 0),(2,vB dl),(6,I 0),(20,.bool true)]) (vs:=[]) rfl rfl rfl ?_ rfl
   simp only[I,Dw]at *
   simp only[AP.f61,go_sem,lo,k1,gs1,c1]
 | some le =>
   obtain⟨least,extra⟩:=le
   rw[hlo]at lo
   obtain⟨b1,b2,b3⟩:=CX hlo
   obtain⟨h1,k1,k2,k3⟩:=Is st (n:=extra) (least:=least) (by omega) (by omega)
   dsimp only
   by_cases hp:S.at_+extra≤8* c.text.size
   · have eg : vh c extra S = (vg c.text S.at_ extra, { S with at_ := S.at_ + extra }) := by rw [vh, if_pos hp]
     rw[eg]at k1 k2
     dsimp only at k1 k2
     rw[if_pos hp]
     have gs1:=k2.gs
     have hve:=wL c.text S.at_ extra
     have hve2:2^extra≤2^5:=Se (by omega) b2
     obtain⟨h2,S2,z,s1,s2,s3,s4⟩:=Dp dl hdl k2 he
     have gs2:=s2.gs
     have c1:(S.e !=0)=false:=tT he
     dsimp only at s4 gs1
     cases hz:xB c.text dl 15 1 0 (S.at_+extra)with
     | none =>
       rw[hz]at s4
       obtain⟨s4,s5⟩:=s4
       have c2:(S2.e !=0)=true:=tU (by omega)
       refine⟨h2,ov,S2, ?_,s2,k3.trans s3,s4,by decide⟩
       refine tq (fn:=AP.f61) (e:=[(0,.aC c.s 0),(6,I (least+vg c.text S.at_ extra:Nat)),(7,I z),(28,.bool true)]) (vs:=[]) rfl rfl rfl ?_ rfl
       simp only[I,Dw]at *
       simp only[AP.f61,go_sem,lo,k1,gs1,c1,s1,gs2,c2]
     | some zp =>
       obtain⟨z2,p2⟩:=zp
       rw[hz]at s4
       obtain⟨s4,s5⟩:=s4
       subst s5 s4
       have zb:=xi hz
       obtain⟨zn,hzn⟩:∃n:Nat,z=n:=R4 zb.1
       subst hzn
       have dob:=FN h2 zn (by omega)
       have c2:(S.e !=0)=false:=tT he
       dsimp only at gs2 ⊢
       rw[Int.toNat_natCast]
       cases hdo:vD zn with
       | none =>
         rw[hdo]at dob
         obtain⟨h3,S3,v1,v2,v3,v4⟩:=Ew s2 he
         have gs3:=v2.gs
         have ln:=v2.own.len
         rw[yT]at ln
         have hn0:¬((S3.out.length:Int)<0):=by omega
         obtain⟨e',q⟩:=yF v2 (least+vg c.text S.at_ extra) 0 (.inr (by rw[v4];decide))
         refine⟨h3,ov,S3, ?_,v2,(k3.trans s3).trans v3,v4,by decide⟩
         refine vW (fn:=AP.f61) (e:=[]) (vs:=[]) rfl rfl rfl ?_ rfl
         have q':Lp AP.A [0,6,8] AP.f61L0 [(0,.aC c.s 0),(6,I (least+vg c.text S.at_ extra:Nat)),(8,I 0)] h3=some (.exit 0,e',h3):=q
         clear q
         simp only[I,Dw]at *
         simp only[AP.f61,go_sem,rR,lo,k1,gs1,c1,s1,gs2,c2,dob,v1,gs3,ln,R0 hn0,q']
       | some lx =>
         obtain⟨ld,xd⟩:=lx
         rw[hdo]at dob
         obtain⟨d1,d2,d3⟩:=Bi hdo
         obtain⟨h3,v1,v2,v3⟩:=Is s2 (n:=xd) (least:=ld) (by omega) (by omega)
         obtain⟨x,hx⟩:∃x,x=(vh c xd {S with at_:=p2}).1:=⟨_,rfl⟩
         obtain⟨S3,hS3⟩:∃x,x=(vh c xd {S with at_:=p2}).2:=⟨_,rfl⟩
         rw[←hx]at v1;rw[←hS3]at v2
         have ho3:S3.out=S.out:=by rw[hS3];unfold vh;split<;>simp [vF];split<;>rfl
         have gs3:=v2.gs
         have ln:=v2.own.len
         rw[yT]at ln
         dsimp only
         by_cases hbk:S3.out.length<ld+x
         · have hbk':(S3.out.length:Int)<((ld+x:Nat):Int):=by omega
           obtain⟨h4,f1,f2,f3⟩:=xg v2 700
           have he4:(vF 700 S3).e=700:=by
            have:S3.e=0∨S3.e=700:=by
             rw[hS3];unfold vh;split
             · exact .inl he
             · right;simp [vF,he]
            rcases this with q|q<;>simp [vF,q]
           have hneg:¬(p2+xd≤8* c.text.size∧ld+vg c.text p2 xd≤S.out.length):=by
            intro ⟨q1,q2⟩
            have:vh c xd {S with at_:=p2}=(vg c.text p2 xd,{S with at_:=p2+xd}):=by rw[vh,if_pos q1]
            rw[this]at hx;dsimp only at hx;rw[ho3]at hbk;omega
           rw[if_neg hneg]
           obtain⟨e',q⟩:=yF f2 (least+vg c.text S.at_ extra) (ld+x) (.inr (by rw[he4];decide))
           refine⟨h4,ov,vF 700 S3, ?_,f2,((k3.trans s3).trans v3).trans f3,he4,by decide⟩
           refine vW (fn:=AP.f61) (e:=[]) (vs:=[]) rfl rfl rfl ?_ rfl
           simp only[I,Dw]at *
           simp only[AP.f61,go_sem,rR,lo,k1,gs1,c1,s1,gs2,c2,dob,v1,gs3,ln,R2 hbk',f1,q]
         · have hbk':¬(S3.out.length:Int)<((ld+x:Nat):Int):=by omega
           have fin:∀e' h',Lp AP.A [0,6,8] AP.f61L0 [(0,.aC c.s 0),(6,I (least+vg c.text S.at_ extra:Nat)),(8,I (ld+x:Nat))] h3=some (.exit 0,e',h')→aQ AP.A 61 [.aC c.s 0,I y,vB dl] h=some (.bO [],h'):=by
            intro e' h' q
            refine vW (fn:=AP.f61) (e:=[]) (vs:=[]) rfl rfl rfl ?_ rfl
            simp only[I,Dw]at *
            simp only[AP.f61,go_sem,rR,lo,k1,gs1,c1,s1,gs2,c2,dob,v1,gs3,ln,R0 hbk',q]
           by_cases hp2:p2+xd≤8* c.text.size
           · have:vh c xd {S with at_:=p2}=(vg c.text p2 xd,{S with at_:=p2+xd}):=by rw[vh,if_pos hp2]
             rw[this]at hx hS3;dsimp only at hx hS3
             subst hx hS3
             dsimp only at hbk
             rw[if_pos ⟨hp2,by omega⟩]
             obtain⟨e',h',ov',S',q1,q2,q3,q4⟩:=DQ (c:=c) (ld+vg c.text p2 xd) (by omega) (least+vg c.text S.at_ extra) _ h3 ov v2 he (by dsimp only;omega) (by omega)
             refine⟨h',ov',S',fin e' h' q1,q2,((k3.trans s3).trans v3).trans q3, ?_⟩
             dsimp only at q4
             cases hcl:w9 c.most (ld+vg c.text p2 xd) (least+vg c.text S.at_ extra) S.out with
             |ok o=>rw[hcl]at q4;rw[he]at q4;exact q4
             |error k=>rw[hcl]at q4;exact q4
           · rw[if_neg (fun q=>hp2 q.1)]
             have he3:S3.e=700:=by
              rw[hS3,vh,if_neg hp2];simp [vF,he]
             obtain⟨e',q⟩:=yF v2 (least+vg c.text S.at_ extra) (ld+x) (.inr (by rw[he3];decide))
             exact⟨h3,ov,S3,fin e' h3 q,v2,(k3.trans s3).trans v3,he3,by decide⟩
   · have eg:vh c extra S=(0,{S with e:=700}):=by rw[vh,if_neg hp,vF,if_pos he]
     rw[eg]at k1 k2
     dsimp only at k1 k2
     rw[if_neg hp]
     have gs1:=k2.gs
     refine⟨h1,ov,_, ?_,k2,k3,rfl,by decide⟩
     refine tq (fn:=AP.f61) (e:=[(0,.aC c.s 0),(2,vB dl),(6,I (least+0:Nat)),(20,.bool true)]) (vs:=[]) rfl rfl rfl ?_ rfl
     simp only[I,Dw]at *
     simp only[AP.f61,go_sem,lo,k1,gs1]
def wo (t : ByteArray) (most : Int) (ll dl : List Int) : Nat → Nat → List Nat → Rs
 |0,_,_=>.error 700
 | k + 1, p, out => match xB t ll 15 1 0 p with
   |none=>.error 700
   | some (y, p1) =>
     if y<256 then(if most≤out.length then .error 701 else wo t most ll dl k p1 (out++[y.toNat]))
     else if y=256 then .ok (p1,out)
     else match xC t most dl y.toNat p1 out with
      | .ok (p2,o)=>wo t most ll dl k p2 o
      | .error e=>.error e
theorem CE {t : ByteArray} {most : Int} {dl : List Int} {y p : Nat} {out o : List Nat} {p2 : Nat} (h : xC t most dl y p out = .ok (p2, o)) : p ≤ p2 ∧ p2 ≤ 8 * t.size := by
 unfold xC at h
 split at h
 · cases h
 · split at h
   · split at h
     · cases h
     · rename_i hs
       have:=xi hs
       split at h
       · cases h
       · split at h
         · rename_i hq
           split at h
           · have:=Sp (fun r:Rs=>match r with| .ok q=>q.1|_=>0) h
             dsimp only at this
             omega
           · cases h
         · cases h
   · cases h
theorem Cz {c:SC} {S:SS} {h:H} {ov:AV} (st:St c S h ov) (a b:AV) (hs:S.e≠0):
 ∃e',Lp AP.A [0,1,2] AP.f40L0 [(0,.aC c.s 0),(1,a),(2,b)] h=some (.exit 0,e',h):=by
 have gs:=st.gs
 refine⟨[(0,.aC c.s 0),(1,a),(2,b),(11,.bool false)],sV ?_⟩
 have c2:(S.e==0)=false:=tR hs
 simp only[I]at *
 simp only[AP.f40L0,go_sem,gs,c2]
theorem z5 {c : SC} (ll dl : List Int) (hll : ll.length < 100000) (hdl : dl.length < 100000) : ∀ (k : Nat) (S : SS) (h : H) (ov : AV), St c S h ov → S.e = 0 → 8 * c.text.size < S.at_ + k →
 ∃e' h' ov' S',(Lp AP.A [0,1,2] AP.f40L0 [(0,.aC c.s 0),(1,vB ll),(2,vB dl)] h=some (.ret,e',h')∨Lp AP.A [0,1,2] AP.f40L0 [(0,.aC c.s 0),(1,vB ll),(2,vB dl)] h=some (.exit 0,e',h'))∧St c S' h' ov'∧Fr c h ov h' ov'∧Fin (wo c.text c.most ll dl k S.at_ S.out) S'
 |0,S,h,ov,st,he,hk=>by have:=st.yC;omega
 | k + 1, S, h, ov, st, he, hk => by
   have gs:=st.gs
   obtain⟨h1,S1,z,s1,s2,s3,s4⟩:=Dp ll hll st he
   rw[wo]
   cases hz:xB c.text ll 15 1 0 S.at_ with
   | none =>
     rw[hz]at s4
     obtain⟨s4,s5⟩:=s4
     subst s5
     refine⟨[(0,.aC c.s 0),(1,vB ll),(2,vB dl),(6,I 256),(26,.bool true)],h1,ov,S1,.inl (tB ?_),s2,s3,s4,by decide⟩
     simp only[I]at *
     simp only[AP.f40L0,go_sem,gs,he,s1]
   | some zp =>
     obtain⟨z2,p1⟩:=zp
     rw[hz]at s4
     obtain⟨s4,s5⟩:=s4
     subst s5 s4
     have zb:=xi hz
     obtain⟨y,hy⟩:∃n:Nat,z=n:=R4 zb.1
     subst hy
     dsimp only
     by_cases c1:(y:Int)<256
     · rw[if_pos c1]
       have w1:IntKind.wrap .u8 (y:Int)=y:=wrap_u8 (by omega)
       obtain⟨h2,ov2,p1',p2',p3'⟩:=Kf s2 (b:=y)
       have step:aK (aQ AP.A) bu AP.f40L0 (ax [(0,.aC c.s 0),(1,vB ll),(2,vB dl)] [0,1,2]) h=some (.normal,[(0,.aC c.s 0),(1,vB ll),(2,vB dl)],h2):=by
        simp only[I]at *
        simp only[AP.f40L0,go_sem,gs,he,s1,R2 c1,w1,p1']
       by_cases hm:c.most≤S.out.length
       · rw[if_pos hm]
         have hl:=BC (c:=c) (S:={S with at_:=p1}) y he hm
         obtain⟨e',q⟩:=Cz p2' (vB ll) (vB dl) (by rw[hl];decide)
         exact⟨e',h2,ov2,_,.inr (sW step q),p2',s3.trans p3',hl,by decide⟩
       · rw[if_neg hm]
         rw[E9 (S:={S with at_:=p1}) _ he hm]at p2'
         obtain⟨e',h',ov',S',q1,q2,q3,q4⟩:=z5 ll dl hll hdl k _ h2 ov2 p2' rfl (by dsimp only;omega)
         refine⟨e',h',ov',S', ?_,q2,(s3.trans p3').trans q3,q4⟩
         rcases q1 with q1|q1
         · exact .inl (sW step q1)
         · exact .inr (sW step q1)
     · rw [if_neg c1]
       by_cases c2:(y:Int)=256
       · rw[if_pos c2]
         refine⟨[(0,.aC c.s 0),(1,vB ll),(2,vB dl),(6,I y),(26,.bool true)],h1,ov,_,.inl (tB ?_),s2,s3, ?_⟩
         · have c2':=tS c2
           simp only[I]at *
           simp only[AP.f40L0,go_sem,gs,he,s1,R0 c1,c2']
         · simp only[Fin];rw[he]
       · rw[if_neg c2]
         have c2':=tR c2
         obtain⟨h2,ov2,S2,r1,r2,r3,r4⟩:=Jz dl hdl s2 he y (by omega)
         have step:aK (aQ AP.A) bu AP.f40L0 (ax [(0,.aC c.s 0),(1,vB ll),(2,vB dl)] [0,1,2]) h=some (.normal,[(0,.aC c.s 0),(1,vB ll),(2,vB dl)],h2):=by
          simp only[I]at *
          simp only[AP.f40L0,go_sem,gs,he,s1,R0 c1,c2',r1]
         dsimp only at r4
         rw[Int.toNat_natCast]
         cases hc:xC c.text c.most dl y p1 S.out with
         | error q =>
           rw[hc]at r4
           obtain⟨e',q'⟩:=Cz r2 (vB ll) (vB dl) (by rw[r4.1];exact r4.2)
           exact⟨e',h2,ov2,S2,.inr (sW step q'),r2,s3.trans r3,r4⟩
         | ok q =>
           obtain⟨p2,o⟩:=q
           rw[hc]at r4
           simp only[Fin]at r4
           subst r4
           have hge:=CE hc
           obtain⟨e',h',ov',S',q1,q2,q3,q4⟩:=z5 ll dl hll hdl k _ h2 ov2 r2 rfl (by dsimp only;omega)
           refine⟨e',h',ov',S', ?_,q2,(s3.trans r3).trans q3,q4⟩
           rcases q1 with q1|q1
           · exact .inl (sW step q1)
           · exact .inr (sW step q1)
theorem HK {c:SC} {S:SS} {h:H} {ov:AV} (ll dl:List Int) (hll:ll.length<100000) (hdl:dl.length<100000) (st:St c S h ov) (he:S.e=0):
 ∃h' ov' S',aQ AP.A 40 [.aC c.s 0,vB ll,vB dl] h=some (.bO [],h')∧St c S' h' ov'∧Fr c h ov h' ov'∧Fin (wo c.text c.most ll dl (8* c.text.size+1) S.at_ S.out) S':=by
 obtain⟨e',h',ov',S',q1,q2,q3,q4⟩:=z5 ll dl hll hdl (8* c.text.size+1) S h ov st he (by omega)
 refine⟨h',ov',S', ?_,q2,q3,q4⟩
 rcases q1 with q1|q1
 · refine tq (fn:=AP.f40) (e:=e') (vs:=[]) rfl rfl rfl ?_ rfl
   simp only[AP.f40,go_sem,rR,q1]
 · refine vW (fn:=AP.f40) (e:=[]) (vs:=[]) rfl rfl rfl ?_ rfl
   simp only[AP.f40,go_sem,rR,q1]
theorem vu (h:H):∀id c,h.get id=some c→h.dL.get id=some c:=fun _ _ q=>q
def CN (P:AV→Bool):List AV→Nat→Int
 |[],_=> -1
 |v::r,i=>if P v then(i:Int)else CN P r (i+1)
theorem FW (P:AV→Bool):∀(l:List AV) (i:Nat),(0≤CN P l i)↔l.any P=true
 |[],i=>by simp [CN]
 | v :: r, i => by
   rw[CN]
   by_cases h:P v
   · rw[if_pos h];simp [h]
   · rw[if_neg h,FW P r];simp [h]
theorem CQ {x fv : AV} {cs : List AV} (P : AV → Bool) (hP : ∀ v ∈ cs, ∀ g : H, j8 (aQ AP.A) [v] g fv = some (.bool (P v), g)) (hl : cs.length < 1000000000) (h : H) (rd : Rd h x cs) :
 ∀ (m i : Nat), m + i = cs.length → (∃ e', Lp AP.A [0, 1, 7, 8] AP.f84L0 [(0, x), (1, fv), (7, I cs.length), (8, I i)] h = some (.exit 0, e', h) ∧ CN P (cs.drop i) i = -1) ∨
   ∃e',Lp AP.A [0,1,7,8] AP.f84L0 [(0,x),(1,fv),(7,I cs.length),(8,I i)] h=some (.ret,e',h)∧look e' 4=I (CN P (cs.drop i) i)
 | 0, i, hm => by
   left
   refine⟨[(0,x),(1,fv),(7,I cs.length),(8,I i),(9,.bool false)],sV ?_,by rw[List.drop_eq_nil_of_le (by omega)];rfl⟩
   have c1:¬(i:Int)<(cs.length:Int):=by omega
   simp only[I]at *
   simp only[AP.f84L0,go_sem,R0 c1]
 | m + 1, i, hm => by
   have hi:i<cs.length:=by omega
   obtain⟨v,hv⟩:∃v,cs[i]?=some v:=⟨_,RY hi⟩
   have hd:cs.drop i=v::cs.drop (i+1):=by
    rw[List.drop_eq_getElem_cons hi];rw[RY hi]at hv;rw[uv hv]
   obtain⟨p,p1,p2⟩:=rd.elem hv
   have p3:=p2 h (fun _ _ q=>q)
   have c1:(i:Int)<(cs.length:Int):=by omega
   have hPv:=hP v (uL hv) h
   have w1:IntKind.wrap .i64 ((i:Int)+1)=((i+1:Nat):Int):=ve (n:=i+1) (by omega)
   rw[hd,CN]
   cases hb:P v with
   | true =>
     right
     rw[hb]at hPv
     rw[if_pos rfl]
     refine⟨[(4,I i)],tB ?_,rfl⟩
     simp only[I]at *
     simp only[AP.f84L0,go_sem,R2 c1,p1,p3,hPv]
   | false =>
     rw[hb]at hPv
     have step:aK (aQ AP.A) bu AP.f84L0 (ax [(0,x),(1,fv),(7,I cs.length),(8,I i)] [0,1,7,8]) h=some (.normal,[(0,x),(1,fv),(7,I cs.length),(8,I (i+1:Nat))],h):=by
      simp only[I]at *
      simp only[AP.f84L0,go_sem,R2 c1,p1,p3,hPv,w1]
     rw[if_neg (by decide)]
     rcases CQ P hP hl h rd m (i+1) (by omega)with ⟨e',q1,q2⟩|⟨e',q1,q2⟩
     · exact .inl ⟨e',sW step q1,q2⟩
     · exact .inr ⟨e',sW step q1,q2⟩
theorem Ll {x fv:AV} {cs:List AV} (P:AV→Bool) (hP:∀v∈cs,∀g:H,j8 (aQ AP.A) [v] g fv=some (.bool (P v),g)) (hl:cs.length<1000000000) (h:H) (rd:Rd h x cs):
 aQ AP.A 84 [x,fv] h=some (I (CN P cs 0),h):=by
 have rd':=rd.mono (vu h)
 have ln:=rd.len
 rcases CQ P hP hl h.dL rd' cs.length 0 (by omega)with ⟨e',q1,q2⟩|⟨e',q1,q2⟩
 · rw[Si]at q2
   rw[q2]
   refine tL (fn:=AP.f84) (h2:=h.dL) (e:=[(4,I (-1))]) rfl rfl rfl ?_ rfl rfl
   have q1':Lp AP.A [0,1,7,8] AP.f84L0 [(0,x),(1,fv),(7,I cs.length),(8,I 0)] h.dL=some (.exit 0,e',h.dL):=q1
   clear q1
   simp only[I]at *
   simp only[AP.f84,go_sem,rR,ln,q1']
 · rw[Si]at q2
   refine tL (fn:=AP.f84) (h2:=h.dL) (e:=e') (vs:=[I (CN P cs 0)]) rfl rfl rfl ?_ (by simp only[AP.f84,cu,mY,q2];rfl) rfl
   have q1':Lp AP.A [0,1,7,8] AP.f84L0 [(0,x),(1,fv),(7,I cs.length),(8,I 0)] h.dL=some (.ret,e',h.dL):=q1
   clear q1
   simp only[I]at *
   simp only[AP.f84,go_sem,rR,ln,q1']
theorem CD {x fv:AV} {cs:List AV} (P:AV→Bool) (hP:∀v∈cs,∀g:H,j8 (aQ AP.A) [v] g fv=some (.bool (P v),g)) (hl:cs.length<1000000000) (h:H) (rd:Rd h x cs):
 aQ AP.A 83 [x,fv] h=some (.bool (cs.any P),h):=by
 have k1:=Ll P hP hl h.dL (rd.mono (vu h))
 have ha:=FW P cs 0
 refine tL (fn:=AP.f83) (h2:=h.dL) (e:=[(4,.bool (cs.any P))]) rfl rfl rfl ?_ rfl rfl
 cases hb:cs.any P with
 | true =>
   have c1:0≤CN P cs 0:=ha.2 hb
   simp only[I]at *
   simp only[AP.f83,go_sem,k1,R2 c1]
 | false =>
   have c1:¬0≤CN P cs 0:=by rw[ha,hb];decide
   simp only[I]at *
   simp only[AP.f83,go_sem,k1,R0 c1]
def EE (v:AV):Bool:=match v with| .int _ n=>decide (n<0)||decide (15<n)|_=>true
theorem OR (n:Int) (h:H):aQ AP.A 82 [I n] h=some (.bool (EE (I n)),h):=by
 by_cases c1:n<0
 · refine tL (fn:=AP.f82) (h2:=h.dL) (e:=[(2,.bool true)]) rfl rfl rfl ?_ rfl ?_
   · simp only[I]at *
     simp only[AP.f82,go_sem,R2 c1]
   · simp [EE,I,c1];rfl
 · refine tL (fn:=AP.f82) (h2:=h.dL) (e:=[(2,.bool (decide (15<n)))]) rfl rfl rfl ?_ rfl ?_
   · simp only[I]at *
     simp only[AP.f82,go_sem,R0 c1]
   · simp [EE,I,c1];rfl
def Ai (l:List Int):Bool:=decide (1≤l.length)&&decide (l.length≤288)&& !((ints l).any EE)
theorem LU (h:H) (x:AV) (l:List Int) (hl:l.length<100000) (rd:Rd h x (ints l)):aQ AP.A 81 [x] h=some (.bool (Ai l),h):=by
 have hP:∀v∈ints l,∀g:H,j8 (aQ AP.A) [v] g (.fn 82 [] [])=some (.bool (EE v),g):=by
  intro v hv g
  obtain⟨n,_,rfl⟩:=R6.1 hv
  rw[nD];exact OR n g
 have k1:=CD EE hP (by simp;omega) h.dL (rd.mono (vu h))
 have ln:=rd.len
 rw[pD]at ln
 refine tL (fn:=AP.f81) (h2:=h.dL) (e:=[(2,.bool (Ai l))]) rfl rfl rfl ?_ rfl rfl
 unfold Ai
 by_cases c1:1≤l.length
 · have c1':(1:Int)≤(l.length:Int):=by omega
   by_cases c2:l.length≤288
   · have c2':(l.length:Int)≤288:=by omega
     simp only[I]at *
     simp only[AP.f81,go_sem,ln,R2 c1',R2 c2',R2 c1,R2 c2,k1,Bool.true_and]
   · have c2':¬(l.length:Int)≤288:=by omega
     simp only[I]at *
     simp only[AP.f81,go_sem,ln,R2 c1',R0 c2',R2 c1,R0 c2,Bool.true_and,Bool.false_and]
 · have c1':¬(1:Int)≤(l.length:Int):=by omega
   simp only[I]at *
   simp only[AP.f81,go_sem,ln,R0 c1',R0 c1,Bool.false_and]
def vy (l:List Int):Int:=if Ai l=false then 300 else if vx l 15<0 then 301 else if 0<vx l 15 then 302 else 0
theorem Bw {l:List Int} (h:Ai l=true):∀y∈l,0≤y∧y<16:=by
 intro y hy
 simp only[Ai,uI,Bool.not_eq_true',List.any_eq_false]at h
 have:=h.2 (I y) (R6.2 ⟨y,hy,rfl⟩)
 simp [EE,I]at this
 omega
theorem EH (h : H) (x : AV) (l : List Int) (hl : l.length < 100000) (rd : Rd h x (ints l)) : aQ AP.A 65 [x] h = some (I (vy l), h) := by
 have rd':=rd.mono (vu h)
 have k1:=LU h.dL x l hl rd'
 unfold vy
 by_cases hm:Ai l=true
 · have k2:=zr h.dL x l hl (Bw hm) rd'
   have hb:vB l=.aJ (nj 49 (wH l)) 0:=rfl
   have g:(nj 49 (wH l))[48]?=some (I (vx l 15)):=by rw[fG (by omega)];rfl
   rw[hb]at k2
   clear hb
   generalize nj 49 (wH l)=T at k2 g
   rw[hm]at k1 ⊢
   rw[if_neg (by decide)]
   by_cases c1:vx l 15<0
   · rw[if_pos c1]
     refine tL (fn:=AP.f65) (h2:=h.dL) (e:=[(2,I 301)]) rfl rfl rfl ?_ rfl rfl
     simp only[I]at *
     simp only[AP.f65,go_sem,k1,k2,g,R2 c1]
   · rw[if_neg c1]
     by_cases c2:0<vx l 15
     · rw[if_pos c2]
       refine tL (fn:=AP.f65) (h2:=h.dL) (e:=[(2,I 302)]) rfl rfl rfl ?_ rfl rfl
       simp only[I]at *
       simp only[AP.f65,go_sem,k1,k2,g,R0 c1,R2 c2]
     · rw[if_neg c2]
       refine tL (fn:=AP.f65) (h2:=h.dL) (e:=[(2,I 0)]) rfl rfl rfl ?_ rfl rfl
       simp only[I]at *
       simp only[AP.f65,go_sem,k1,k2,g,R0 c1,R0 c2]
 · have hm':Ai l=false:=by simpa using hm
   rw[hm']at k1 ⊢
   rw[if_pos rfl]
   refine tL (fn:=AP.f65) (h2:=h.dL) (e:=[(2,I 300)]) rfl rfl rfl ?_ rfl rfl
   simp only[I]at *
   simp only[AP.f65,go_sem,k1]
def KE:List Int→Int→Int
 |[],s=>s
 |x::r,s=>KE r (s+x)
theorem B6 {x:AV} {l:List Int} (hl:l.length<100000) (hr:∀y∈l,0≤y∧y<16) (h:H) (rd:Rd h x (ints l)):
 ∀(q p:List Int) (s:Int),l=p++q→0≤s→s≤16* p.length→∃e',Lp AP.A [3,6,7,8] AP.f66L0 [(3,I s),(6,x),(7,I l.length),(8,I p.length)] h=some (.exit 0,e',h)∧look e' 3=I (KE q s)
 | [], p, s, hpq, hs0, hs1 => by
   refine⟨[(3,I s),(6,x),(7,I l.length),(8,I p.length),(9,.bool false)],sV ?_,rfl⟩
   have c1:¬(p.length:Int)<(l.length:Int):=by rw[hpq];simp
   simp only[I]at *
   simp only[AP.f66L0,go_sem,R0 c1]
 | y :: q, p, s, hpq, hs0, hs1 => by
   have hlen:l.length=p.length+(q.length+1):=by rw[hpq];simp
   have c1:(p.length:Int)<(l.length:Int):=by omega
   have hy:=hr y (by rw[hpq];simp)
   have hv:(ints l)[p.length]?=some (I y):=sC (by rw[hpq];simp)
   obtain⟨a,p1,p2⟩:=rd.elem hv
   have p3:=p2 h (fun _ _ q=>q)
   have w1:IntKind.wrap .i64 (s+y)=s+y:=tw (by omega) (by omega)
   have w2:IntKind.wrap .i64 ((p.length:Int)+1)=(((p++[y]).length:Nat):Int):=by
    rw[u4];exact ve (n:=p.length+1) (by omega)
   have step:aK (aQ AP.A) bu AP.f66L0 (ax [(3,I s),(6,x),(7,I l.length),(8,I p.length)] [3,6,7,8]) h=some (.normal,[(3,I (s+y)),(6,x),(7,I l.length),(8,I (p++[y]).length)],h):=by
    simp only[I]at *
    simp only[AP.f66L0,sh,qt,qn,qp,qo,oG,sK,sJ,sq,su,sy,sx,se,sg,r9,r8,rV,rX,rE,rF,pO,nk,mG,mL,kO,rT,rS,oK,oL,sM,qT,sH,qF,oz,oo,Nat.reduceEqDiff,ne_eq,not_false_eq_true,lI,ly,R2 c1,p1,p3,w1,w2]
   obtain⟨e',q1,q2⟩:=B6 hl hr h rd q (p++[y]) (s+y) (by rw[hpq];simp) (by omega) (by simp;omega)
   exact⟨e',sW step q1,q2⟩
def xA (l:List Int):Bool:=decide (KE l 0≤1)
theorem Kn (h:H) (x:AV) (l:List Int) (hl:l.length<100000) (hr:∀y∈l,0≤y∧y<16) (rd:Rd h x (ints l)):aQ AP.A 66 [x] h=some (.bool (xA l),h):=by
 have rd':=rd.mono (vu h)
 have ln:=rd.len
 rw[pD]at ln
 obtain⟨e',q1,q2⟩:=B6 hl hr h.dL rd' l [] 0 rfl (by omega) (by simp)
 have q1':Lp AP.A [3,6,7,8] AP.f66L0 [(3,I 0),(6,x),(7,I l.length),(8,I 0)] h.dL=some (.exit 0,e',h.dL):=q1
 clear q1
 refine tL (fn:=AP.f66) (h2:=h.dL) (e:=[(2,.bool (xA l))]) rfl rfl rfl ?_ rfl rfl
 simp only[I,xA]at *
 simp only[AP.f66,go_sem,rR,ln,q1',q2]
theorem Dy {n:Nat} (h:n<18446744073709551616):IntKind.wrap .u64 (n:Int)=n:=by
 have e:IntKind.wrap .u64 (n:Int)=(n:Int)%18446744073709551616:=by simp [IntKind.wrap,IntKind.bits,IntKind.signed]
 rw[e];omega
theorem Co {a:Nat} (ha:a<4294967296):bits .and .u64 (a:Int) 4294967295=(a:Int):=by
 show IntKind.wrap .u64 (((BitVec.ofInt 64 (a:Int)&&&BitVec.ofInt 64 ((4294967295:Nat):Int)).toNat:Nat):Int)=_
 rw[BitVec.toNat_and,ye 64 a (by omega),ye 64 4294967295 (by omega)]
 rw[show 4294967295=2^32-1 from rfl,Nat.and_two_pow_sub_one_eq_mod,Nat.mod_eq_of_lt (by simpa using ha)]
 exact Dy (by omega)
theorem Ij {a:Nat} (ha:a<4294967296):oW .shr .u64 (a:Int) 32=some (.int .u64 0):=by
 have:(a:Int).fdiv 4294967296=0:=by rw[Int.fdiv_eq_ediv_of_nonneg _ (by omega)];omega
 simp [oW,IntKind.bits,this]
theorem Lr (h:H) (a b:Nat) (ha:a<4294967296) (hb:b<4294967296) (hab:a* b<4294967296):aQ AP.A 78 [.int .u64 a,.int .u64 b] h=some (.bO [.int .u64 0,.int .u64 (a* b:Nat)],h):=by
 have a1:=Co ha
 have a2:=Co hb
 have s1:=Ij ha
 have s2:=Ij hb
 have s3:=Ij hab
 have w1:IntKind.wrap .u64 ((a:Int)* b)=((a* b:Nat):Int):=by rw[show(a:Int)* b=((a* b:Nat):Int)by simp];exact Dy (by omega)
 have w0:IntKind.wrap .u64 0=0:=by decide
 have z1:(0:Int)* b=0:=by omega
 have z2:(a:Int)* 0=0:=by omega
 have s0:oW .shr .u64 0 32=some (.int .u64 0):=Ij (a:=0) (by omega)
 have a0:bits .and .u64 0 4294967295=0:=Co (a:=0) (by omega)
 refine tL (fn:=AP.f78) (h2:=h.dL) (e:=[(4,.int .u64 0),(5,.int .u64 (a* b:Nat))]) rfl rfl rfl ?_ rfl rfl
 simp only[AP.f78,go_sem,a1,a2,s1,s2,s3,w1,w0,z1,z2,s0,a0,Int.zero_mul,Int.add_zero]
theorem Qh (h:H) (a b:Nat) (ha:a<4294967296) (hb:b<4294967296) (hab:a* b<4294967296):aQ AP.A 63 [.int .u64 a,.int .u64 b] h=some (.bO [.int .u64 0,.int .u64 (a* b:Nat)],h):=by
 have k:=Lr h.dL a b ha hb hab
 refine tL (fn:=AP.f63) (h2:=h.dL) (e:=[(4,.int .u64 0),(5,.int .u64 (a* b:Nat))]) rfl rfl rfl ?_ rfl rfl
 simp only[AP.f63,go_sem,k]
theorem yy:∀(B V A C:List AV),V.length=B.length→setFrom (A++(B++C)) A.length V=A++(V++C)
 |[],[],A,C,_=>rfl
 | b :: B, v :: V, A, C, h => by
   rw[oV]
   have h1:(A++(b::B++C)).set A.length v=(A++[v])++(B++C):=by
    rw[List.set_append_right _ _ (uH _)];simp
   rw[h1]
   have h2:=yy B V (A++[v]) C (by simpa using h)
   rw[u4]at h2
   rw[show A.length+1=A.length+[v].length by rfl,h2];simp
 |[],v::V,A,C,h=>by simp at h
 |b::B,[],A,C,h=>by simp at h
theorem Iw (n:Nat) {v:AV} (hv:v.sc=true):AV.aB (List.replicate n v)=true:=by
 induction n with
 |zero=>rfl
 |succ n ih=>rw[List.replicate_succ,pU,hv,ih];rfl
theorem Fb (v:AV):∀n,dE n [v]=List.replicate n v
 |0=>rfl
 |n+1=>by rw[dE,Fb v n];rfl
theorem Kj {k y:Nat} (h:k≤y):jY (I k) y=some k:=by
 simp [jY,ny,I];omega
theorem Jr {h:H} {id N k:Nat} {cs:List AV} (hg:h.get id=some cs) (hN:cs.length=N) (hk:k≤N):rM h 1 (.aD id 0 N 1) (some (I k)) none none=some (.aD id k (N-k) 1):=by
 simp [rM,hg,hN,aA,Kj hk]
theorem G0 {h:H} {id N M k:Nat} {cs:List AV} (hg:h.get id=some cs) (hN:cs.length=N) (hM:M≤N) (hk:k≤N):rM h 1 (.aD id 0 M 1) none (some (I k)) none=some (.aD id 0 k 1):=by
 have:jY (I k) N=some k:=Kj hk
 simp [rM,hg,hN,aA,this,hM]
def yZ (v:AV) (k N:Nat):List AV:=List.replicate k v++List.replicate (N-k) (I 0)
theorem Kg {v:AV} {k N:Nat} (h:k≤N):(yZ v k N).length=N:=by simp [yZ];omega
theorem Gz {v:AV} {k N m:Nat} (h:k+m≤N):setFrom (yZ v k N) k (List.replicate m v)=yZ v (k+m) N:=by
 have e:List.replicate (N-k) (I 0)=List.replicate m (I 0)++List.replicate (N-(k+m)) (I 0):=by
  rw[List.replicate_append_replicate];congr 1;omega
 have:=yy (List.replicate m (I 0)) (List.replicate m v) (List.replicate k v) (List.replicate (N-(k+m)) (I 0)) (by simp)
 rw[Sc]at this
 rw[yZ,e,this,yZ,←R9,List.replicate_append_replicate]
theorem B4 (v : AV) (hv : v.sc = true) (N id : Nat) (hN : N < 1000000000) : ∀ (f k : Nat) (h : H), N - k ≤ f → 0 < k → k ≤ N → h.get id = some (yZ v k N) → h.floor ≤ id →
 ∃e' h',Lp AP.A [7,8] AP.f43L0 [(7,.aD id 0 N 1),(8,I k)] h=some (.exit 0,e',h')∧look e' 7=.aD id 0 N 1∧h'.get id=some (yZ v N N)∧h'.next=h.next
 | f, k, h, hf, hk, hkN, hg, hfl => by
   by_cases hlt:k<N
   · have c1:(k:Int)<(N:Int):=by omega
     have hlen:=Kg (v:=v) hkN
     have s1:=Jr hg hlen hkN
     have s2:=G0 hg hlen (uH N) hkN
     obtain⟨m,hm⟩:∃m,m=Nat.min k (N-k):=⟨_,rfl⟩
     have hm1:0<m∧m≤k∧k+m≤N:=by
      rw[hm];have:Nat.min k (N-k)=min k (N-k):=rfl
      rw[this];omega
     have hsrc:aR h 1 (.aD id 0 k 1)=some (k,List.replicate k v):=by
      simp only[aR,if_true,hg,uE]
      rw[if_pos (by rw[hlen];omega)]
      simp [yZ]
     have cp:gU h 1 (.aD id k (N-k) 1) (.aD id 0 k 1)=some (I m,h.set id (yZ v (k+m) N)):=by
      unfold gU
      rw[hsrc,uE]
      simp only[Iw k hv,hfl,and_self,true_and,if_true,hg,uE,hlen]
      rw[if_pos (by omega),←hm,Nat.mul_one,List.take_replicate,Nat.min_eq_left hm1.2.1,Gz hm1.2.2];rfl
     have w1:IntKind.wrap .i64 ((k:Int)+m)=((k+m:Nat):Int):=by rw[show(k:Int)+m=((k+m:Nat):Int)by omega];exact ve (by omega)
     have al:iP false (.aD id 0 N 1)=some (I N):=rfl
     have step:aK (aQ AP.A) bu AP.f43L0 (ax [(7,.aD id 0 N 1),(8,I k)] [7,8]) h=some (.normal,[(7,.aD id 0 N 1),(8,I (k+m:Nat))],h.set id (yZ v (k+m) N)):=by
      simp only[I]at *
      simp only[AP.f43L0,go_sem,al,R2 c1,R1,Sz,s1,s2,cp,w1]
     match f,hf with
     |0,hf=>omega
     | f + 1, hf =>
       obtain⟨e',h',q1,q2,q3,q4⟩:=B4 v hv N id hN f (k+m) (h.set id (yZ v (k+m) N)) (by omega) (by omega) (by omega) (by rw[H.dj,if_pos rfl,hg];rfl) (by simpa using hfl)
       exact⟨e',h',sW step q1,q2,q3,by rw[q4];simp⟩
   · have hkN':k=N:=by omega
     subst hkN'
     have c1:¬(k:Int)<(k:Int):=by omega
     have al:iP false (.aD id 0 k 1)=some (I k):=rfl
     refine⟨[(7,.aD id 0 k 1),(8,I k),(37,.bool false)],h,sV ?_,rfl,hg,rfl⟩
     simp only[I]at *
     simp only[AP.f43L0,go_sem,al,R0 c1]
theorem yj (h : H) (x : AV) (y : Int) (N : Nat) (hN : N < 1000000000) (rd : Rd h x [I y]) : aQ AP.A 43 [x, I N] h = some (.aU false (ints (List.replicate N y)) 0 N 1, h) := by
 have rd':=rd.mono (vu h)
 have ln:=rd.len
 have mc:=Qh h.dL 1 N (by omega) (by omega) (by omega)
 rw[Nat.one_mul]at mc
 have mc':aQ AP.A 63 [.int .u64 1,.int .u64 N] h.dL=some (.bO [.int .u64 0,.int .u64 N],h.dL):=mc
 clear mc
 have c0:¬(N:Int)<0:=by omega
 have w1:IntKind.wrap .u64 1=1:=by decide
 have w2:IntKind.wrap .u64 (N:Int)=N:=Dy (by omega)
 have w3:IntKind.wrap .i64 (N:Int)=N:=ve (by omega)
 have c1:¬(0:Int)<0:=by omega
 have c2:¬(9223372036854775807:Int)<(N:Int):=by omega
 obtain⟨id,hid⟩:∃i,i=h.next:=⟨_,rfl⟩
 obtain⟨g1,hg1⟩:∃g,g=h.dL.alloc (List.replicate N (I 0)):=⟨_,rfl⟩
 have e1:g1.get id=some (List.replicate N (I 0)):=by rw[hg1,H.aV,if_pos (by rw[hid];rfl)]
 have bt:aX [(29,I N),(28,.int .u64 N),(0,x),(6,.int .u64 N)] (.iG 1 8 [I 0] (.t 29) (.t 29))=some (List.replicate N (I 0),fun i=>.aD i 0 N 1):=by
  have c3:(8:Int)* N≤281474976710656:=by omega
  have c4:(N:Int)≤9223372036854775807:=by omega
  simp [aX,I,Fb,c3,c4]
 have hcp : ∃ (k : Nat) (h2 : H), gU g1 1 (.aD id 0 N 1) x = some (I k, h2) ∧ ((k = 0 ∧ N = 0) ∨ (k = 1 ∧ 0 < N)) ∧ h2.get id = some (yZ (I y) k N) ∧ h2.floor = h.next ∧ h2.next = g1.next := by
  have rd2:aR g1 1 x=some (1,[I y]):=(rd.mono (fun i c q=>by rw[hg1,H.aV,if_neg (by have:=h.lt _ _ q;show i≠h.next;omega)];exact q)).1
  refine⟨Nat.min 1 N,g1.set id (yZ (I y) (Nat.min 1 N) N), ?_, ?_,by rw[H.dj,if_pos rfl,e1];rfl,by rw[hg1];simp,by simp⟩
  · unfold gU
    rw[rd2,uE]
    have hf:g1.floor≤id:=by rw[hg1,hid];simp
    have ha:AV.aB [I y]=true:=rfl
    simp only[ha,hf,and_self,true_and,if_true,e1,uE,Sc]
    rw[if_pos (by omega),Nat.mul_one]
    have hz:List.replicate N (I 0)=yZ (I y) 0 N:=by simp [yZ]
    rw[hz]
    have ht:[I y].take (Nat.min 1 N)=List.replicate (Nat.min 1 N) (I y):=by
     cases N with
     |zero=>rfl
     | succ n => have : Nat.min 1 (n + 1) = 1 := by show min 1 (n + 1) = 1; omega
                 rw[this];rfl
    rw[ht,Gz (by show 0+min 1 N≤N;omega),uM];rfl
  · cases N with
    |zero=>left;exact⟨rfl,rfl⟩
    |succ n=>right;exact⟨by show min 1 (n+1)=1;omega,by omega⟩
 obtain⟨k,h2,cp1,cp2,cp3,cp4,cp5⟩:=hcp
 have lp:∃e' h3,Lp AP.A [7,8] AP.f43L0 [(7,.aD id 0 N 1),(8,I k)] h2=some (.exit 0,e',h3)∧look e' 7=.aD id 0 N 1∧h3.get id=some (yZ (I y) N N):=by
  rcases cp2 with ⟨rfl,rfl⟩|⟨rfl,hN0⟩
  · refine⟨[(7,.aD id 0 0 1),(8,I 0),(37,.bool false)],h2,sV ?_,rfl,cp3⟩
    have al:iP false (.aD id 0 0 1)=some (I 0):=rfl
    simp only[I]at *
    simp only[AP.f43L0,go_sem,al,Int.natCast_zero]
  · obtain⟨e',h',q1,q2,q3,_⟩:=B4 (I y) rfl N id hN N 1 h2 (by omega) (by omega) (by omega) cp3 (by rw[cp4,hid];exact uH _)
    exact⟨e',h',q1,q2,q3⟩
 obtain⟨e',h3,q1,q2,q3⟩:=lp
 refine tL (fn:=AP.f43) (h2:=h3) (e:=[(4,.aD id 0 N 1)]) (vs:=[.aD id 0 N 1]) rfl rfl rfl ?_ rfl ?_
 · have al:iP false x=some (I 1):=ln
   have hn:h.dL.next=id:=by rw[hid];rfl
   simp only[I]at *
   simp only[AP.f43,go_sem,al,R0 c0,w1,w2,w3,mc',R0 c1,R0 c2,bt,←hg1,hn,cp1,rR,q1,q2]
 · have hr:yZ (I y) N N=ints (List.replicate N y):=by simp [yZ,ints]
   show snap h3.get h.next 16 true (.aD id 0 N 1)=_
   unfold snap
   rw[if_neg (by omega),q3,uE,hr,if_pos (by simp)]
   have ht:((ints (List.replicate N y)).drop 0).take (N* 1)=ints (List.replicate N y):=by
    rw[Si,Nat.mul_one,uW (by simp)]
   rw[ht,xG];rfl
theorem Og (h:H) (N:Nat) (hN0:0<N) (hN:N<1000000000):aQ AP.A 76 [.aO,I N] h=some (.aD h.next 0 0 1,h.alloc (List.replicate N (I 0))):=by
 have c0:¬(N:Int)<0:=by omega
 have c1:(0:Int)<N:=by omega
 have w0:IntKind.wrap .i64 (0-0)=0:=by decide
 have w1:IntKind.wrap .i64 ((N:Int)-0)=N:=by rw[Int.sub_zero];exact ve (by omega)
 have a1:pP .aO=some (I 0):=rfl
 have a2:iP false .aO=some (I 0):=rfl
 have a3:rM h 1 .aO none (some (I 0)) none=some .aO:=rfl
 have a4:gR h 1 8 [I 0] .aO (I N)=some (.aD h.next 0 N 1,h.alloc (List.replicate N (I 0))):=by
  have c3:(N:Int)≤281474976710656:=by omega
  have c4:(N:Int)* 8≤281474976710656:=by omega
  have c5:roomy 8 N=true:=by simp [roomy];omega
  simp [gR,I,c3,c4,c5,Fb,hN0]
 have a5:rM (h.alloc (List.replicate N (I 0))) 1 (.aD h.next 0 N 1) none (some (I 0)) none=some (.aD h.next 0 0 1):=
  G0 (by rw[H.aV,if_pos rfl]) (by simp) (uH _) (Nat.zero_le _)
 refine tq (fn:=AP.f76) (e:=[(4,.aD h.next 0 0 1)]) rfl rfl rfl ?_ rfl
 simp only[I]at *
 simp only[AP.f76,go_sem,R0 c0,R2 c1,w0,w1,a1,a2,R1,Sz,a3,a4,a5]
def cat (ps:List (AV×List Int)):List Int:=ps.flatMap (·.2)
theorem FD (p:AV×List Int) (ps:List (AV×List Int)):cat (p::ps)=p.2++cat ps:=by simp [cat]
theorem AH {h:H} {x:AV} {all:List (AV×List Int)} (rd:Rd h x (all.map (·.1))) (hp:∀p∈all,Rd h p.1 (ints p.2)) (hT:(cat all).length<1000000000) (hA:all.length<1000000000):
 ∀(ps qs:List (AV×List Int)),all=qs++ps→
 ∃e',Lp AP.A [0,3,9,10,11] AP.f62L1 [(0,x),(3,I (cat qs).length),(9,x),(10,I all.length),(11,I qs.length)] h=some (.exit 0,e',h)∧look e' 0=x∧look e' 3=I (cat all).length
 | [], qs, hq => by
   rw[Sf]at hq;subst hq
   refine⟨[(0,x),(3,I (cat all).length),(9,x),(10,I all.length),(11,I all.length),(12,.bool false)],sV ?_,rfl,rfl⟩
   have c1:¬(all.length:Int)<(all.length:Int):=by omega
   simp only[I]at *
   simp only[AP.f62L1,go_sem,R0 c1]
 | p :: ps, qs, hq => by
   have hlen:all.length=qs.length+(ps.length+1):=by rw[hq];simp
   have hct:(cat all).length=(cat qs).length+(p.2.length+(cat ps).length):=by rw[hq];simp [cat]
   have c1:(qs.length:Int)<(all.length:Int):=by omega
   have hv:(all.map (·.1))[qs.length]?=some p.1:=by rw[hq];simp
   obtain⟨a,p1,p2⟩:=rd.elem hv
   have p3:=p2 h (fun _ _ q=>q)
   have ln:=(hp p (by rw[hq];simp)).len
   rw[pD]at ln
   have w1:IntKind.wrap .i64 (((cat qs).length:Int)+p.2.length)=((cat (qs++[p])).length:Int):=by
    rw[show((cat qs).length:Int)+p.2.length=((cat (qs++[p])).length:Int)by simp [cat]];exact ve (by simp [cat]at *;omega)
   have c2:¬((cat (qs++[p])).length:Int)<0:=by omega
   have w2:IntKind.wrap .i64 ((qs.length:Int)+1)=((qs++[p]).length:Int):=by
    rw[u4];exact ve (n:=qs.length+1) (by omega)
   obtain⟨e',q1,q2,q3⟩:=AH rd hp hT hA ps (qs++[p]) (by rw[hq];simp)
   have step:aK (aQ AP.A) bu AP.f62L1 (ax [(0,x),(3,I (cat qs).length),(9,x),(10,I all.length),(11,I qs.length)] [0,3,9,10,11]) h=some (.normal,[(0,x),(3,I (cat (qs++[p])).length),(9,x),(10,I all.length),(11,I (qs++[p]).length)],h):=by
    generalize hB:(qs++[p]).length=B at *
    simp only[I]at *
    simp only[AP.f62L1,go_sem,R2 c1,p1,p3,ln,w1,R0 c2,w2]
   exact⟨e',sW step q1,q2,q3⟩
theorem AJ {h0 : H} {x : AV} {all : List (AV × List Int)} (rd : Rd h0 x (all.map (·.1))) (hp : ∀ p ∈ all, Rd h0 p.1 (ints p.2)) (hT : (cat all).length < 1000000000) (hA : all.length < 1000000000) (id : Nat) (hid : h0.next ≤ id) :
 ∀(ps qs:List (AV×List Int)) (h:H),all=qs++ps→h.floor≤id→h.get id=some (ints (cat qs)++List.replicate (cat ps).length (I 0))→(∀i c,h0.get i=some c→h.get i=some c)→
 ∃e' h',Lp AP.A [6,25,26,27] AP.f62L0 [(6,.aD id 0 (cat qs).length 1),(25,x),(26,I all.length),(27,I qs.length)] h=some (.exit 2,e',h')∧look e' 6=.aD id 0 (cat all).length 1∧h'.get id=some (ints (cat all))
 | [], qs, h, hq, hf, hg, hm => by
   rw[Sf]at hq;subst hq
   refine⟨[(6,.aD id 0 (cat all).length 1),(25,x),(26,I all.length),(27,I all.length),(28,.bool false)],h,sV ?_,rfl,by rw[hg];simp [cat]⟩
   have c1:¬(all.length:Int)<(all.length:Int):=by omega
   simp only[I]at *
   simp only[AP.f62L0,go_sem,R0 c1]
 | p :: ps, qs, h, hq, hf, hg, hm => by
   have hlen:all.length=qs.length+(ps.length+1):=by rw[hq];simp
   have hct:(cat all).length=(cat qs).length+(p.2.length+(cat ps).length):=by rw[hq];simp [cat]
   have hcq:(cat (qs++[p])).length=(cat qs).length+p.2.length:=by simp [cat]
   have c1:(qs.length:Int)<(all.length:Int):=by omega
   have hv:(all.map (·.1))[qs.length]?=some p.1:=by rw[hq];simp
   obtain⟨a,p1,p2⟩:=rd.elem hv
   have p3:=p2 h hm
   have src:=((hp p (by rw[hq];simp)).mono hm).1
   rw[pD]at src
   have w2:IntKind.wrap .i64 ((qs.length:Int)+1)=((qs++[p]).length:Int):=by
    rw[u4];exact ve (n:=qs.length+1) (by omega)
   have hz:List.replicate (cat (p::ps)).length (I 0)=List.replicate p.2.length (I 0)++List.replicate (cat ps).length (I 0):=by
    rw[List.replicate_append_replicate,FD,u4]
   have hap:∃h1,kq h 1 8 (.aD id 0 (cat qs).length 1) p.1=some (.aD id 0 (cat (qs++[p])).length 1,h1)∧h1.floor=h.floor∧h1.get id=some (ints (cat (qs++[p]))++List.replicate (cat ps).length (I 0))∧∀i c,h0.get i=some c→h1.get i=some c:=by
    by_cases h0':p.2.length=0
    · have hp2:p.2=[]:=List.length_eq_zero_iff.1 h0'
      refine⟨h, ?_,rfl, ?_,hm⟩
      · unfold kq
        rw[src,uE]
        unfold dH
        rw[if_pos (by simp [h0']),hcq,h0',Nat.add_zero]
      · rw[hg,FD,hp2];simp [cat,hp2]
    · refine⟨h.set id (ints (cat (qs++[p]))++List.replicate (cat ps).length (I 0)), ?_,by simp,by rw[H.dj,if_pos rfl,hg];rfl,fun i c q=> ?_⟩
      · unfold kq
        rw[src,uE]
        have hs:setFrom (ints (cat qs)++List.replicate (cat (p::ps)).length (I 0)) (cat qs).length (ints p.2)=ints (cat (qs++[p]))++List.replicate (cat ps).length (I 0):=by
         have:=yy (List.replicate p.2.length (I 0)) (ints p.2) (ints (cat qs)) (List.replicate (cat ps).length (I 0)) (by simp)
         rw[pD]at this
         rw[hz,this];simp [cat,pC]
        unfold dH
        dsimp only
        rw[if_neg h0',if_neg (by simp [jA])]
        rw[if_pos ⟨rfl,hf⟩,hg,uE,if_pos (by rw[hz];simp)]
        rw[Nat.mul_one,uM,hs,hcq]
      · rw[H.dj,if_neg (by have:=h0.lt _ _ q;omega)];exact hm i c q
   obtain⟨h1,ap1,ap2,ap3,ap4⟩:=hap
   obtain⟨e',h',q1,q2,q3⟩:=AJ rd hp hT hA id hid ps (qs++[p]) h1 (by rw[hq];simp) (by rw[ap2];exact hf) ap3 ap4
   have step:aK (aQ AP.A) bu AP.f62L0 (ax [(6,.aD id 0 (cat qs).length 1),(25,x),(26,I all.length),(27,I qs.length)] [6,25,26,27]) h=some (.normal,[(6,.aD id 0 (cat (qs++[p])).length 1),(25,x),(26,I all.length),(27,I (qs++[p]).length)],h1):=by
    generalize hB:(qs++[p]).length=B at *
    simp only[I]at *
    simp only[AP.f62L0,go_sem,R2 c1,p1,p3,ap1,w2]
   exact⟨e',h',sW step q1,q2,q3⟩
def vX (l:List Int):AV:=.aU false (ints l) 0 l.length 1
theorem xS (h:H) (l:List Int):Rd h (vX l) (ints l):=by
 refine⟨?_,by intro s e;cases e⟩
 simp [aR,vX,uW]
theorem CC (h:H) (x:AV) (ps:List (AV×List Int)) (rd:Rd h x (ps.map (·.1))) (hp:∀p∈ps,Rd h p.1 (ints p.2)) (hT:(cat ps).length<1000000000) (hA:ps.length<1000000000) (h0:0<(cat ps).length):aQ AP.A 62 [x] h=some (vX (cat ps),h):=by
 have rd':=rd.mono (vu h)
 have hp':∀p∈ps,Rd h.dL p.1 (ints p.2):=fun p q=>(hp p q).mono (vu h)
 have ln:=rd.len
 rw[List.length_map]at ln
 obtain⟨e1,a1,a2,a3⟩:=AH rd' hp' hT hA ps [] rfl
 have a1':Lp AP.A [0,3,9,10,11] AP.f62L1 [(0,x),(3,I 0),(9,x),(10,I ps.length),(11,I 0)] h.dL=some (.exit 0,e1,h.dL):=a1
 clear a1
 have gc:=Og h.dL (cat ps).length h0 hT
 obtain⟨h1,hh1⟩:∃g,g=h.dL.alloc (List.replicate (cat ps).length (I 0)):=⟨_,rfl⟩
 rw[←hh1]at gc
 obtain⟨e2,h2,b1,b2,b3⟩:=AJ rd' hp' hT hA h.next (uH _) ps [] h1 rfl (by rw[hh1];simp) (by rw[hh1,H.aV,if_pos (show h.next=h.dL.next from rfl)];rfl)
  (fun i c q=>by rw[hh1,H.aV,if_neg (by have:=h.dL.lt _ _ q;omega)];exact q)
 have b1':Lp AP.A [6,25,26,27] AP.f62L0 [(6,.aD h.next 0 0 1),(25,x),(26,I ps.length),(27,I 0)] h1=some (.exit 2,e2,h2):=b1
 clear b1
 have hn:h.dL.next=h.next:=rfl
 refine tL (fn:=AP.f62) (h2:=h2) (e:=[(2,.aD h.next 0 (cat ps).length 1)]) (vs:=[.aD h.next 0 (cat ps).length 1]) rfl rfl rfl ?_ rfl ?_
 · simp only[I]at *
   simp only[AP.f62,go_sem,ln,rR,a1',a2,a3,gc,hn,b1',b2]
 · show snap h2.get h.next 16 true (.aD h.next 0 (cat ps).length 1)=_
   unfold snap
   rw[if_neg (by omega),b3,uE,if_pos (by simp)]
   have ht:((ints (cat ps)).drop 0).take ((cat ps).length* 1)=ints (cat ps):=by
    rw[Si,Nat.mul_one,uW (by simp)]
   rw[ht,xG];rfl
def vG:List Int:=List.replicate 144 8++(List.replicate 112 9++(List.replicate 24 7++List.replicate 8 8))
theorem OU (e:Env) (n:Int):aX e (.cC 1 1 [.int .i64 0] [(0,.c (.int .i64 n))])=some ([I n],fun i=>.aD i 0 1 1):=rfl
theorem zM (h:H) (n:Int):Rd (h.alloc [I n]) (.aD h.next 0 1 1) [I n]:=by
 refine⟨?_,by intro s e;cases e⟩
 simp [aR,H.aV]
theorem HU (h:H):aQ AP.A 42 [] h=some (vX vG,h):=by
 have r1:=yj (h.dL.alloc [I 8]) (.aD h.dL.next 0 1 1) 8 144 (by omega) (zM _ _)
 have r2:=yj ((h.dL.alloc [I 8]).alloc [I 9]) (.aD (h.dL.alloc [I 8]).next 0 1 1) 9 112 (by omega) (zM _ _)
 have r3:=yj (((h.dL.alloc [I 8]).alloc [I 9]).alloc [I 7]) (.aD ((h.dL.alloc [I 8]).alloc [I 9]).next 0 1 1) 7 24 (by omega) (zM _ _)
 have r4:=yj ((((h.dL.alloc [I 8]).alloc [I 9]).alloc [I 7]).alloc [I 8]) (.aD (((h.dL.alloc [I 8]).alloc [I 9]).alloc [I 7]).next 0 1 1) 8 8 (by omega) (zM _ _)
 obtain⟨g4,hg4⟩:∃g,g=(((h.dL.alloc [I 8]).alloc [I 9]).alloc [I 7]).alloc [I 8]:=⟨_,rfl⟩
 obtain⟨v1,hv1⟩:∃v,v=AV.aU false (ints (List.replicate 144 8)) 0 144 1:=⟨_,rfl⟩
 obtain⟨v2,hv2⟩:∃v,v=AV.aU false (ints (List.replicate 112 9)) 0 112 1:=⟨_,rfl⟩
 obtain⟨v3,hv3⟩:∃v,v=AV.aU false (ints (List.replicate 24 7)) 0 24 1:=⟨_,rfl⟩
 obtain⟨v4,hv4⟩:∃v,v=AV.aU false (ints (List.replicate 8 8)) 0 8 1:=⟨_,rfl⟩
 have hc:cat [(v1,List.replicate 144 8),(v2,List.replicate 112 9),(v3,List.replicate 24 7),(v4,List.replicate 8 8)]=vG:=by
  simp only[cat,vG,R3,List.flatMap_nil,Sf]
 have hfl:vG.length=288:=by simp only[vG,u4,Sc]
 have cc:=CC (g4.alloc [v1,v2,v3,v4]) (.aD g4.next 0 4 1) [(v1,List.replicate 144 8),(v2,List.replicate 112 9),(v3,List.replicate 24 7),(v4,List.replicate 8 8)]
  ⟨by simp [aR,H.aV],by intro s e;cases e⟩
  (by
    intro p hp
    simp only[uY,List.not_mem_nil,or_false]at hp
    rcases hp with rfl|rfl|rfl|rfl
    · rw[hv1];exact xS _ _
    · rw[hv2];exact xS _ _
    · rw[hv3];exact xS _ _
    · rw[hv4];exact xS _ _) (by rw[hc,hfl];omega) (by simp) (by rw[hc,hfl];omega)
 rw[hc]at cc
 have bt:∀e:Env,look e 2=v1→look e 4=v2→look e 6=v3→look e 8=v4→aX e (.cC 1 4 [.aO] [(0,.t 2),(1,.t 4),(2,.t 6),(3,.t 8)])=some ([v1,v2,v3,v4],fun i=>.aD i 0 4 1):=by
  intro e q1 q2 q3 q4
  simp only[aX,R5,SD,rT,q1,q2,q3,q4]
  rw[hv1,hv2,hv3,hv4];rfl
 refine tL (fn:=AP.f42) (h2:=g4.alloc [v1,v2,v3,v4]) (e:=[(0,vX vG)]) rfl rfl rfl ?_ rfl ?_
 · rw[←hv1]at r1;rw[←hv2]at r2;rw[←hv3]at r3;rw[←hv4]at r4
   rw[←hg4]at r4
   have r1':aQ AP.A 43 [.aD h.dL.next 0 1 1,I 144] (h.dL.alloc [I 8])=some (v1,h.dL.alloc [I 8]):=r1
   have r2':aQ AP.A 43 [.aD (h.dL.alloc [I 8]).next 0 1 1,I 112] ((h.dL.alloc [I 8]).alloc [I 9])=some (v2,(h.dL.alloc [I 8]).alloc [I 9]):=r2
   have r3':aQ AP.A 43 [.aD ((h.dL.alloc [I 8]).alloc [I 9]).next 0 1 1,I 24] (((h.dL.alloc [I 8]).alloc [I 9]).alloc [I 7])=some (v3,((h.dL.alloc [I 8]).alloc [I 9]).alloc [I 7]):=r3
   have r4':aQ AP.A 43 [.aD (((h.dL.alloc [I 8]).alloc [I 9]).alloc [I 7]).next 0 1 1,I 8] g4=some (v4,g4):=r4
   clear r1 r2 r3 r4 hv1 hv2 hv3 hv4 hc
   simp only[I]at *
   simp only[AP.f42,go_sem,OU,I,r1',r2',r3',←hg4,r4']
   rw[bt _ rfl rfl rfl rfl]
   simp only[me,sh,go_sem,cc]
 · simp only[de];unfold snap vX;rfl
def vw:List Int:=[16,17,18,0,8,7,9,6,10,5,11,4,12,3,13,2,14,1,15]
theorem H4 (h:H):aQ AP.A 79 [] h=some (vX vw,h):=by
 have b:aX [] (.cC 1 19 [.int .i64 0] [(0,(.c (.int .i64 16))),(1,(.c (.int .i64 17))),(2,(.c (.int .i64 18))),(3,(.c (.int .i64 0))),(4,(.c (.int .i64 8))),(5,(.c (.int .i64 7))),(6,(.c (.int .i64 9))),(7,(.c (.int .i64 6))),(8,(.c (.int .i64 10))),(9,(.c (.int .i64 5))),(10,(.c (.int .i64 11))),(11,(.c (.int .i64 4))),(12,(.c (.int .i64 12))),(13,(.c (.int .i64 3))),(14,(.c (.int .i64 13))),(15,(.c (.int .i64 2))),(16,(.c (.int .i64 14))),(17,(.c (.int .i64 1))),(18,(.c (.int .i64 15)))])=some (ints vw,fun i=>.aD i 0 19 1):=rfl
 refine tL (fn:=AP.f79) (h2:=h.dL.alloc (ints vw)) (e:=[(0,.aD h.next 0 19 1)]) (vs:=[.aD h.next 0 19 1]) rfl rfl rfl ?_ rfl ?_
 · have hn:h.dL.next=h.next:=rfl
   simp only[AP.f79,go_sem,b,hn]
 · show snap (h.dL.alloc (ints vw)).get h.next 16 true (.aD h.next 0 19 1)=_
   unfold snap
   rw[if_neg (by omega),H.aV,if_pos (show h.next=h.dL.next from rfl),uE,if_pos (by decide)]
   rw[show((ints vw).drop 0).take (19* 1)=ints vw from rfl,xG];rfl
def JS (c:ae) (d:Option Nat) (r:List aj) (e:Env) (p:Option (AV×H)):Option (Env×H×List H):=p.bind fun q=>aM c r (aL d q.1 e) q.2
theorem EM (c:ae) (d:Option Nat) (r:List aj) (e:Env) (v:AV) (h:H):JS c d r e (some (v,h))=aM c r (aL d v e) h:=uz rfl rfl
def I8 (aN:Bool) (h:H) (p:Option (Env×H×List H)):Option (Env×H×List H):=p.bind fun q=>some (q.1,q.2.1,if aN then h::q.2.2 else q.2.2)
theorem E5 (h:H) (e:Env) (h':H) (gs:List H):I8 true h (some (e,h',gs))=some (e,h',h::gs):=uz rfl rfl
theorem E4 (h:H) (e:Env) (h':H) (gs:List H):I8 false h (some (e,h',gs))=some (e,h',gs):=uz rfl rfl
theorem A6 (c:ae) (e:Env) (h:H):aM c [] e h=some (e,h,[h]):=uz rfl rfl
theorem Ek (c:ae) (o:aj) (r:List aj) (e:Env) (h:H):aM c (o::r) e h=I8 o.op.aN h (JS c o.dst r e (ai c o e h)):=by
 rw[aM]
 unfold I8 JS
 cases hv:ai c o e h with
 |none=>rfl
 | some q =>
   obtain⟨v,h'⟩:=q
   simp only[uE]
theorem EY (c:ae) (d:Option Nat) (op:bW) (r:List aj) (e:Env) (h:H):aM c (⟨d,op,none⟩::r) e h=I8 op.aN h (JS c d r e (ah c e h op)):=Ek _ _ _ _ _
theorem J4 (c:ae) (d:Option Nat) (op:bW) (g:Nat) (w:Bool) (r:List aj) (e:Env) (h:H):aM c (⟨d,op,some (g,w)⟩::r) e h=I8 op.aN h (JS c d r e (kM w c e h op (look e g))):=Ek _ _ _ _ _
theorem Jl {c:ae} {l:bJ} {e e':Env} {h h':H} {gs:List H} (ord:List Nat) (ops:List aj) (fl:List (Nat×List Nat)) (vR:List Nat) (h1:aM c ops e h=some (e',h',gs)) (h2:aY c ops e' gs fl=true):aK c l (.iE ord ops fl vR) e h=some (.normal,ax e' vR,h'):=by
 rw[aK,h1,uE]
 dsimp only
 rw[if_pos h2]
theorem BF {c:ae} {ops:List aj} {e:Env} {gs:List H} {i:Nat} {ks:List Nat} {r:List (Nat×List Nat)} (h1:∀k∈ks,bH c ops e gs i k=true) (h2:aY c ops e gs r=true):aY c ops e gs ((i,ks)::r)=true:=by
 simp only[aY,uI,List.all_eq_true]
 exact⟨h1,h2⟩
theorem BE {c:ae} {ops:List aj} {e:Env} {gs:List H} {i k:Nat} {o:aj} {g h':H} {d:Nat} {u:AV} (ho:ops[i]?=some o) (hg:gs[k]?=some g) (hb:o.op.aH=false) (hd:o.dst=some d) (hv:ai c o e g=some (u,h')) (hu:AV.beq u (look e d)=true):bH c ops e gs i k=true:=by
 unfold bH
 rw[ho,hg]
 dsimp only
 rw[hb]
 simp only[uF,u5,hd,R1,hv]
 exact hu
theorem EF (k:IntKind) (n:Int):AV.beq (.int k n) (.int k n)=true:=by simp [AV.beq]
theorem Cp (i o l z:Nat):AV.beq (.aD i o l z) (.aD i o l z)=true:=by simp [AV.beq]
theorem Fu (i o:Nat):AV.beq (.aC i o) (.aC i o)=true:=by simp [AV.beq]
theorem Cg (s:ByteArray):AV.beq (.str s) (.str s)=true:=by
 have:(s==s)=true:=by
  obtain⟨d⟩:=s
  show(d==d)=true
  exact beq_self_eq_true d
 simp [AV.beq,this]
theorem ni.apps {h:H} {v:AV} {cs:List AV} (o:ni h v cs) (hfn:h.floor≤h.next) {z:Nat} (bs:List AV) (hc:AV.aB bs=true) (hb:0<bs.length) (hr:roomy z (cs.length+bs.length)=true):
 ∃v' h',dH h 1 z v bs.length bs=some (v',h')∧ni h' v' (cs++bs)∧h'.floor=h.floor∧h.next≤h'.next∧(∀i,v.id?≠some i→i≠h.next→h'.get i=h.get i)∧v'.id?=some h.next:=by
 have hne:bs≠[]:=by intro e;rw[e]at hb;simp at hb
 rcases o with ⟨rfl,rfl⟩|⟨id,rfl,hg,hf,hne'⟩
 · refine⟨.aD h.next 0 bs.length 1,h.alloc bs, ?_,.inr ⟨h.next,by simp,by simp [H.aV], ?_,by simpa using hne⟩,by simp,by simp,fun i _ hi=>by rw[H.aV,if_neg hi],rfl⟩
   · unfold dH
     rw[if_neg (by omega),if_neg (by simp [hc])]
     simp only[RZ,uM]at hr
     simp only[hr,if_true]
   · simp;omega
 · refine⟨.aD h.next 0 (cs.length+bs.length) 1,(h.del id).alloc (cs++bs), ?_,.inr ⟨h.next,by simp,by simp [H.aV], ?_,by simp [hne]⟩,by simp,by simp,fun i h1 h2=> ?_,rfl⟩
   · unfold dH
     rw[if_neg (by omega),if_neg (by simp [hc])]
     simp only[hf,and_self,if_true,hg,uE]
     rw[if_neg (by omega),if_pos ⟨by omega,hr⟩]
     simp
   · have:=h.lt id cs hg;simp;omega
   · rw[H.aV,H.jm,if_neg h2,H.dO,if_neg]
     intro e;subst e;exact h1 rfl
theorem St.vR {c:SC} {S:SS} {h h':H} {ov:AV} (st:St c S h ov) (hf:h'.floor=h.floor) (hn:h.next≤h'.next) (hg:∀i,i=c.s∨i=c.r∨ov.id?=some i→h'.get i=h.get i):St c S h' ov:=by
 refine⟨by rw[hg _ (.inl rfl)];exact st.gs,by rw[hg _ (.inr (.inl rfl))];exact st.gr,st.own.mono hf fun i hi=>hg i (.inr (.inr hi)),st.sr,by rw[hf];exact st.fs,by rw[hf];exact st.fr,st.os,st.or,by rw[hf];exact uZ st.nx hn,st.sz,st.yC,st.ol,st.ml⟩
theorem St.lt {c:SC} {S:SS} {h:H} {ov:AV} (st:St c S h ov) {i:Nat} (hi:i=c.s∨i=c.r∨ov.id?=some i):i<h.next:=by
 rcases hi with rfl|rfl|hi
 · exact h.lt _ _ st.gs
 · exact h.lt _ _ st.gr
 · exact st.own.lt hi
theorem St.alloc {c:SC} {S:SS} {h:H} {ov:AV} (st:St c S h ov) (cs:List AV):St c S (h.alloc cs) ov∧Fr c h ov (h.alloc cs) ov:=by
 refine⟨st.vR (by simp) (by simp) fun i hi=> ?_,⟨by simp,by simp,fun id h1 _ _ _=> ?_,fun _ q=>.inl q⟩⟩
 · have:=st.lt hi;rw[H.aV,if_neg (by omega)]
 · rw[H.aV,if_neg (by omega)]
def wm (c:SC) (y:Int) (acc:List Int) (S:SS):(Int×Nat)×SS:=
 if y=16 then(if acc=[]then((0,0),vF 700 S)else((acc.getD (acc.length-1) 0,3+(vh c 2 S).1),(vh c 2 S).2))
 else if y=17 then((0,3+(vh c 3 S).1),(vh c 3 S).2)
 else if y=18 then((0,11+(vh c 7 S).1),(vh c 7 S).2)
 else((y,1),S)
theorem zI (c:SC) (S:SS) (n:Nat) (hn:n≤16):(vh c n S).1<65536:=by
 unfold vh;split
 · have:=wL c.text S.at_ n
   have:=Se (show 0<2 by omega) hn
   simp at *;omega
 · simp
theorem D0 {l:List Int} {i:Nat} (h:i<l.length):(ints l)[i]?=some (I (l.getD i 0)):=sC (by simp [List.getD,h])
theorem KU {c : SC} {S : SS} {h : H} {ov : AV} (st : St c S h ov) (y : Int) {av : AV} {acc : List Int} (oa : ni h av (ints acc)) (ha : acc.length < 100000) (hne : ∀ i, av.id? = some i → i ≠ c.s ∧ i ≠ c.r ∧ ov.id? ≠ some i) :
 ∃h',aQ AP.A 80 [.aC c.s 0,I y,av] h=some (.bO [I (wm c y acc S).1.1,I (wm c y acc S).1.2],h')∧St c (wm c y acc S).2 h' ov∧Fr c h ov h' ov:=by
 have ln:=oa.len
 rw[pD]at ln
 by_cases h16:y=16
 · have d16:=tS h16
   by_cases hnil:acc=[]
   · obtain⟨h',k1,k2,k3⟩:=xg st 700
     have e:wm c y acc S=((0,0),vF 700 S):=by rw[wm,if_pos h16,if_pos hnil]
     rw[e]
     refine⟨h', ?_,k2,k3⟩
     have hz:((acc.length:Int)==0)=true:=by rw[hnil];rfl
     refine tq (fn:=AP.f80) (e:=[(6,I 0),(7,I 0)]) rfl rfl rfl ?_ rfl
     simp only[I]at *
     simp only[AP.f80,go_sem,d16,ln,hz,k1]
   · obtain⟨h',k1,k2,k3⟩:=yH st 2 2 rfl (by omega)
     have e:wm c y acc S=((acc.getD (acc.length-1) 0,3+(vh c 2 S).1),(vh c 2 S).2):=by rw[wm,if_pos h16,if_neg hnil]
     rw[e]
     have hpos:0<acc.length:=List.length_pos_iff.2 hnil
     have hz:((acc.length:Int)==0)=false:=tR (by omega)
     have hg:=zI c S 2 (by omega)
     have w1:IntKind.wrap .i64 (3+((vh c 2 S).1:Int))=((3+(vh c 2 S).1:Nat):Int):=by
      rw[show(3:Int)+((vh c 2 S).1:Int)=((3+(vh c 2 S).1:Nat):Int)by omega];exact ve (by omega)
     have w2:IntKind.wrap .i64 ((acc.length:Int)-1)=((acc.length-1:Nat):Int):=by
      rw[show(acc.length:Int)-1=((acc.length-1:Nat):Int)by omega];exact ve (by omega)
     have hel:=D0 (l:=acc) (i:=acc.length-1) (by omega)
     obtain⟨id,i1,i2,i3⟩:=oa.elem hel
     have hid:=hne id (by rw[i1];rfl)
     have i4:h'.get id=some (ints acc):=by rw[k3.GV id (h.lt _ _ i3) hid.1 hid.2.1 hid.2.2];exact i3
     refine⟨h', ?_,k2,k3⟩
     refine tq (fn:=AP.f80) (e:=[(6,I (acc.getD (acc.length-1) 0)),(7,I (3+(vh c 2 S).1:Nat))]) rfl rfl rfl ?_ rfl
     generalize (vh c 2 S).1=G at *
     clear i1
     simp only[I]at *
     simp only[AP.f80,go_sem,d16,ln,hz]
     rw[Jl (e':=[(7,.int .i64 ((3+G:Nat):Int)),(6,.int .i64 (acc.getD (acc.length-1) 0)),(24,.int .i64 ((3+G:Nat):Int)),(23,.int .i64 G),(22,.aC c.s 0),(21,.int .i64 (acc.getD (acc.length-1) 0)),(20,.aC id (acc.length-1)),(19,.int .i64 (acc.length-1:Nat)),(18,.int .i64 acc.length),(17,av),(16,av),(0,.aC c.s 0),(2,av)]) (h':=h') (gs:=[h,h'])]
     · simp only[go_sem]
     · simp only[A6,EY,EM,E5,E4,bW.aN,go_sem,ln,w2,i2,i3,hel,k1,w1]
     · refine BF (fun k hk=> ?_) rfl
       obtain rfl:k=1:=by simpa using hk
       refine BE (o:=⟨some 21,.load false 1 (.t 20),none⟩) (g:=h') (h':=h') (d:=21) (u:=.int .i64 (acc.getD (acc.length-1) 0)) rfl rfl rfl rfl ?_ ?_
       · simp only[ai,go_sem,i4,hel]
       · simp only[go_sem,EF]
 · have d16:=tR h16
   by_cases h17:y=17
   · have d17:=tS h17
     obtain⟨h',k1,k2,k3⟩:=yH st 3 3 rfl (by omega)
     have e:wm c y acc S=((0,3+(vh c 3 S).1),(vh c 3 S).2):=by rw[wm,if_neg h16,if_pos h17]
     rw[e]
     have hg:=zI c S 3 (by omega)
     have w1:IntKind.wrap .i64 (3+((vh c 3 S).1:Int))=((3+(vh c 3 S).1:Nat):Int):=by
      rw[show(3:Int)+((vh c 3 S).1:Int)=((3+(vh c 3 S).1:Nat):Int)by omega];exact ve (by omega)
     refine⟨h', ?_,k2,k3⟩
     refine tq (fn:=AP.f80) (e:=[(6,I 0),(7,I (3+(vh c 3 S).1:Nat))]) rfl rfl rfl ?_ rfl
     simp only[I]at *
     simp only[AP.f80,go_sem,d16,d17,k1,w1]
   · have d17:=tR h17
     by_cases h18:y=18
     · have d18:=tS h18
       obtain⟨h',k1,k2,k3⟩:=yH st 7 7 rfl (by omega)
       have e:wm c y acc S=((0,11+(vh c 7 S).1),(vh c 7 S).2):=by rw[wm,if_neg h16,if_neg h17,if_pos h18]
       rw[e]
       have hg:=zI c S 7 (by omega)
       have w1:IntKind.wrap .i64 (11+((vh c 7 S).1:Int))=((11+(vh c 7 S).1:Nat):Int):=by
        rw[show(11:Int)+((vh c 7 S).1:Int)=((11+(vh c 7 S).1:Nat):Int)by omega];exact ve (by omega)
       refine⟨h', ?_,k2,k3⟩
       refine tq (fn:=AP.f80) (e:=[(6,I 0),(7,I (11+(vh c 7 S).1:Nat))]) rfl rfl rfl ?_ rfl
       simp only[I]at *
       simp only[AP.f80,go_sem,d16,d17,d18,k1,w1]
     · have d18:=tR h18
       have e:wm c y acc S=((y,1),S):=by rw[wm,if_neg h16,if_neg h17,if_neg h18]
       rw[e]
       refine⟨h, ?_,st,Fr.refl _ _ _⟩
       refine tq (fn:=AP.f80) (e:=[(6,I y),(7,I 1)]) rfl rfl rfl ?_ rfl
       simp only[I]at *
       simp only[AP.f80,go_sem,d16,d17,d18]
def Bx (t:ByteArray):List Int→Nat→List Int→List Int
 |[],_,o=>o
 |s::r,p,o=>Bx t r (p+3) (o.set s.toNat (vg t p 3))
def xj (t:ByteArray) (y:Int) (acc:List Int) (p:Nat):Option (Int×Nat×Nat):=
 if y=16 then(if acc=[]then none else if p+2≤8* t.size then some (acc.getD (acc.length-1) 0,3+vg t p 2,p+2)else none)
 else if y=17 then(if p+3≤8* t.size then some (0,3+vg t p 3,p+3)else none)
 else if y=18 then(if p+7≤8* t.size then some (0,11+vg t p 7,p+7)else none)
 else some (y,1,p)
def vY (t : ByteArray) (cl : List Int) (many : Nat) : Nat → List Int → Nat → Option (List Int × Nat)
 |0,_,_=>none
 | f + 1, acc, p => if acc.length < many then
     match xB t cl 15 1 0 p with
     |none=>none
     | some (y, p1) => match xj t y acc p1 with
       |none=>none
       |some (n,times,p2)=>vY t cl many f (acc++List.replicate times n) p2
   else if many<acc.length then none else some (acc,p)
def xy (t : ByteArray) (many : Nat) (p : Nat) : Option (List Int × Nat) :=
 if p+4≤8* t.size then
  let k:=vg t p 4+4
  if p+4+3* k≤8* t.size then
   let cl:=Bx t (vw.take k) (p+4) (List.replicate 19 0)
   if vy cl=0 then vY t cl many (8* t.size+1) [] (p+4+3* k)else none
  else none
 else none
theorem G4 {h:H} {t:Bool} {N k:Nat} {cs:List AV} (hN:cs.length=N) (hk:k≤N):rM h 1 (.aU t cs 0 N 1) none (some (I k)) none=some (.aU t cs 0 k 1):=by
 simp [rM,hN,aA,Kj hk]
theorem Ed:∀s∈vw,0≤s∧s<19:=by decide
def zw (c:SC):List Int→List Int→SS→List Int×SS
 |[],o,S=>(o,S)
 |s::r,o,S=>zw c r (o.set s.toNat ((vh c 3 S).1:Nat)) (vh c 3 S).2
theorem Gn (c:SC):∀(r o:List Int) (S:SS),(zw c r o S).1.length=o.length
 |[],o,S=>rfl
 |s::r,o,S=>by rw[zw,Gn c r];simp
theorem H5 (c : SC) : ∀ (r o : List Int) (S : SS), (∀ y ∈ o, 0 ≤ y ∧ y < 16) → ∀ y ∈ (zw c r o S).1, 0 ≤ y ∧ y < 16
 |[],o,S,h=>h
 | s :: r, o, S, h => by
   rw[zw]
   refine H5 c r _ _ fun y hy=> ?_
   rcases Ss hy with q|q
   · exact h y q
   · subst q
     have:(vh c 3 S).1<8:=by
      unfold vh;split
      · simpa using wL c.text S.at_ 3
      · simp
     omega
theorem H6 (c:SC):∀(r o:List Int) (S:SS),S.e=0→S.at_+3* r.length≤8* c.text.size→zw c r o S=(Bx c.text r S.at_ o,{S with at_:=S.at_+3* r.length})
 |[],o,S,he,h=>rfl
 | s :: r, o, S, he, h => by
   rw[RX]at h
   have eg:vh c 3 S=(vg c.text S.at_ 3,{S with at_:=S.at_+3}):=by rw[vh,if_pos (by omega)]
   rw[zw,eg]
   dsimp only
   rw[H6 c r _ {S with at_:=S.at_+3} he (by dsimp only;omega)]
   simp only[Bx,RX]
   rw[show S.at_+3+3* r.length=S.at_+3* (r.length+1)by omega]
theorem JO (c:SC) (n:Nat) (S:SS) (h:S.e=0∨S.e=700):(vh c n S).2.e=0∨(vh c n S).2.e=700:=by
 unfold vh;split
 · exact h
 · rcases h with h|h<;>simp [vF,h]
theorem Lf (c:SC) (n:Nat) (S:SS) (h:S.e=700):(vh c n S).2.e=700:=by
 unfold vh;split
 · exact h
 · simp [vF,h]
theorem E0 (c:SC):∀(r o:List Int) (S:SS),S.e=700→(zw c r o S).2.e=700
 |[],o,S,h=>h
 |s::r,o,S,h=>by rw[zw];exact E0 c r _ _ (Lf c 3 S h)
theorem Gm (c:SC):∀(r o:List Int) (S:SS),S.e=0→S.at_≤8* c.text.size→8* c.text.size<S.at_+3* r.length→(zw c r o S).2.e=700
 |[],o,S,he,hle,h=>by simp at h;omega
 | s :: r, o, S, he, hle, h => by
   rw[zw]
   rw[RX]at h
   by_cases hp:S.at_+3≤8* c.text.size
   · have eg:vh c 3 S=(vg c.text S.at_ 3,{S with at_:=S.at_+3}):=by rw[vh,if_pos hp]
     rw[eg]
     exact Gm c r _ _ he hp (by dsimp only;omega)
   · have eg:vh c 3 S=(0,{S with e:=700}):=by rw[vh,if_neg hp,vF,if_pos he]
     rw[eg]
     exact E0 c r _ _ rfl
theorem Gp {c:SC} (a:Nat) (x:AV) (xs:List Int) (hxs:∀s∈xs,0≤s∧s<19) (hxl:xs.length≤19) (hac:a≠c.s∧a≠c.r) (m:AV):∀(q p o:List Int) (S:SS) (h:H) (ov:AV),xs=p++q→Rd h x (ints xs)→(∀i,x.id?≠some i)→St c S h ov→ov.id?≠some a→h.get a=some (ints o)→o.length=19→h.floor≤a→
 ∃ e' h', Lp AP.A [0, 1, 5, 18, 19, 20] AP.f64L1 [(0, .aC c.s 0), (1, m), (5, .aC a 0), (18, x), (19, I xs.length), (20, I p.length)] h = some (.exit 0, e', h') ∧ look e' 0 = .aC c.s 0 ∧ look e' 1 = m ∧ look e' 5 = .aC a 0 ∧
   St c (zw c q o S).2 h' ov∧h'.get a=some (ints (zw c q o S).1)∧h'.floor=h.floor∧h.next≤h'.next∧∀i,i<h.next→i≠c.s→i≠c.r→ov.id?≠some i→i≠a→h'.get i=h.get i
 | [], p, o, S, h, ov, hp, rd, hx, st, hoa, hg, ho, hf => by
   rw[Sf]at hp;subst hp
   refine⟨[(0,.aC c.s 0),(1,m),(5,.aC a 0),(18,x),(19,I xs.length),(20,I xs.length),(21,.bool false)],h,sV ?_,rfl,rfl,rfl,st,hg,rfl,uH _,fun _ _ _ _ _ _=>rfl⟩
   have c1:¬(xs.length:Int)<(xs.length:Int):=by omega
   simp only[I]at *
   simp only[AP.f64L1,go_sem,R0 c1]
 | s :: q, p, o, S, h, ov, hp, rd, hx, st, hoa, hg, ho, hf => by
   have hlen:xs.length=p.length+(q.length+1):=by rw[hp];simp
   have c1:(p.length:Int)<(xs.length:Int):=by omega
   have hs:=hxs s (by rw[hp];simp)
   obtain⟨sn,hsn⟩:∃n:Nat,s=n:=R4 hs.1
   subst hsn
   have hv:(ints xs)[p.length]?=some (I sn):=sC (by rw[hp];simp)
   obtain⟨ad,p1,p2⟩:=rd.elem hv
   have p3:=p2 h (fun _ _ q=>q)
   obtain⟨h1,k1,k2,k3⟩:=yH st 3 3 rfl (by omega)
   have hal:a<h.next:=h.lt _ _ hg
   have hg1:h1.get a=some (ints o):=by rw[k3.GV a hal hac.1 hac.2 hoa];exact hg
   have a1:cM (I sn) 19=some sn:=j4 (by omega)
   have hset:(ints o).set sn (I ((vh c 3 S).1:Nat))=ints (o.set sn ((vh c 3 S).1:Nat)):=by simp [ints,List.map_set]
   have hst:tN h1 a sn 1 [I ((vh c 3 S).1:Nat)] (some (ints o))=some (h1.set a (ints (o.set sn ((vh c 3 S).1:Nat)))):=by
    rw[ue (by rw[k3.fl];exact hf) (by rw[pD];omega) rfl,hset]
   have w2:IntKind.wrap .i64 ((p.length:Int)+1)=(((p++[(sn:Int)]).length:Nat):Int):=by
    rw[u4];exact ve (n:=p.length+1) (by omega)
   have step:aK (aQ AP.A) bu AP.f64L1 (ax [(0,.aC c.s 0),(1,m),(5,.aC a 0),(18,x),(19,I xs.length),(20,I p.length)] [0,1,5,18,19,20]) h=some (.normal,[(0,.aC c.s 0),(1,m),(5,.aC a 0),(18,x),(19,I xs.length),(20,I (p++[(sn:Int)]).length)],h1.set a (ints (o.set sn ((vh c 3 S).1:Nat)))):=by
    generalize ints (o.set sn ((vh c 3 S).1:Nat))=W at *
    generalize (p++[(sn:Int)]).length=B at *
    generalize (vh c 3 S).1=G at *
    generalize ints o=OO at *
    simp only[I]at *
    simp only[AP.f64L1,go_sem,R2 c1,p1,p3,k1,a1,hg1,hst,w2]
   have st2:St c (vh c 3 S).2 (h1.set a (ints (o.set sn ((vh c 3 S).1:Nat)))) ov:=k2.vR (by simp) (by simp) fun i hi=>by
    rw[H.dj,if_neg]
    rintro rfl
    rcases hi with hi|hi|hi
    · exact hac.1 hi
    · exact hac.2 hi
    · exact hoa hi
   have rd2:Rd (h1.set a (ints (o.set sn ((vh c 3 S).1:Nat)))) x (ints xs):=by
    refine⟨?_,rd.2⟩
    have:=rd.1
    unfold aR at this ⊢
    split at this
    · exact this
    · exact this
    · exact absurd rfl (hx _)
    · exact this
    · cases this
   obtain⟨e',h',q1,q2,q3,q4,q5,q6,q7,q8,q9⟩:=Gp a x xs hxs hxl hac m q (p++[(sn:Int)]) (o.set sn ((vh c 3 S).1:Nat)) _ _ ov (by rw[hp];simp) rd2 hx st2 hoa (by rw[H.dj,if_pos rfl,hg1];rfl) (by simpa using ho) (by simp [k3.fl];exact hf)
   refine⟨e',h',sW step q1,q2,q3,q4, ?_, ?_,by rw[q7];simp [k3.fl],by have:=k3.nx;simp at q8;omega,fun i i1 i2 i3 i4 i5=> ?_⟩
   · rw[zw];exact q5
   · rw[zw];exact q6
   · rw[q9 i (by have:=k3.nx;simp;omega) i2 i3 i4 i5,H.dj,if_neg i5,k3.GV i i1 i2 i3 i4]
theorem ya {c:SC} {S:SS} {h:H} {ov:AV} (st:St c S h ov) (b:AV) (many:Nat) {av:AV} {acc:List Int} (oa:ni h av (ints acc)) (hs:many≤acc.length∨(acc.length<many∧S.e≠0)):
 ∃e',Lp AP.A [0,1,9,10] AP.f64L0 [(0,.aC c.s 0),(1,I many),(9,b),(10,av)] h=some (.exit 2,e',h)∧look e' 0=.aC c.s 0∧look e' 1=I many∧look e' 10=av:=by
 have gs:=st.gs
 have ln:=oa.len
 rw[pD]at ln
 refine⟨[(0,.aC c.s 0),(1,I many),(9,b),(10,av),(46,.bool false)],sV ?_,rfl,rfl,rfl⟩
 rcases hs with hs|⟨hs,he⟩
 · have c1:¬(acc.length:Int)<many:=by omega
   simp only[I]at *
   simp only[AP.f64L0,go_sem,ln,R0 c1]
 · have c1:(acc.length:Int)<many:=by omega
   have c2:=tR he
   simp only[I]at *
   simp only[AP.f64L0,go_sem,ln,R2 c1,gs,c2]
theorem Iv {c : SC} {S : SS} {y : Int} {acc : List Int} (he : S.e = 0) :
 match xj c.text y acc S.at_ with
 |some (n,times,p)=>wm c y acc S=((n,times),{S with at_:=p})∧S.at_≤p
 |none=>(wm c y acc S).2.e=700:=by
 unfold xj wm
 by_cases h16:y=16
 · rw[if_pos h16,if_pos h16]
   by_cases hn:acc=[]
   · rw[if_pos hn,if_pos hn];simp [vF,he]
   · rw[if_neg hn,if_neg hn]
     by_cases hp:S.at_+2≤8* c.text.size
     · simp [vh,hp]
     · simp [vh,hp,vF,he]
 · rw [if_neg h16, if_neg h16]
   by_cases h17:y=17
   · rw[if_pos h17,if_pos h17]
     by_cases hp:S.at_+3≤8* c.text.size
     · simp [vh,hp]
     · simp [vh,hp,vF,he]
   · rw[if_neg h17,if_neg h17]
     by_cases h18:y=18
     · rw[if_pos h18,if_pos h18]
       by_cases hp:S.at_+7≤8* c.text.size
       · simp [vh,hp]
       · simp [vh,hp,vF,he]
     · rw[if_neg h18,if_neg h18]
       exact⟨rfl,uH _⟩
theorem EA (c:SC) (y:Int) (acc:List Int) (S:SS):(wm c y acc S).1.2<70000:=by
 unfold wm
 have h2:=zI c S 2 (by omega)
 have h3:=zI c S 3 (by omega)
 have h7:=zI c S 7 (by omega)
 repeat' split
 all_goals (dsimp only;omega)
theorem D8 {c : SC} (h0 : H) (cl : List Int) (hcl : cl.length < 100000) (many : Nat) (hm : many ≤ 400) : ∀ (f : Nat) (acc : List Int) (S : SS) (h : H) (ov av : AV), St c S h ov → S.e = 0 → 8 * c.text.size < S.at_ + f → Fr c h0 ov h ov → ni h av (ints acc) → acc.length < 80000 → (∀ i, av.id? = some i → h0.next ≤ i) → (∀ i, (i = c.s ∨ i = c.r ∨ ov.id? = some i) → i < h0.next) →
 ∃ e' h' S' av' acc', Lp AP.A [0, 1, 9, 10] AP.f64L0 [(0, .aC c.s 0), (1, I many), (9, vB cl), (10, av)] h = some (.exit 2, e', h') ∧ look e' 0 = .aC c.s 0 ∧ look e' 1 = I many ∧ look e' 10 = av' ∧ St c S' h' ov ∧ Fr c h0 ov h' ov ∧ ni h' av' (ints acc') ∧ acc'.length < 200000 ∧ (∀ i, av'.id? = some i → h0.next ≤ i) ∧
   match vY c.text cl many f acc S.at_ with
   |some (L,p)=>S'={S with at_:=p}∧acc'=L∧L.length=many
   |none=>S'.e=700∨(S'.e=0∧many<acc'.length)
 |0,acc,S,h,ov,av,st,he,hk,fr,oa,hal,hid,hlo=>by have:=st.yC;omega
 | f + 1, acc, S, h, ov, av, st, he, hk, fr, oa, hal, hid, hlo => by
   by_cases hlt:acc.length<many
   · rw [vY, if_pos hlt]
     have gs:=st.gs
     have ln:=oa.len
     rw[pD]at ln
     have c1:(acc.length:Int)<many:=by omega
     obtain⟨h1,S1,y,s1,s2,s3,s4⟩:=Dp cl hcl st he
     have hneq:∀i,av.id?=some i→i≠c.s∧i≠c.r∧ov.id?≠some i:=fun i hi=>by
      have:=hid i hi
      refine⟨fun e=> ?_,fun e=> ?_,fun e=> ?_⟩
      · have:=hlo i (.inl e);omega
      · have:=hlo i (.inr (.inl e));omega
      · have:=hlo i (.inr (.inr e));omega
     have oa1:ni h1 av (ints acc):=oa.mono s3.fl fun i hi=>s3.GV i (oa.lt hi) (hneq i hi).1 (hneq i hi).2.1 (hneq i hi).2.2
     obtain⟨h2,r1,r2,r3⟩:=KU s2 y oa1 (by omega) hneq
     have oa2:ni h2 av (ints acc):=oa1.mono r3.fl fun i hi=>r3.GV i (oa1.lt hi) (hneq i hi).1 (hneq i hi).2.1 (hneq i hi).2.2
     obtain⟨n,hn⟩:∃n,n=(wm c y acc S1).1.1:=⟨_,rfl⟩
     obtain⟨times,htm⟩:∃n,n=(wm c y acc S1).1.2:=⟨_,rfl⟩
     obtain⟨S2,hS2⟩:∃n,n=(wm c y acc S1).2:=⟨_,rfl⟩
     have htb:=EA c y acc S1
     rw[←hn,←htm]at r1;rw[←hS2]at r2;rw[←htm]at htb
     have al:=r2.alloc [I n]
     have rp:=yj (h2.alloc [I n]) (.aD h2.next 0 1 1) n times (by omega) (zM _ _)
     have oa3:ni (h2.alloc [I n]) av (ints acc):=oa2.mono (by simp) fun i hi=>by
      have:=oa2.lt hi;rw[H.aV,if_neg (by omega)]
     have hfr3:=((fr.trans s3).trans r3).trans al.2
     have hap:∃v' h3,kq (h2.alloc [I n]) 1 8 av (.aU false (ints (List.replicate times n)) 0 times 1)=some (v',h3)∧ni h3 v' (ints (acc++List.replicate times n))∧St c S2 h3 ov∧Fr c h0 ov h3 ov∧∀i,v'.id?=some i→h0.next≤i:=by
      have src:aR (h2.alloc [I n]) 1 (.aU false (ints (List.replicate times n)) 0 times 1)=some (times,ints (List.replicate times n)):=by
       simp [aR,uW]
      by_cases ht0:times=0
      · subst ht0
        refine⟨av,h2.alloc [I n], ?_,by simpa using oa3,al.1,hfr3,hid⟩
        unfold kq
        rw[src,uE]
        unfold dH
        rw[if_pos rfl]
        rcases oa3 with ⟨rfl,_⟩|⟨id,rfl,_⟩<;>rfl
      · have hnx:=al.1.nx
        obtain⟨v',h3,q1,q2,q3,q4,q5,q6⟩:=oa3.apps hnx (z:=8) (ints (List.replicate times n)) (jA _) (by simp;omega) (by simp [roomy];omega)
        refine⟨v',h3, ?_,by rw[pC];exact q2,al.1.vR q3 q4 fun i hi=> ?_,⟨q3.trans hfr3.fl,uZ hfr3.nx q4,fun id i1 i2 i3 i4=> ?_,fun i hi=>.inl hi⟩,fun i hi=> ?_⟩
        · unfold kq
          rw[src,uE]
          have hl:(ints (List.replicate times n)).length=times:=by simp
          rw[hl]at q1;exact q1
        · have hlt0:=hlo i hi
          have hle:h0.next≤(h2.alloc [I n]).next:=hfr3.nx
          exact q5 i (fun e=>by have:=hid i e;omega) (by omega)
        · have hle:h0.next≤(h2.alloc [I n]).next:=hfr3.nx
          rw[q5 id (fun e=>by have:=hid id e;omega) (by omega)]
          exact hfr3.GV id i1 i2 i3 i4
        · rw[q6]at hi;cases hi;exact hfr3.nx
     obtain⟨v',h3,ap1,ap2,ap3,ap4,ap5⟩:=hap
     have step:aK (aQ AP.A) bu AP.f64L0 (ax [(0,.aC c.s 0),(1,I many),(9,vB cl),(10,av)] [0,1,9,10]) h=some (.normal,[(0,.aC c.s 0),(1,I many),(9,vB cl),(10,v')],h3):=by
      have bs:∀(e:Env),look e 57=.int .i64 n→aX e (.cC 1 1 [.int .i64 0] [(0,.t 57)])=some ([.int .i64 n],fun i=>.aD i 0 1 1):=by
       intro e q
       simp only[aX,R5,SD,rT,q];rfl
      simp only[I]at *
      simp only[AP.f64L0,go_sem,ln,R2 c1,gs,he,s1,r1]
      rw[bs _ rfl]
      simp only[go_sem,rp,ap1]
     have hacc':(acc++List.replicate times n).length<80000:=by simp;omega
     cases hz:xB c.text cl 15 1 0 S.at_ with
     | none =>
       rw[hz]at s4
       obtain⟨s4,s5⟩:=s4
       have hy:y=256:=s5
       have hag:wm c y acc S1=((y,1),S1):=by rw[wm,if_neg (by omega),if_neg (by omega),if_neg (by omega)]
       have hS2e:S2.e=700:=by rw[hS2,hag];exact s4
       dsimp only
       by_cases hlt2:(acc++List.replicate times n).length<many
       · obtain⟨e',q1,q2,q3,q4⟩:=ya ap3 (vB cl) many ap2 (.inr ⟨hlt2,by rw[hS2e];decide⟩)
         exact⟨e',h3,S2,v',_,sW step q1,q2,q3,q4,ap3,ap4,ap2,by omega,ap5,.inl hS2e⟩
       · obtain⟨e',q1,q2,q3,q4⟩:=ya ap3 (vB cl) many ap2 (.inl (by omega))
         exact⟨e',h3,S2,v',_,sW step q1,q2,q3,q4,ap3,ap4,ap2,by omega,ap5,.inl hS2e⟩
     | some yp =>
       obtain⟨z,p1⟩:=yp
       rw[hz]at s4
       obtain⟨s4,s5⟩:=s4
       subst s5 s4
       have zb:=xi hz
       have hok:=Iv (c:=c) (S:={S with at_:=p1}) (y:=y) (acc:=acc) he
       dsimp only at hok ⊢
       cases ha:xj c.text y acc p1 with
       | none =>
         rw[ha]at hok
         have hS2e:S2.e=700:=by rw[hS2];exact hok
         dsimp only
         by_cases hlt2:(acc++List.replicate times n).length<many
         · obtain⟨e',q1,q2,q3,q4⟩:=ya ap3 (vB cl) many ap2 (.inr ⟨hlt2,by rw[hS2e];decide⟩)
           exact⟨e',h3,S2,v',_,sW step q1,q2,q3,q4,ap3,ap4,ap2,by omega,ap5,.inl hS2e⟩
         · obtain⟨e',q1,q2,q3,q4⟩:=ya ap3 (vB cl) many ap2 (.inl (by omega))
           exact⟨e',h3,S2,v',_,sW step q1,q2,q3,q4,ap3,ap4,ap2,by omega,ap5,.inl hS2e⟩
       | some q =>
         obtain⟨n2,t2,p2⟩:=q
         rw[ha]at hok
         obtain⟨hok,hp12⟩:=hok
         rw[hok]at hn htm hS2
         dsimp only at hn htm hS2
         subst hn htm hS2
         obtain⟨e',h',S',av',acc',q1,q2,q3,q4,q5,q6,q7,q8,q9,q10⟩:=D8 h0 cl hcl many hm f (acc++List.replicate times n) _ h3 ov v' ap3 he (by dsimp only;omega) ap4 ap2 hacc' ap5 hlo
         exact⟨e',h',S',av',acc',sW step q1,q2,q3,q4,q5,q6,q7,q8,q9,q10⟩
   · obtain⟨e',q1,q2,q3,q4⟩:=ya st (vB cl) many oa (.inl (by omega))
     refine⟨e',h,S,av,acc,q1,q2,q3,q4,st,fr,oa,by omega,hid, ?_⟩
     rw[vY,if_neg hlt]
     by_cases hgt:many<acc.length
     · rw[if_pos hgt];exact .inr ⟨he,hgt⟩
     · rw[if_neg hgt];exact⟨rfl,rfl,by omega⟩
theorem IV {c : SC} {S : SS} {h : H} {ov : AV} (st : St c S h ov) (he : S.e = 0) (many : Nat) (hm0 : 0 < many) (hm : many ≤ 400) :
 ∃ h' S' av acc, aQ AP.A 64 [.aC c.s 0, I many] h = some (av, h') ∧ St c S' h' ov ∧ Fr c h ov h' ov ∧ ni h' av (ints acc) ∧ (∀ i, av.id? = some i → h.next ≤ i) ∧ match xy c.text many S.at_ with
   |some (L,p)=>S'={S with at_:=p}∧acc=L∧L.length=many
   |none=>S'.e=700:=by
 have gs:=st.gs
 obtain⟨a,ha⟩:∃a,a=h.next:=⟨_,rfl⟩
 obtain⟨g0,hg0⟩:∃g,g=h.alloc (ints (List.replicate 19 0)):=⟨_,rfl⟩
 have al:=st.alloc (ints (List.replicate 19 0))
 rw[←hg0]at al
 have hga:g0.get a=some (ints (List.replicate 19 0)):=by rw[hg0,H.aV,if_pos ha]
 have oc:=H4 g0
 obtain⟨h1,k1,k2,k3⟩:=yH al.1 4 4 rfl (by omega)
 obtain⟨G,hG⟩:∃G,G=(vh c 4 S).1:=⟨_,rfl⟩
 obtain⟨S1,hS1⟩:∃G,G=(vh c 4 S).2:=⟨_,rfl⟩
 rw[←hG]at k1;rw[←hS1]at k2
 have hG16:G<16:=by
  rw[hG];unfold vh;split
  · simpa using wL c.text S.at_ 4
  · simp
 have w1:IntKind.wrap .i64 ((G:Int)+4)=((G+4:Nat):Int):=ve (n:=G+4) (by omega)
 obtain⟨x,hx⟩:∃x,x=AV.aU false (ints vw) 0 (G+4) 1:=⟨_,rfl⟩
 have sl:rM h1 1 (vX vw) none (some (I (G+4:Nat))) none=some x:=by
  rw[hx];exact G4 (by rw[pD]) (by show G+4≤19;omega)
 have xl:iP false x=some (I (G+4:Nat)):=by rw[hx];rfl
 obtain⟨xs,hxs⟩:∃xs,xs=vw.take (G+4):=⟨_,rfl⟩
 have hol:vw.length=19:=rfl
 have hxsl:xs.length=G+4:=by rw[hxs,Sv,hol];omega
 have rdx:Rd h1 x (ints xs):=by
  refine⟨?_,by rw[hx];intro s e;cases e⟩
  have ht:(ints vw).take (G+4)=ints xs:=by rw[hxs];simp [ints,List.map_take]
  simp only[aR,hx,if_true]
  rw[if_pos (by rw[pD,hol];omega),Si,Nat.mul_one,ht];simp [hxsl]
 have hac:a≠c.s∧a≠c.r:=⟨fun e=>by have:=st.lt (.inl e);omega,fun e=>by have:=st.lt (.inr (.inl e));omega⟩
 have hoa:ov.id?≠some a:=fun e=>by have:=st.lt (.inr (.inr e));omega
 have hga1:h1.get a=some (ints (List.replicate 19 0)):=by rw[k3.GV a (g0.lt _ _ hga) hac.1 hac.2 hoa];exact hga
 have hfa:h1.floor≤a:=by rw[k3.fl,hg0,ha];simp;exact st.nx
 obtain⟨e2,h2,l1,l2,l3,l4,l5,l6,l7,l8,l9⟩:=Gp (c:=c) a x xs (fun s hs=>Ed s (List.mem_of_mem_take (hxs ▸ hs))) (by omega) hac (I many) xs [] (List.replicate 19 0) S1 h1 ov rfl rdx (by rw[hx];intro i e;cases e) k2 hoa hga1 (by simp) hfa
 obtain⟨cl,hcl⟩:∃cl,cl=(zw c xs (List.replicate 19 0) S1).1:=⟨_,rfl⟩
 obtain⟨S2,hS2⟩:∃cl,cl=(zw c xs (List.replicate 19 0) S1).2:=⟨_,rfl⟩
 rw[←hS2]at l5;rw[←hcl]at l6
 have hcll:cl.length=19:=by rw[hcl,Gn];simp
 have hclb:∀y∈cl,0≤y∧y<16:=by
  rw[hcl];refine H5 c _ _ _ fun y hy=> ?_
  obtain⟨_,rfl⟩:=List.mem_replicate.1 hy;omega
 rw[hxsl]at l1
 have l1':Lp AP.A [0,1,5,18,19,20] AP.f64L1 [(0,.aC c.s 0),(1,I many),(5,.aC a 0),(18,x),(19,I (G+4:Nat)),(20,I 0)] h1=some (.exit 0,e2,h2):=l1
 clear l1
 have fr2:Fr c h ov h2 ov:=by
  refine⟨by rw[l7,k3.fl,al.2.fl], ?_,fun id i1 i2 i3 i4=> ?_,fun i hi=>.inl hi⟩
  · have:=al.2.nx;have:=k3.nx;omega
  · have hn0:g0.next=h.next+1:=by rw[hg0];simp
    have:=k3.nx
    rw[l9 id (by omega) i2 i3 i4 (by omega),k3.GV id (by omega) i2 i3 i4,al.2.GV id i1 i2 i3 i4]
 have rz:lZ h2 19 1 (.aC a 0) none none=some (.aD a 0 19 1):=by
  simp [lZ,l6,aA,hcll]
 have gN:Rd h2 (.aD a 0 19 1) (ints cl):=by
  refine⟨?_,by intro s e;cases e⟩
  simp [aR,l6,hcll,uW]
 have ck:=EH h2 (.aD a 0 19 1) cl (by omega) gN
 have mk:=zr h2 (.aD a 0 19 1) cl (by omega) hclb gN
 have hhead:(vy cl=0∧S2.e=0∧S.at_+4≤8* c.text.size∧S.at_+4+3* (vg c.text S.at_ 4+4)≤8* c.text.size∧cl=Bx c.text (vw.take (vg c.text S.at_ 4+4)) (S.at_+4) (List.replicate 19 0)∧S2={S with at_:=S.at_+4+3* (vg c.text S.at_ 4+4)})∨((vy cl≠0∨S2.e≠0)∧(S2.e=0∨S2.e=700)∧xy c.text many S.at_=none):=by
  by_cases hp:S.at_+4≤8* c.text.size
  · have eg:vh c 4 S=(vg c.text S.at_ 4,{S with at_:=S.at_+4}):=by rw[vh,if_pos hp]
    rw[eg]at hG hS1;dsimp only at hG hS1
    subst hS1
    by_cases hp2:S.at_+4+3* (vg c.text S.at_ 4+4)≤8* c.text.size
    · have ok:=H6 c xs (List.replicate 19 0) {S with at_:=S.at_+4} he (by dsimp only;omega)
      rw[ok]at hcl hS2
      dsimp only at hcl hS2
      rw[hxsl,hG]at hS2
      rw[hxs,hG]at hcl
      by_cases hck:vy cl=0
      · exact .inl ⟨hck,by rw[hS2];exact he,hp,hp2,hcl,hS2⟩
      · refine .inr ⟨.inl hck,.inl (by rw[hS2];exact he), ?_⟩
        rw[xy,if_pos hp];dsimp only;rw[if_pos hp2,←hcl,if_neg hck]
    · have hb:=Gm c xs (List.replicate 19 0) {S with at_:=S.at_+4} he (by dsimp only;omega) (by dsimp only;omega)
      rw[←hS2]at hb
      refine .inr ⟨.inr (by rw[hb];decide),.inr hb, ?_⟩
      rw[xy,if_pos hp];dsimp only;rw[if_neg hp2]
  · have eg:vh c 4 S=(0,{S with e:=700}):=by rw[vh,if_neg hp,vF,if_pos he]
    rw[eg]at hS1;dsimp only at hS1
    have hb:=E0 c xs (List.replicate 19 0) S1 (by rw[hS1])
    rw[←hS2]at hb
    exact .inr ⟨.inr (by rw[hb];decide),.inr hb,by rw[xy,if_neg hp]⟩
 have hbk:∀(h3:H) (S3:SS),St c S3 h3 ov→Fr c h ov h3 ov→aQ AP.A 41 [.aD a 0 19 1] h3=some (vB cl,h3)→lZ h3 19 1 (.aC a 0) none none=some (.aD a 0 19 1)→
  (aK (aQ AP.A) bu (.cond (.t 31) (.oJ [⟨some 32,.mv (.t 0),none⟩,⟨some 33,.call (.c (.fn 45 [] [])) [(.t 32),(.c (.int .i64 700))],none⟩] [0,1,5]) .skip [0,1,5]) [(0,.aC c.s 0),(1,I many),(5,.aC a 0),(31,.bool (vy cl !=0))] h2=some (.normal,[(0,.aC c.s 0),(1,I many),(5,.aC a 0)],h3))→
  ∀(e4:Env) (h4:H) (av:AV) (acc:List Int) (h5:H),Lp AP.A [0,1,9,10] AP.f64L0 [(0,.aC c.s 0),(1,I many),(9,vB cl),(10,.aO)] h3=some (.exit 2,e4,h4)→look e4 0=.aC c.s 0→look e4 1=I many→look e4 10=av→iP false av=some (I acc.length)→
  (many<acc.length→aQ AP.A 45 [.aC c.s 0,I 700] h4=some (.bO [],h5))→(¬many<acc.length→h5=h4)→aQ AP.A 64 [.aC c.s 0,I many] h=some (av,h5):=by
  intro h3 S3 st3 fr3 mk3 sla3 cnd e4 h4 av acc h5 m1 m2 m3 m4 m5 m6 m7
  refine tq (fn:=AP.f64) (e:=[(4,av)]) (vs:=[av]) rfl rfl rfl ?_ rfl
  have bt:∀e:Env,aX e (.alloc [.int .i64 0,.int .i64 0,.int .i64 0,.int .i64 0,.int .i64 0,.int .i64 0,.int .i64 0,.int .i64 0,.int .i64 0,.int .i64 0,.int .i64 0,.int .i64 0,.int .i64 0,.int .i64 0,.int .i64 0,.int .i64 0,.int .i64 0,.int .i64 0,.int .i64 0])=some (ints (List.replicate 19 0),fun i=>.aC i 0):=fun _=>rfl
  unfold AP.f64
  refine ub (e1:=[(0,.aC c.s 0),(1,I many)]) (h1:=h) rfl ?_
  refine ub (e1:=[(0,.aC c.s 0),(1,I many),(5,.aC a 0)]) (h1:=g0) ?_ ?_
  · simp only[go_sem,bt,←hg0,←ha]
  refine ub (e1:=[(0,.aC c.s 0),(1,I many),(5,.aC a 0),(6,vX vw)]) (h1:=g0) ?_ ?_
  · simp only[go_sem,oc]
  refine ub (e1:=[(0,.aC c.s 0),(1,I many),(5,.aC a 0)]) (h1:=h2) ?_ ?_
  · clear bt
    simp only[I]at *
    simp only[go_sem,k1,w1,R1,Sz,sl,xl,rR,l1',l2,l3,l4]
  refine ub (e1:=[(0,.aC c.s 0),(1,I many),(5,.aC a 0)]) (h1:=h3) ?_ ?_
  · refine ub (e1:=[(0,.aC c.s 0),(1,I many),(5,.aC a 0),(31,.bool (vy cl !=0))]) (h1:=h2) ?_ cnd
    simp only[I]at *
    simp only[go_sem,Sz,rz,ck]
  refine ub (e1:=[(0,.aC c.s 0),(1,I many),(9,vB cl)]) (h1:=h3) ?_ ?_
  · simp only[go_sem,Sz,sla3,mk3]
  refine ub (e1:=[(0,.aC c.s 0),(1,I many),(9,vB cl),(10,.aO)]) (h1:=h3) rfl ?_
  refine ub (e1:=[(0,.aC c.s 0),(1,I many),(10,av)]) (h1:=h4) ?_ ?_
  · simp only[go_sem,rR,m1,m2,m3,m4]
  refine ub (e1:=[(10,av)]) (h1:=h5) ?_ ?_
  · by_cases hgt:many<acc.length
    · have c1:(many:Int)<(acc.length:Int):=by omega
      have m6':=m6 hgt
      clear m6 m7
      simp only[I]at *
      simp only[go_sem,m5,R2 c1,m6']
    · have c1:¬(many:Int)<(acc.length:Int):=by omega
      have m7':=m7 hgt
      subst m7'
      clear m6 m7
      simp only[I]at *
      simp only[go_sem,m5,R0 c1]
  simp only[go_sem]
 rcases hhead with ⟨hck,he2,hp,hp2,hcl2,hS22⟩|⟨hbad,he2,hnone⟩
 · have hlen0:xy c.text many S.at_=vY c.text cl many (8* c.text.size+1) [] S2.at_:=by
    rw[xy,if_pos hp];dsimp only;rw[if_pos hp2,←hcl2,if_pos hck,hS22]
   have cnd:aK (aQ AP.A) bu (.cond (.t 31) (.oJ [⟨some 32,.mv (.t 0),none⟩,⟨some 33,.call (.c (.fn 45 [] [])) [(.t 32),(.c (.int .i64 700))],none⟩] [0,1,5]) .skip [0,1,5]) [(0,.aC c.s 0),(1,I many),(5,.aC a 0),(31,.bool (vy cl !=0))] h2=some (.normal,[(0,.aC c.s 0),(1,I many),(5,.aC a 0)],h2):=by
    have cb:(vy cl !=0)=false:=tT hck
    simp only[go_sem,cb]
   obtain⟨e4,h4,S4,av,acc,m1,m2,m3,m4,m5,m6,m7,m8,m9,m10⟩:=D8 h cl (by omega) many hm (8* c.text.size+1) [] S2 h2 ov .aO l5 he2 (by omega) fr2 (.inl ⟨rfl,rfl⟩) (by simp) (fun i q=>by cases q) (fun i hi=>st.lt hi)
   have ln:=m7.len
   rw[pD]at ln
   rw[hlen0]
   cases hL:vY c.text cl many (8* c.text.size+1) [] S2.at_ with
   | some q =>
     obtain⟨L,p⟩:=q
     rw[hL]at m10
     obtain⟨n1,n2,n3⟩:=m10
     have hng:¬many<acc.length:=by rw[n2];omega
     refine⟨h4,S4,av,acc,hbk h2 S2 l5 fr2 mk rz cnd e4 h4 av acc h4 m1 m2 m3 m4 ln (fun q=>absurd q hng) (fun _=>rfl),m5,m6,m7,m9, ?_,n2,n3⟩
     rw[n1,hS22]
   | none =>
     rw[hL]at m10
     dsimp only at m10 ⊢
     by_cases hgt:many<acc.length
     · obtain⟨h5,f1,f2,f3⟩:=xg m5 700
       refine⟨h5,vF 700 S4,av,acc,hbk h2 S2 l5 fr2 mk rz cnd e4 h4 av acc h5 m1 m2 m3 m4 ln (fun _=>f1) (fun q=>absurd hgt q),f2,m6.trans f3, ?_,m9, ?_⟩
       · refine m7.mono f3.fl fun i hi=>f3.GV i (m7.lt hi) (fun e=> ?_) (fun e=> ?_) (fun e=> ?_)
         · have:=m9 i hi;have:=st.lt (.inl e);omega
         · have:=m9 i hi;have:=st.lt (.inr (.inl e));omega
         · have:=m9 i hi;have:=st.lt (.inr (.inr e));omega
       · rcases m10 with q|⟨q,_⟩<;>simp [vF,q]
     · refine⟨h4,S4,av,acc,hbk h2 S2 l5 fr2 mk rz cnd e4 h4 av acc h4 m1 m2 m3 m4 ln (fun q=>absurd q hgt) (fun _=>rfl),m5,m6,m7,m9, ?_⟩
       rcases m10 with q|⟨_,q⟩
       · exact q
       · exact absurd q hgt
 · rw [hnone]
   have key:∃h3 S3,St c S3 h3 ov∧Fr c h ov h3 ov∧S3.e=700∧h3.get a=some (ints cl)∧aK (aQ AP.A) bu (.cond (.t 31) (.oJ [⟨some 32,.mv (.t 0),none⟩,⟨some 33,.call (.c (.fn 45 [] [])) [(.t 32),(.c (.int .i64 700))],none⟩] [0,1,5]) .skip [0,1,5]) [(0,.aC c.s 0),(1,I many),(5,.aC a 0),(31,.bool (vy cl !=0))] h2=some (.normal,[(0,.aC c.s 0),(1,I many),(5,.aC a 0)],h3):=by
    by_cases hck:vy cl=0
    · have hb:S2.e≠0:=by rcases hbad with q|q;exact absurd hck q;exact q
      refine⟨h2,S2,l5,fr2,by rcases he2 with q|q;exact absurd q hb;exact q,l6, ?_⟩
      have cb:(vy cl !=0)=false:=tT hck
      simp only[go_sem,cb]
    · obtain⟨h3,f1,f2,f3⟩:=xg l5 700
      refine⟨h3,vF 700 S2,f2,fr2.trans f3,by rcases he2 with q|q<;>simp [vF,q],by rw[f3.GV a (h2.lt _ _ l6) hac.1 hac.2 hoa];exact l6, ?_⟩
      have cb:(vy cl !=0)=true:=tU hck
      simp only[I]at *
      simp only[go_sem,cb,f1]
   obtain⟨h3,S3,st3,fr3,he3,hg3,cnd⟩:=key
   have sla3:lZ h3 19 1 (.aC a 0) none none=some (.aD a 0 19 1):=by
    simp [lZ,hg3,aA,hcll]
   have rdc3:Rd h3 (.aD a 0 19 1) (ints cl):=by
    refine⟨?_,by intro s e;cases e⟩
    simp [aR,hg3,hcll,uW]
   have mk3:=zr h3 (.aD a 0 19 1) cl (by omega) hclb rdc3
   obtain⟨e4,m1,m2,m3,m4⟩:=ya st3 (vB cl) many (av:=.aO) (acc:=[]) (.inl ⟨rfl,rfl⟩) (.inr ⟨by simpa using hm0,by rw[he3];decide⟩)
   exact⟨h3,S3,.aO,[],hbk h3 S3 st3 fr3 mk3 sla3 cnd e4 h3 .aO [] h3 m1 m2 m3 m4 rfl (fun q=>by simp at q) (fun _=>rfl),st3,fr3,.inl ⟨rfl,rfl⟩,(fun i q=>by cases q),he3⟩
def zt (l:List Int):Prop:=∀y∈l,0≤y∧y<16
theorem GY {t : ByteArray} {y : Int} {acc : List Int} {n : Int} {q times p2 : Nat} (hy : 0 ≤ y ∧ y < 19) (ha : zt acc) (h : xj t y acc q = some (n, times, p2)) : 0 ≤ n ∧ n < 16 := by
 unfold xj at h
 split at h
 · split at h
   · cases h
   · rename_i hn
     split at h
     · have:=Sp (fun o=>o.map (·.1)) h
       simp only[R1,uy]at this
       rw[←this]
       have hl:0<acc.length:=List.length_pos_iff.2 hn
       refine ha _ ?_
       rw[RW,RY (by omega)]
       exact Sd _
     · cases h
 · split at h
   · split at h
     · have:=Sp (fun o=>o.map (·.1)) h
       simp only[R1,uy]at this;omega
     · cases h
   · split at h
     · split at h
       · have:=Sp (fun o=>o.map (·.1)) h
         simp only[R1,uy]at this;omega
       · cases h
     · have:=Sp (fun o=>o.map (·.1)) h
       simp only[R1,uy]at this;omega
theorem AX {t : ByteArray} {cl : List Int} (hcl : cl.length = 19) {many : Nat} : ∀ {f : Nat} {acc : List Int} {p : Nat} {L : List Int} {p2 : Nat}, zt acc → vY t cl many f acc p = some (L, p2) → zt L
 |0,_,_,_,_,_,h=>by cases h
 | f + 1, acc, p, L, p2, ha, h => by
   rw[vY]at h
   split at h
   · split at h
     · cases h
     · rename_i y p1 hs
       have sb:=xi hs
       split at h
       · cases h
       · rename_i n times q hag
         have hr:=GY ⟨sb.1,by omega⟩ ha hag
         exact AX hcl (fun y hy=>by
          rcases Sn.1 hy with hy|hy
          · exact ha y hy
          · obtain⟨_,rfl⟩:=List.mem_replicate.1 hy;exact hr) h
   · split at h
     · cases h
     · have:=Sp (fun o=>o.map (·.1)) h
       simp only[R1,uy]at this;rw[←this];exact ha
theorem Gj (t:ByteArray):∀(r:List Int) (p:Nat) (o:List Int),(Bx t r p o).length=o.length
 |[],_,_=>rfl
 |s::r,p,o=>by rw[Bx,Gj t r];simp
theorem IW {t:ByteArray} {many p:Nat} {L:List Int} {p2:Nat} (h:xy t many p=some (L,p2)):zt L:=by
 unfold xy at h
 split at h
 · dsimp only at h
   split at h
   · split at h
     · exact AX (by rw[Gj];simp) (fun y hy=>by cases hy) h
     · cases h
   · cases h
 · cases h
def Aa (t : ByteArray) (most : Int) (p : Nat) (out : List Nat) : Rs :=
 if p+10≤8* t.size then
  let lits:=vg t p 5+257
  let dists:=vg t (p+5) 5+1
  if 286<lits∨30<dists then .error 700 else
  match xy t (lits+dists) (p+10)with
  |none=>.error 700
  | some (L, p2) =>
    if vy (L.take lits)≠0∨(L.take lits).getD 256 0=0∨(vy (L.drop lits)≠0∧xA (L.drop lits)=false)then .error 700
    else wo t most (L.take lits) (L.drop lits) (8* t.size+1) p2 out
 else .error 700
theorem IK {c : SC} {S : SS} {h : H} {ov : AV} (st : St c S h ov) (he : S.e = 0) :
 ∃h' ov' S',aQ AP.A 44 [.aC c.s 0] h=some (.bO [],h')∧St c S' h' ov'∧Fr c h ov h' ov'∧Fin (Aa c.text c.most S.at_ S.out) S':=by
 obtain⟨h1,a1,a2,a3⟩:=yH st 5 5 rfl (by omega)
 obtain⟨h2,b1,b2,b3⟩:=yH a2 5 5 rfl (by omega)
 obtain⟨A,hA⟩:∃n,n=(vh c 5 S).1:=⟨_,rfl⟩
 obtain⟨S1,hS1⟩:∃n,n=(vh c 5 S).2:=⟨_,rfl⟩
 rw[←hA]at a1;rw[←hS1]at a2 b1 b2
 obtain⟨B,hB⟩:∃n,n=(vh c 5 S1).1:=⟨_,rfl⟩
 obtain⟨S2,hS2⟩:∃n,n=(vh c 5 S1).2:=⟨_,rfl⟩
 rw[←hB]at b1;rw[←hS2]at b2
 have g5:∀S,(vh c 5 S).1<32:=fun S=>by
  unfold vh;split
  · simpa using wL c.text S.at_ 5
  · simp
 have hA32:A<32:=hA ▸ g5 S
 have hB32:B<32:=hB ▸ g5 S1
 have w1:IntKind.wrap .i64 ((A:Int)+257)=((A+257:Nat):Int):=ve (n:=A+257) (by omega)
 have w2:IntKind.wrap .i64 ((B:Int)+1)=((B+1:Nat):Int):=ve (n:=B+1) (by omega)
 have gs2:=b2.gs
 have he2:S2.e=0∨S2.e=700:=by rw[hS2];exact JO c 5 _ (by rw[hS1];exact JO c 5 S (.inl he))
 have fr2:=a3.trans b3
 have bad:(S2.e≠0∨286<A+257∨30<B+1)→∃h' ov' S',aQ AP.A 44 [.aC c.s 0] h=some (.bO [],h')∧St c S' h' ov'∧Fr c h ov h' ov'∧S'.e=700∧(700:Int)≠0:=by
  intro hb
  obtain⟨h3,f1,f2,f3⟩:=xg b2 700
  refine⟨h3,ov,vF 700 S2, ?_,f2,fr2.trans f3,by rcases he2 with q|q<;>simp [vF,q],by decide⟩
  refine tq (fn:=AP.f44) (e:=[]) (vs:=[]) rfl rfl rfl ?_ rfl
  by_cases c1:S2.e=0
  · have c1':=tT c1
    by_cases c2:286<A+257
    · have c2':(286:Int)<((A+257:Nat):Int):=by omega
      simp only[I]at *
      simp only[AP.f44,go_sem,a1,b1,w1,w2,gs2,c1',R2 c2',f1]
    · have c2':¬(286:Int)<((A+257:Nat):Int):=by omega
      have c3':(30:Int)<((B+1:Nat):Int):=by
       rcases hb with q|q|q
       · exact absurd c1 q
       · exact absurd q c2
       · omega
      simp only[I]at *
      simp only[AP.f44,go_sem,a1,b1,w1,w2,gs2,c1',R0 c2',R2 c3',f1]
  · have c1':=tU c1
    simp only[I]at *
    simp only[AP.f44,go_sem,a1,b1,w1,w2,gs2,c1',f1]
 unfold Aa
 by_cases hp:S.at_+10≤8* c.text.size
 · have e1 : vh c 5 S = (vg c.text S.at_ 5, { S with at_ := S.at_ + 5 }) := by rw [vh, if_pos (by omega)]
   rw[e1]at hA hS1;dsimp only at hA hS1
   have e2:vh c 5 {S with at_:=S.at_+5}=(vg c.text (S.at_+5) 5,{S with at_:=S.at_+5+5}):=by rw[vh,if_pos (by show S.at_+5+5≤_;omega)]
   rw[hS1,e2]at hB hS2;dsimp only at hB hS2
   rw[if_pos hp]
   dsimp only
   rw[←hA,←hB]
   by_cases hbig:286<A+257∨30<B+1
   · rw[if_pos hbig];exact bad (.inr hbig)
   · rw [if_neg hbig]
     have c1':(S2.e !=0)=false:=tT (by rw[hS2];exact he)
     have c2':¬(286:Int)<((A+257:Nat):Int):=by omega
     have c3':¬(30:Int)<((B+1:Nat):Int):=by omega
     have w3:IntKind.wrap .i64 (((A+257:Nat):Int)+((B+1:Nat):Int))=((A+257+(B+1):Nat):Int):=by
      rw[show((A+257:Nat):Int)+((B+1:Nat):Int)=((A+257+(B+1):Nat):Int)by omega];exact ve (by omega)
     obtain⟨h3,S3,av,acc,l1,l2,l3,l4,l5,l6⟩:=IV b2 (by rw[hS2];exact he) (A+257+(B+1)) (by omega) (by omega)
     have gs3:=l2.gs
     have hat2:S2.at_=S.at_+10:=by rw[hS2]
     rw[hat2]at l6
     cases hL:xy c.text (A+257+(B+1)) (S.at_+10)with
     | none =>
       rw[hL]at l6
       have c4:(S3.e !=0)=true:=tU (by rw[l6];decide)
       refine⟨h3,ov,S3, ?_,l2,fr2.trans l3,l6,by decide⟩
       refine tq (fn:=AP.f44) (e:=[(0,.aC c.s 0),(2,I (A+257:Nat)),(4,av),(37,.bool true)]) (vs:=[]) rfl rfl rfl ?_ rfl
       simp only[I]at *
       simp only[AP.f44,go_sem,a1,b1,w1,w2,gs2,c1',R0 c2',R0 c3',w3,l1,gs3,c4]
     | some q =>
       obtain⟨L,p2⟩:=q
       rw[hL]at l6
       obtain⟨l6,l7,l8⟩:=l6
       subst l7
       have hrng:=IW hL
       dsimp only
       have he3:S3.e=0:=by rw[l6,hS2];exact he
       have c4:(S3.e !=0)=false:=tT he3
       obtain⟨id,hav,hgid⟩:∃id,av=.aD id 0 (A+257+(B+1)) 1∧h3.get id=some (ints acc):=by
        rcases l4 with ⟨_,q⟩|⟨id,q1,q2,_⟩
        · have:=Sp List.length q;rw[pD,l8,RZ]at this;omega
        · exact⟨id,by rw[q1,pD,l8],q2⟩
       have hil:(ints acc).length=A+257+(B+1):=by rw[pD,l8]
       have s1:=G0 (h:=h3) (k:=A+257) hgid hil (uH _) (by omega)
       have s2:=Jr (h:=h3) (k:=A+257) hgid hil (by omega)
       rw[show A+257+(B+1)-(A+257)=B+1 by omega]at s2
       rw[←hav]at s1 s2
       obtain⟨la,hla⟩:∃x,x=acc.take (A+257):=⟨_,rfl⟩
       obtain⟨lb,hlb⟩:∃x,x=acc.drop (A+257):=⟨_,rfl⟩
       have hlal:la.length=A+257:=by rw[hla,Sv];omega
       have hlbl:lb.length=B+1:=by rw[hlb,List.length_drop];omega
       have ra:Rd h3 (.aD id 0 (A+257) 1) (ints la):=by
        refine⟨?_,by intro s e;cases e⟩
        simp only[aR,if_true,hgid,uE]
        rw[if_pos (by rw[hil];omega),hla];simp [ints,List.map_take];omega
       have rb:Rd h3 (.aD id (A+257) (B+1) 1) (ints lb):=by
        refine⟨?_,by intro s e;cases e⟩
        simp only[aR,if_true,hgid,uE]
        rw[if_pos (by rw[hil];omega),hlb]
        have:(ints (acc.drop (A+257))).length=B+1:=by rw[pD,←hlb,hlbl]
        rw[this,ints,ints,←List.map_drop,Nat.mul_one,uW (by rw[List.length_map,←hlb,hlbl];omega)]
       rw[←hla,←hlb]
       have cka:=EH h3 _ la (by omega) ra
       have ckb:=EH h3 _ lb (by omega) rb
       have hra:zt la:=fun y hy=>hrng y (List.mem_of_mem_take (hla ▸ hy))
       have hrb:zt lb:=fun y hy=>hrng y (List.mem_of_mem_drop (hlb ▸ hy))
       have sgb:=Kn h3 _ lb (by omega) hrb rb
       have mka:=zr h3 _ la (by omega) hra ra
       have mkb:=zr h3 _ lb (by omega) hrb rb
       have hel:=D0 (l:=la) (i:=256) (by omega)
       obtain⟨ad,p1,p2'⟩:=ra.elem hel
       have p3:=p2' h3 (fun _ _ q=>q)
       have p1':fI 1 (.aD id 0 (A+257) 1) (I 256)=some ad:=p1
       clear p1 p2'
       obtain⟨cb,hcb⟩:∃b:Bool,(b=true↔vy la≠0∨la.getD 256 0=0∨(vy lb≠0∧xA lb=false)):=⟨decide _,decide_eq_true_iff⟩
       have step:∀k,aK (aQ AP.A) bu k [(0,.aC c.s 0),(2,I (A+257:Nat)),(4,av)] h3=aK (aQ AP.A) bu k [(0,.aC c.s 0),(2,I (A+257:Nat)),(4,av)] h3:=fun _=>rfl
       by_cases hbad:vy la≠0∨la.getD 256 0=0∨(vy lb≠0∧xA lb=false)
       · rw [if_pos hbad]
         obtain⟨h4,f1,f2,f3⟩:=xg l2 700
         refine⟨h4,ov,vF 700 S3, ?_,f2,(fr2.trans l3).trans f3,by simp [vF,he3],by decide⟩
         refine tq (fn:=AP.f44) (e:=[]) (vs:=[]) rfl rfl rfl ?_ rfl
         by_cases d1:vy la=0
         · have d1':=tT d1
           by_cases d2:la.getD 256 0=0
           · have d2':=tS d2
             simp only[I]at *
             simp only[AP.f44,go_sem,a1,b1,w1,w2,gs2,c1',R0 c2',R0 c3',w3,l1,gs3,c4,R1,Sz,s1,s2,cka,d1',p1',p3,d2',f1]
           · have d2':=tR d2
             obtain⟨d3,d4⟩:vy lb≠0∧xA lb=false:=by
              rcases hbad with q|q|q
              · exact absurd d1 q
              · exact absurd q d2
              · exact q
             have d3':=tU d3
             rw[d4]at sgb
             simp only[I]at *
             simp only[AP.f44,go_sem,a1,b1,w1,w2,gs2,c1',R0 c2',R0 c3',w3,l1,gs3,c4,R1,Sz,s1,s2,cka,d1',p1',p3,d2',ckb,d3',sgb,f1]
         · have d1':=tU d1
           simp only[I]at *
           simp only[AP.f44,go_sem,a1,b1,w1,w2,gs2,c1',R0 c2',R0 c3',w3,l1,gs3,c4,R1,Sz,s1,s2,cka,d1',f1]
       · rw [if_neg hbad]
         have d1:vy la=0:=Decidable.byContradiction fun q=>hbad (.inl q)
         have d2:la.getD 256 0≠0:=fun q=>hbad (.inr (.inl q))
         have d1':=tT d1
         have d2':=tR d2
         obtain⟨h4,ov4,S4,q1,q2,q3,q4⟩:=HK la lb (by omega) (by omega) l2 he3
         refine⟨h4,ov4,S4, ?_,q2,(fr2.trans l3).trans q3, ?_⟩
         · refine vW (fn:=AP.f44) (e:=[]) (vs:=[]) rfl rfl rfl ?_ rfl
           by_cases d3:vy lb=0
           · have d3':=tT d3
             simp only[I]at *
             simp only[AP.f44,go_sem,a1,b1,w1,w2,gs2,c1',R0 c2',R0 c3',w3,l1,gs3,c4,R1,Sz,s1,s2,cka,d1',p1',p3,d2',ckb,d3',mka,mkb,q1]
           · have d3':=tU d3
             have d4:xA lb=true:=by
              cases hs:xA lb with
              |true=>rfl
              |false=>exact absurd (.inr (.inr ⟨d3,hs⟩)) hbad
             rw[d4]at sgb
             simp only[I]at *
             simp only[AP.f44,go_sem,a1,b1,w1,w2,gs2,c1',R0 c2',R0 c3',w3,l1,gs3,c4,R1,Sz,s1,s2,cka,d1',p1',p3,d2',ckb,d3',sgb,mka,mkb,q1]
         · have:S3.at_=p2:=by rw[l6]
           have ho:S3.out=S.out:=by rw[l6,hS2]
           rw[this,ho]at q4;exact q4
 · rw[if_neg hp]
   refine bad (.inl ?_)
   rw[hS2,hS1]
   unfold vh
   by_cases q1:S.at_+5≤8* c.text.size
   · simp only[if_pos q1];rw[if_neg (by omega)];simp [vF,he]
   · simp only[if_neg q1,vF,he,if_true];split<;>simp
def wu (t : ByteArray) (most : Int) (p : Nat) (out : List Nat) : Except Int (Bool × Nat × List Nat) :=
 if p+3≤8* t.size then
  let r:Rs:=if vg t (p+1) 2=0 then wX t most (p+3) out
   else if vg t (p+1) 2=1 then wo t most vG (List.replicate 30 5) (8* t.size+1) (p+3) out
   else if vg t (p+1) 2=2 then Aa t most (p+3) out
   else .error 700
  match r with
  | .ok q=>.ok (vg t p 1==1,q.1,q.2)
  | .error k=>.error k
 else .error 700
def ON (r:Except Int (Bool×Nat×List Nat)) (b:Bool) (S:SS):Prop:=match r with
 | .ok q=>b=q.1∧S=⟨q.2.1,q.2.2,0⟩
 | .error k=>S.e=k∧k≠0
theorem CI:vG.length=288:=by simp only[vG,u4,Sc]
theorem He:zt vG:=by
 intro y hy
 simp only[vG,Sn]at hy
 rcases hy with hy|hy|hy|hy<;>(obtain⟨_,rfl⟩:=List.mem_replicate.1 hy;omega)
theorem IL:zt (List.replicate 30 5):=by
 intro y hy
 obtain⟨_,rfl⟩:=List.mem_replicate.1 hy;omega
theorem KZ {c : SC} {S : SS} {h : H} {ov : AV} (st : St c S h ov) (he : S.e = 0) :
 ∃h' ov' S' b,aQ AP.A 15 [.aC c.s 0] h=some (.bool b,h')∧St c S' h' ov'∧Fr c h ov h' ov'∧ON (wu c.text c.most S.at_ S.out) b S':=by
 obtain⟨h1,a1,a2,a3⟩:=yH st 1 1 rfl (by omega)
 obtain⟨h2,b1,b2,b3⟩:=yH a2 2 2 rfl (by omega)
 obtain⟨A,hA⟩:∃n,n=(vh c 1 S).1:=⟨_,rfl⟩
 obtain⟨S1,hS1⟩:∃n,n=(vh c 1 S).2:=⟨_,rfl⟩
 rw[←hA]at a1;rw[←hS1]at a2 b1 b2
 obtain⟨B,hB⟩:∃n,n=(vh c 2 S1).1:=⟨_,rfl⟩
 obtain⟨S2,hS2⟩:∃n,n=(vh c 2 S1).2:=⟨_,rfl⟩
 rw[←hB]at b1;rw[←hS2]at b2
 have gs2:=b2.gs
 have fr2:=a3.trans b3
 obtain⟨lb,hlb⟩:∃b:Bool,b=((A:Int)==1):=⟨_,rfl⟩
 unfold wu
 by_cases hp:S.at_+3≤8* c.text.size
 · rw [if_pos hp]
   have e1:vh c 1 S=(vg c.text S.at_ 1,{S with at_:=S.at_+1}):=by rw[vh,if_pos (by omega)]
   rw[e1]at hA hS1;dsimp only at hA hS1
   have e2:vh c 2 {S with at_:=S.at_+1}=(vg c.text (S.at_+1) 2,{S with at_:=S.at_+1+2}):=by rw[vh,if_pos (by show S.at_+1+2≤_;omega)]
   rw[hS1,e2]at hB hS2;dsimp only at hB hS2
   have he2:S2.e=0:=by rw[hS2];exact he
   have hat:S2.at_=S.at_+3:=by rw[hS2]
   have hout:S2.out=S.out:=by rw[hS2]
   dsimp only
   rw[←hA,←hB]
   have hlb2:lb=(A==1):=by
    rw[hlb];by_cases q:A=1
    · subst q;rfl
    · rw[tR (by omega)];symm;simp [q]
   have wrap:∀(r:Rs) (h':H) (ov':AV) (S':SS),aQ AP.A 15 [.aC c.s 0] h=some (.bool lb,h')→St c S' h' ov'→Fr c h2 ov h' ov'→Fin r S'→∃h' ov' S' b,aQ AP.A 15 [.aC c.s 0] h=some (.bool b,h')∧St c S' h' ov'∧Fr c h ov h' ov'∧ON (match r with| .ok q=>.ok (A==1,q.1,q.2)| .error k=>.error k) b S':=by
    intro r h' ov' S' q1 q2 q3 q4
    refine⟨h',ov',S',lb,q1,q2,fr2.trans q3, ?_⟩
    cases r with
    |ok q=>exact⟨hlb2,q4⟩
    |error k=>exact q4
   have c0:(S2.e==0)=true:=tS he2
   by_cases d0:B=0
   · rw[if_pos d0]
     obtain⟨h',ov',S',q1,q2,q3,q4⟩:=KD b2 he2
     rw[hat,hout]at q4
     refine wrap _ h' ov' S' ?_ q2 q3 q4
     have d0':((B:Int)==0)=true:=tS (by omega)
     refine tq (fn:=AP.f15) (e:=[(2,.bool lb)]) rfl rfl rfl ?_ rfl
     simp only[I]at *
     simp only[AP.f15,go_sem,a1,b1,←hlb,d0',gs2,c0,q1]
   · rw [if_neg d0]
     have d0':((B:Int)==0)=false:=tR (by omega)
     by_cases d1:B=1
     · rw[if_pos d1]
       have d1':((B:Int)==1)=true:=tS (by omega)
       have f1:=HU h2
       have m1:=zr h2 (vX vG) vG (by rw[CI];omega) He (xS _ _)
       have al:=b2.alloc [I 5]
       have r1:=yj (h2.alloc [I 5]) (.aD h2.next 0 1 1) 5 30 (by omega) (zM _ _)
       have r1':aQ AP.A 43 [.aD h2.next 0 1 1,I 30] (h2.alloc [I 5])=some (vX (List.replicate 30 5),h2.alloc [I 5]):=by
        rw[vX,Sc];exact r1
       have m2:=zr (h2.alloc [I 5]) (vX (List.replicate 30 5)) (List.replicate 30 5) (by rw[Sc];omega) IL (xS _ _)
       obtain⟨h',ov',S',q1,q2,q3,q4⟩:=HK vG (List.replicate 30 5) (by rw[CI];omega) (by rw[Sc];omega) al.1 he2
       rw[hat,hout]at q4
       refine wrap _ h' ov' S' ?_ q2 (al.2.trans q3) q4
       refine tq (fn:=AP.f15) (e:=[(2,.bool lb)]) rfl rfl rfl ?_ rfl
       clear r1
       generalize vB vG=bf at *
       generalize vB (List.replicate 30 5)=bd at *
       generalize vX vG=vf at *
       generalize vX (List.replicate 30 5)=vd at *
       simp only[I]at *
       simp only[AP.f15,go_sem,a1,b1,←hlb,d0',d1',f1,m1,OU,I,r1',m2,q1]
     · rw[if_neg d1]
       have d1':((B:Int)==1)=false:=tR (by omega)
       by_cases d2:B=2
       · rw[if_pos d2]
         have d2':((B:Int)==2)=true:=tS (by omega)
         obtain⟨h',ov',S',q1,q2,q3,q4⟩:=IK b2 he2
         rw[hat,hout]at q4
         refine wrap _ h' ov' S' ?_ q2 q3 q4
         refine tq (fn:=AP.f15) (e:=[(2,.bool lb)]) rfl rfl rfl ?_ rfl
         simp only[I]at *
         simp only[AP.f15,go_sem,a1,b1,←hlb,d0',d1',d2',q1]
       · rw[if_neg d2]
         have d2':((B:Int)==2)=false:=tR (by omega)
         obtain⟨h',q1,q2,q3⟩:=xg b2 700
         refine wrap (.error 700) h' ov _ ?_ q2 q3 ⟨by simp [vF,he2],by decide⟩
         refine tq (fn:=AP.f15) (e:=[(2,.bool lb)]) rfl rfl rfl ?_ rfl
         simp only[I]at *
         simp only[AP.f15,go_sem,a1,b1,←hlb,d0',d1',d2',q1]
 · rw [if_neg hp]
   have hB0:B=0∧S2.e=700:=by
    by_cases q1:S.at_+1≤8* c.text.size
    · have e1:vh c 1 S=(vg c.text S.at_ 1,{S with at_:=S.at_+1}):=by rw[vh,if_pos q1]
      rw[e1]at hS1;dsimp only at hS1
      have e2:vh c 2 S1=(0,{S1 with e:=700}):=by rw[vh,if_neg (by rw[hS1];show¬S.at_+1+2≤_;omega),vF,if_pos (by rw[hS1];exact he)]
      rw[e2]at hB hS2
      exact⟨hB,by rw[hS2]⟩
    · have e1:vh c 1 S=(0,{S with e:=700}):=by rw[vh,if_neg q1,vF,if_pos he]
      rw[e1]at hS1;dsimp only at hS1
      have e2:vh c 2 S1=(0,S1):=by rw[vh,if_neg (by rw[hS1];show¬S.at_+2≤_;omega),vF,if_neg (by rw[hS1];simp)]
      rw[e2]at hB hS2
      exact⟨hB,by rw[hS2,hS1]⟩
   have d0':((B:Int)==0)=true:=tS (by omega)
   have c0:(S2.e==0)=false:=tR (by rw[hB0.2];decide)
   refine⟨h2,ov,S2,lb, ?_,b2,fr2,hB0.2,by decide⟩
   refine tq (fn:=AP.f15) (e:=[(2,.bool lb)]) rfl rfl rfl ?_ rfl
   simp only[I]at *
   simp only[AP.f15,go_sem,a1,b1,←hlb,d0',gs2,c0]
def vU (t : ByteArray) (most : Int) : Nat → Nat → List Nat → Rs
 |0,_,_=>.error 700
 | f + 1, p, out => match wu t most p out with
   | .error k=>.error k
   | .ok (last,p2,o)=>if last then .ok (p2,o)else vU t most f p2 o
theorem F3 {c:SC} {S:SS} {h:H} {ov:AV} (st:St c S h ov) (b:Bool) (hs:b=true∨S.e≠0):
 ∃e',Lp AP.A [7,8] AP.f7L0 [(7,.aC c.s 0),(8,.bool b)] h=some (.exit 0,e',h)∧look e' 7=.aC c.s 0:=by
 have gs:=st.gs
 refine⟨[(7,.aC c.s 0),(28,.bool false)],sV ?_,rfl⟩
 cases b with
 | true =>
   simp only[I]at *
   simp only[AP.f7L0,go_sem]
 | false =>
   have c2:(S.e==0)=false:=tR (by rcases hs with q|q;cases q;exact q)
   simp only[I]at *
   simp only[AP.f7L0,go_sem,gs,c2]
theorem yM {t:ByteArray} {most:Int}:∀{n p:Nat} {out:List Nat} {p2:Nat} {o:List Nat},wq t most n p out=.ok (p2,o)→p≤p2
 |0,p,out,p2,o,h=>by rw[wq]at h;cases h;exact uH _
 | n + 1, p, out, p2, o, h => by
   rw[wq]at h
   split at h
   · split at h
     · cases h
     · have:=yM h;omega
   · cases h
theorem wV {t : ByteArray} {most : Int} {ll dl : List Int} : ∀ {k p : Nat} {out : List Nat} {p2 : Nat} {o : List Nat}, wo t most ll dl k p out = .ok (p2, o) → p < p2
 |0,_,_,_,_,h=>by cases h
 | k + 1, p, out, p2, o, h => by
   rw[wo]at h
   split at h
   · cases h
   · rename_i y p1 hs
     have sb:=xi hs
     split at h
     · split at h
       · cases h
       · have:=wV h;omega
     · split at h
       · cases h;omega
       · split at h
         · rename_i p3 o3 hc
           have:=CE hc
           have:=wV h;omega
         · cases h
theorem xL {t : ByteArray} {cl : List Int} {many : Nat} : ∀ {f : Nat} {acc : List Int} {p : Nat} {L : List Int} {p2 : Nat}, vY t cl many f acc p = some (L, p2) → p ≤ p2
 |0,_,_,_,_,h=>by cases h
 | f + 1, acc, p, L, p2, h => by
   rw[vY]at h
   split at h
   · split at h
     · cases h
     · rename_i y p1 hs
       have sb:=xi hs
       split at h
       · cases h
       · rename_i n times q hag
         have:=xL h
         have:p1≤q:=by
          unfold xj at hag
          repeat' split at hag
          all_goals first
           |(cases hag;done)
           |(have:=Sp (fun o=>o.map (·.2.2)) hag;simp only[R1,uy]at this;omega)
         omega
   · split at h
     · cases h
     · have:=Sp (fun o=>o.map (·.2)) h
       simp only[R1,uy]at this;omega
theorem yD {t : ByteArray} {most : Int} {p : Nat} {out : List Nat} {q : Bool × Nat × List Nat} (h : wu t most p out = .ok q) : p < q.2.1 := by
 unfold wu at h
 split at h
 · dsimp only at h
   have key:∀{r:Rs},(match r with| .ok q=>Except.ok (vg t p 1==1,q.1,q.2)| .error k=>.error k)=Except.ok (ε:=Int) q→∃z,r=.ok z∧z.1=q.2.1:=by
    intro r h
    cases r with
    |ok z=>cases h;exact⟨z,rfl,rfl⟩
    |error k=>cases h
   obtain⟨z,h1,h2⟩:=key h
   rw[←h2]
   split at h1
   · unfold wX at h1
     dsimp only at h1
     split at h1
     · split at h1
       · have:=yM h1;omega
       · cases h1
     · cases h1
   · split at h1
     · have:=wV h1;omega
     · split at h1
       · unfold Aa at h1
         split at h1
         · dsimp only at h1
           split at h1
           · cases h1
           · split at h1
             · cases h1
             · rename_i L p2 hl
               split at h1
               · cases h1
               · have:=wV h1
                 have:p+3≤p2:=by
                  unfold xy at hl
                  split at hl
                  · dsimp only at hl
                    split at hl
                    · split at hl
                      · have:=xL hl;omega
                      · cases hl
                    · cases hl
                  · cases hl
                 omega
         · cases h1
       · cases h1
 · cases h
theorem F0 {c : SC} : ∀ (f : Nat) (S : SS) (h : H) (ov : AV), St c S h ov → S.e = 0 → 8 * c.text.size < S.at_ + f →
 ∃e' h' ov' S',Lp AP.A [7,8] AP.f7L0 [(7,.aC c.s 0),(8,.bool false)] h=some (.exit 0,e',h')∧look e' 7=.aC c.s 0∧St c S' h' ov'∧Fr c h ov h' ov'∧Fin (vU c.text c.most f S.at_ S.out) S'
 |0,S,h,ov,st,he,hk=>by have:=st.yC;omega
 | f + 1, S, h, ov, st, he, hk => by
   have gs:=st.gs
   obtain⟨h1,ov1,S1,b,q1,q2,q3,q4⟩:=KZ st he
   have step:aK (aQ AP.A) bu AP.f7L0 (ax [(7,.aC c.s 0),(8,.bool false)] [7,8]) h=some (.normal,[(7,.aC c.s 0),(8,.bool b)],h1):=by
    simp only[I]at *
    simp only[AP.f7L0,go_sem,gs,he,q1]
   rw[vU]
   cases hb:wu c.text c.most S.at_ S.out with
   | error k =>
     rw[hb]at q4
     obtain⟨e',r1,r2⟩:=F3 q2 b (.inr (by rw[q4.1];exact q4.2))
     exact⟨e',h1,ov1,S1,sW step r1,r2,q2,q3,q4⟩
   | ok z =>
     obtain⟨last,p2,o⟩:=z
     rw[hb]at q4
     obtain⟨q5,q6⟩:=q4
     dsimp only at q5 q6 ⊢
     subst q5
     cases b with
     | true =>
       obtain⟨e',r1,r2⟩:=F3 q2 true (.inl rfl)
       exact⟨e',h1,ov1,S1,sW step r1,r2,q2,q3,q6⟩
     | false =>
       have hge:=yD hb
       dsimp only at hge
       subst q6
       obtain⟨e',h',ov',S',r1,r2,r3,r4,r5⟩:=F0 f _ h1 ov1 q2 rfl (by dsimp only;omega)
       exact⟨e',h',ov',S',sW step r1,r2,r3,q3.trans r4,r5⟩
def bytesOf (l:List Nat):ByteArray:=⟨(l.map UInt8.ofNat).toArray⟩
def vM (t:ByteArray) (most:Int):Except Int (List Nat×Nat):=
 if most<0∨8192<most then .error 700 else
 match vU t most (8* t.size+1) 0 []with
 | .ok q=>.ok (q.2,(q.1+7)/8)
 | .error k=>.error k
def Oj (r:Except Int (List Nat×Nat)):AV:=match r with
 | .ok q=>.bO [.str (bytesOf q.1),I q.2,I 0]
 | .error k=>.bO [.str ⟨#[]⟩,I 0,I k]
theorem ED:∀l:List Nat,kA (xO l)=some (l.map UInt8.ofNat)
 |[]=>rfl
 | x :: l => by
   have:xO (x::l)=.int .u8 x::xO l:=rfl
   rw[this,kA,ED l];simp
theorem KW {h:H} {v:AV} {l:List Nat} (o:ni h v (xO l)):tD h v (aR h 1 v)=some (.str (bytesOf l),h):=by
 rcases o with ⟨rfl,q⟩|⟨id,rfl,q,_⟩
 · have:l=[]:=by cases l with|nil=>rfl|cons _ _=>cases q
   subst this;rfl
 · simp only[aR,if_true,q,uE]
   rw[if_pos (by omega)]
   have:((xO l).drop 0).take ((xO l).length* 1)=xO l:=by rw[Si,Nat.mul_one,List.take_length]
   rw[this]
   simp only[tD,uE,ED];rfl
theorem IP (h : H) (hf : h.floor ≤ h.next) (t : ByteArray) (most : Int) (hs : t.size < 1125899906842624) : aQ AP.A 7 [.str t, I most] h = some (Oj (vM t most), h) := by
 unfold vM
 by_cases c1:most<0
 · rw[if_pos (.inl c1)]
   refine tL (fn:=AP.f7) (h2:=h.dL) (e:=[(4,.str ⟨#[]⟩),(5,I 0),(6,I 700)]) rfl rfl rfl ?_ rfl rfl
   simp only[I]at *
   simp only[AP.f7,go_sem,R2 c1]
 by_cases c2:8192<most
 · rw[if_pos (.inr c2)]
   refine tL (fn:=AP.f7) (h2:=h.dL) (e:=[(4,.str ⟨#[]⟩),(5,I 0),(6,I 700)]) rfl rfl rfl ?_ rfl rfl
   simp only[I]at *
   simp only[AP.f7,go_sem,R0 c1,R2 c2]
 rw[if_neg (by omega)]
 obtain⟨h1,hh1⟩:∃g,g=h.dL.alloc [.str t,I 0]:=⟨_,rfl⟩
 obtain⟨h2,hh2⟩:∃g,g=h1.alloc [.aC h.next 0,.aO,I most,I 0]:=⟨_,rfl⟩
 have of1:=QG h.dL t
 rw[←hh1]at of1
 have n1:h1.next=h.next+1:=by rw[hh1];simp
 have st:St ⟨h.next+1,h.next,t,most⟩ ⟨0,[],0⟩ h2 .aO:=by
  refine⟨?_, ?_,.inl ⟨rfl,rfl⟩,by simp, ?_, ?_,by simp [AV.id?],by simp [AV.id?], ?_,hs,by simp,by simp;omega,by show most≤900000;omega⟩
  · rw[hh2,H.aV,if_pos n1.symm]
  · rw[hh2,H.aV,if_neg (by show h.next≠h1.next;omega),hh1,H.aV,if_pos (show h.next=h.dL.next from rfl)];rfl
  · rw[hh2,hh1];simp
  · rw[hh2,hh1];simp
  · rw[hh2,hh1];simp;omega
 obtain⟨e',h3,ov,S,q1,q2,q3,q4,q5⟩:=F0 (8* t.size+1) ⟨0,[],0⟩ h2 .aO st rfl (by show 8* t.size<0+(8* t.size+1);omega)
 have gs:=q3.gs
 have bx:∀e:Env,look e 18=.agg [.aC h.next 0,.aO,.int .i64 most,.int .i64 0]→aX e (.box 4 (.t 18))=some ([.aC h.next 0,.aO,.int .i64 most,.int .i64 0],fun i=>.aC i 0):=by
  intro e q;simp only[aX,rT,q];rfl
 have fl:dM [.cn,.aO,.int .i64 0,.int .i64 0] [(0,1,.aC h.next 0),(2,1,.int .i64 most)]=some [.aC h.next 0,.aO,.int .i64 most,.int .i64 0]:=rfl
 have hn:h.dL.next=h.next:=rfl
 dsimp only at q5
 cases hi:vU t most (8* t.size+1) 0 []with
 | error k =>
   rw[hi]at q5
   have c3:(S.e !=0)=true:=tU (by rw[q5.1];exact q5.2)
   have hk:S.e=k:=q5.1
   refine tL (fn:=AP.f7) (h2:=h3) (e:=[(4,.str ⟨#[]⟩),(5,I 0),(6,I k)]) rfl rfl rfl ?_ rfl rfl
   simp only[I]at *
   simp only[AP.f7,go_sem,R0 c1,R0 c2,of1,hn,R5,SD,fl]
   rw[bx _ rfl]
   rw[hk]at gs c3
   simp only[go_sem,←hh2,n1,rR,q1,q2,gs,c3]
 | ok z =>
   obtain⟨p,o⟩:=z
   rw[hi]at q5
   simp only[Fin]at q5
   have c3:(S.e !=0)=false:=tT (by rw[q5])
   obtain⟨h4,a1,a2,a3⟩:=q3.align
   have gs4:=a2.gs
   have gr4:=a2.gr
   have at4:=Qw h4 h.next t _ gr4
   have hb:=KW a2.own
   subst q5
   dsimp only at gs4 gr4 at4 hb a2 gs c3
   have hle:=a2.yC
   dsimp only at hle
   have qd:bn .quo (.int .i64 (((p+7)/8* 8:Nat):Int)) (.int .i64 8)=some (.int .i64 (((p+7)/8:Nat):Int)):=by
    rw[rH _ _ _ (by omega),show(8:Int)=((8:Nat):Int)from rfl,yO,Nat.mul_div_cancel _ (by omega),ve (by omega)]
   refine tL (fn:=AP.f7) (h2:=h4) (e:=[(4,.str (bytesOf o)),(5,I ((p+7)/8:Nat)),(6,I 0)]) rfl rfl rfl ?_ rfl rfl
   generalize (p+7)/8* 8=P8 at *
   generalize (p+7)/8=P at *
   simp only[I]at *
   simp only[AP.f7,go_sem,R0 c1,R0 c2,of1,hn,R5,SD,fl]
   rw[bx _ rfl]
   simp only[go_sem,←hh2,n1,rR,q1,q2,gs,c3,a1]
   rw[Jl (e':=[(6,.int .i64 0),(5,.int .i64 P),(4,.str (bytesOf o)),(55,.int .i64 P),(54,.int .i64 P8),(53,.aC h.next 0),(52,.aC (h.next+1) 0),(51,.aC (h.next+1) 0),(50,.aC (h.next+1) 0),(49,.str (bytesOf o)),(48,ov),(47,.aC (h.next+1) 1),(46,.aC (h.next+1) 0),(45,.aC (h.next+1) 0),(7,.aC (h.next+1) 0)]) (h':=h4) (gs:=[h4,h4])]
   · simp only[go_sem]
   · simp only[A6,EY,EM,E5,E4,bW.aN,go_sem,gs4,hb,at4,qd]
   · refine BF (fun k hk=> ?_) (BF (fun k hk=> ?_) rfl)
     · obtain rfl:k=1:=by simpa using hk
       refine BE (o:=⟨some 48,.load false 1 (.t 47),none⟩) (g:=h4) (h':=h4) (d:=48) (u:=ov) rfl rfl rfl rfl ?_ ?_
       · simp only[ai,go_sem,gs4]
       · simp only[go_sem]
         rcases a2.own with ⟨rfl,_⟩|⟨id,rfl,_⟩
         · rfl
         · exact Cp _ _ _ _
     · obtain rfl:k=1:=by simpa using hk
       refine BE (o:=⟨some 49,.kA (.t 48),none⟩) (g:=h4) (h':=h4) (d:=49) (u:=.str (bytesOf o)) rfl rfl rfl rfl ?_ ?_
       · simp only[ai,go_sem,hb]
       · simp only[go_sem,Cg]
theorem LW (h:H) (n:Int):aQ AP.A 9 [I n] h=some (I n,h):=by
 refine tL (fn:=AP.f9) (h2:=h.dL) (e:=[(2,I n)]) rfl rfl rfl ?_ rfl rfl
 simp only[I]at *
 simp only[AP.f9,go_sem]
theorem Jw {a b:Nat} (ha:a<256) (hb:b<256):bits .or .u8 (a:Int) (b:Int)=((a|||b:Nat):Int):=by
 have h3:a|||b<2^8:=Nat.or_lt_two_pow (by simpa using ha) (by simpa using hb)
 show IntKind.wrap .u8 (((BitVec.ofInt 8 (a:Int)|||BitVec.ofInt 8 (b:Int)).toNat:Nat):Int)=_
 rw[BitVec.toNat_or,ye 8 a (by omega),ye 8 b (by omega)]
 exact wrap_u8 (by simpa using h3)
def vV (out:List Nat) (i:Nat) (b:Nat):List Nat:=
 let o:=if i%8=0 then out++[0]else out
 o.set (i/8) (o.getD (i/8) 0|||b* 2^(i%8))
def wR:List Nat→Nat→List Nat→List Nat
 |[],_,out=>out
 |b::r,i,out=>wR r (i+1) (vV out i b)
theorem BX {out:List Nat} {i b:Nat} (h:out.length=(i+7)/8):(vV out i b).length=(i+1+7)/8:=by
 unfold vV
 dsimp only
 rw[Sj]
 split
 · rw[u4,h];simp;omega
 · rw[h];omega
theorem BW {out:List Nat} {i b:Nat} (hb:b≤1) (h:KM out):KM (vV out i b):=by
 have h1:KM (if i%8=0 then out++[0]else out):=by
  split
  · intro x hx
    rcases Sn.1 hx with q|q
    · exact h x q
    · simp at q;omega
  · exact h
 intro x hx
 unfold vV at hx
 dsimp only at hx
 rcases Ss hx with q|q
 · exact h1 x q
 · subst q
   have h2:(if i%8=0 then out++[0]else out).getD (i/8) 0<2^8:=by
    rw[RW]
    cases hg:(if i%8=0 then out++[0]else out)[i/8]? with
    |none=>simp
    |some y=>simpa using h1 y (uL hg)
   have h3:b* 2^(i%8)<2^8:=by
    have:2^(i%8)≤2^7:=Se (by omega) (by omega)
    have:b* 2^(i%8)≤1* 2^7:=Nat.mul_le_mul hb this
    omega
   simpa using Nat.or_lt_two_pow h2 h3
theorem ni.set {h:H} {v:AV} {cs:List AV} (o:ni h v cs) {i:Nat} (hi:i<cs.length) (x:AV):∃id,v=.aD id 0 cs.length 1∧h.get id=some cs∧h.floor≤id∧ni (h.set id (cs.set i x)) v (cs.set i x):=by
 rcases o with ⟨rfl,rfl⟩|⟨id,rfl,h1,h2,h3⟩
 · simp at hi
 · exact⟨id,rfl,h1,h2,.inr ⟨id,by simp,by rw[H.dj,if_pos rfl,h1];rfl,by simpa using h2,by intro e;apply h3;have:=Sp List.length e;simpa using this⟩⟩
structure Qt (a t:ByteArray):Prop where
 sz:a.size≤t.size
 bit:∀i,i<8* a.size→wZ a i=wZ t i
theorem Qt.val {a t:ByteArray} (h:Qt a t) (p:Nat):∀n,p+n≤8* a.size→vg a p n=vg t p n
 |0,_=>rfl
 |n+1,hn=>by rw[vg,vg,h.val p n (by omega),h.bit (p+n) (by omega)]
section
variable {a t:ByteArray} (h:Qt a t)
include h
theorem zQ {l : List Int} : ∀ {k n v p : Nat} {y : Int} {p2 : Nat}, xB t l k n v p = some (y, p2) → xB a l k n v p = if p2 ≤ 8 * a.size then some (y, p2) else none
 |0,_,_,_,_,_,hs=>by cases hs
 | k + 1, n, v, p, y, p2, hs => by
   have hb:=xi hs
   rw[xB]at hs ⊢
   split at hs
   · by_cases hp:p+1≤8* a.size
     · rw[if_pos hp,h.val p 1 hp]
       split at hs
       · rename_i hf
         obtain⟨rfl,rfl⟩:=ux (uv hs)
         rw[if_pos hp]
       · exact zQ hs
     · rw[if_neg hp,if_neg (by omega)]
   · cases hs
theorem Fk {y : Int} {acc : List Int} {p : Nat} {n : Int} {times p2 : Nat} (hs : xj t y acc p = some (n, times, p2)) (hp : p ≤ 8 * a.size) : xj a y acc p = if p2 ≤ 8 * a.size then some (n, times, p2) else none := by
 have key:∀(k:Nat) (f:Nat→Int×Nat),(if p+k≤8* t.size then some ((f (vg t p k)).1,(f (vg t p k)).2,p+k)else none)=some (n,times,p2)→(if p+k≤8* a.size then some ((f (vg a p k)).1,(f (vg a p k)).2,p+k)else none)=if p2≤8* a.size then some (n,times,p2)else none:=by
  intro k f hk
  split at hk
  · have h2:p+k=p2:=by have:=Sp (fun o=>o.map (·.2.2)) hk;simpa using this
    by_cases hpk:p+k≤8* a.size
    · rw[if_pos hpk,h.val p k hpk,if_pos (by omega)];exact hk
    · rw[if_neg hpk,if_neg (by omega)]
  · cases hk
 unfold xj at hs ⊢
 by_cases h16:y=16
 · rw[if_pos h16]at hs ⊢
   by_cases hn:acc=[]
   · rw[if_pos hn]at hs;cases hs
   · rw[if_neg hn]at hs ⊢
     exact key 2 (fun v=>(acc.getD (acc.length-1) 0,3+v)) hs
 · rw [if_neg h16] at hs ⊢
   by_cases h17:y=17
   · rw[if_pos h17]at hs ⊢
     exact key 3 (fun v=>(0,3+v)) hs
   · rw[if_neg h17]at hs ⊢
     by_cases h18:y=18
     · rw[if_pos h18]at hs ⊢
       exact key 7 (fun v=>(0,11+v)) hs
     · rw[if_neg h18]at hs ⊢
       have h2:p=p2:=by have:=Sp (fun o=>o.map (·.2.2)) hs;simpa using this
       rw[if_pos (by omega)];exact hs
omit h in
theorem Iu {y:Int} {acc:List Int} {p:Nat} {n:Int} {times p2:Nat} (hs:xj t y acc p=some (n,times,p2)):p≤p2:=by
 unfold xj at hs
 repeat' split at hs
 all_goals first
  |(cases hs;done)
  |(have:=Sp (fun o=>o.map (·.2.2)) hs;simp only[R1,uy]at this;omega)
theorem zV {cl : List Int} {many : Nat} : ∀ {f f' : Nat} {acc : List Int} {p : Nat} {L : List Int} {p2 : Nat}, vY t cl many f acc p = some (L, p2) → 8 * a.size < p + f' → p ≤ 8 * a.size → vY a cl many f' acc p = if p2 ≤ 8 * a.size then some (L, p2) else none
 |0,_,_,_,_,_,hs,_,_=>by cases hs
 | f + 1, f', acc, p, L, p2, hs, hf, hp => by
   obtain⟨g,rfl⟩:∃g,f'=g+1:=⟨f'-1,by omega⟩
   rw[vY]at hs ⊢
   by_cases hlt:acc.length<many
   · rw [if_pos hlt] at hs ⊢
     cases hz:xB t cl 15 1 0 p with
     |none=>rw[hz]at hs;cases hs
     | some q =>
       obtain⟨y,p1⟩:=q
       rw[hz]at hs
       have hb:=xi hz
       rw[zQ h hz]
       cases hag:xj t y acc p1 with
       |none=>dsimp only at hs;rw[hag]at hs;cases hs
       | some r =>
         obtain⟨n,times,p3⟩:=r
         dsimp only at hs
         rw[hag]at hs
         dsimp only at hs
         have hge:=Iu hag
         have hge2:=xL hs
         by_cases hp1:p1≤8* a.size
         · rw[if_pos hp1]
           dsimp only
           rw[Fk h hag hp1]
           by_cases hp3:p3≤8* a.size
           · rw[if_pos hp3]
             exact zV hs (by omega) hp3
           · rw[if_neg hp3,if_neg (by omega)]
         · rw[if_neg hp1,if_neg (by omega)]
   · rw[if_neg hlt]at hs ⊢
     by_cases hg:many<acc.length
     · rw[if_pos hg]at hs;cases hs
     · rw[if_neg hg]at hs ⊢
       obtain⟨rfl,rfl⟩:=ux (uv hs)
       rw[if_pos hp]
theorem Gl:∀(r:List Int) (p:Nat) (o:List Int),p+3* r.length≤8* a.size→Bx a r p o=Bx t r p o
 |[],_,_,_=>rfl
 | s :: r, p, o, hp => by
   rw[RX]at hp
   rw[Bx,Bx,h.val p 3 (by omega),Gl r (p+3) _ (by omega)]
omit h in
theorem Hp (k:Nat) (hk:k≤19):(vw.take k).length=k:=by rw[Sv];show min k 19=k;omega
theorem Hi {many p : Nat} {L : List Int} {p2 : Nat} (hs : xy t many p = some (L, p2)) : xy a many p = if p2 ≤ 8 * a.size then some (L, p2) else none := by
 unfold xy at hs ⊢
 dsimp only at hs ⊢
 have hv:=wL t p 4
 split at hs
 · split at hs
   · split at hs
     · rename_i h1 h2 h3
       have hge:=xL hs
       by_cases hp:p+4≤8* a.size
       · rw[if_pos hp,h.val p 4 hp]
         by_cases hp2:p+4+3* (vg t p 4+4)≤8* a.size
         · rw[if_pos hp2,Gl h _ _ _ (by rw[Hp _ (by omega)];omega),if_pos h3]
           exact zV h hs (by omega) hp2
         · rw[if_neg hp2,if_neg (by omega)]
       · rw[if_neg hp,if_neg (by omega)]
     · cases hs
   · cases hs
 · cases hs
theorem B8 {most most' : Int} (hm : most ≤ most') : ∀ {n p : Nat} {out : List Nat} {p2 : Nat} {o : List Nat}, wq t most n p out = .ok (p2, o) → p ≤ 8 * a.size → wq a most' n p out = if p2 ≤ 8 * a.size then .ok (p2, o) else .error 700
 | 0, p, out, p2, o, hs, hp => by
   rw[wq]at hs ⊢
   cases hs
   rw[if_pos hp]
 | n + 1, p, out, p2, o, hs, hp => by
   rw[wq]at hs ⊢
   split at hs
   · split at hs
     · cases hs
     · have hge:=yM hs
       by_cases hp8:p+8≤8* a.size
       · rw[if_pos hp8,if_neg (by omega),h.val p 8 hp8]
         exact B8 hm hs hp8
       · rw[if_neg hp8,if_neg (by omega)]
   · cases hs
theorem Ff {most most' : Int} (hm : most ≤ most') {p : Nat} {out : List Nat} {p2 : Nat} {o : List Nat} (hs : wX t most p out = .ok (p2, o)) : wX a most' p out = if p2 ≤ 8 * a.size then .ok (p2, o) else .error 700 := by
 unfold wX at hs ⊢
 dsimp only at hs ⊢
 generalize (p+7)/8* 8=q at *
 split at hs
 · split at hs
   · rename_i h1 h2
     have hge:=yM hs
     by_cases hp:q+32≤8* a.size
     · rw[if_pos hp,h.val q 16 (by omega),h.val (q+16) 16 (by omega),if_pos h2]
       exact B8 h hm hs hp
     · rw[if_neg hp,if_neg (by omega)]
   · cases hs
 · cases hs
omit h in
theorem CF {most most':Int} (hm:most≤most') {d:Nat}:∀{n:Nat} {out o:List Nat},w9 most d n out=.ok o→w9 most' d n out=.ok o
 |0,out,o,hs=>hs
 | n + 1, out, o, hs => by
   rw[w9]at hs ⊢
   split at hs
   · cases hs
   · rw[if_neg (by omega)];exact CF hm hs
theorem G9 {most most' : Int} (hm : most ≤ most') {dl : List Int} {y p : Nat} {out : List Nat} {p2 : Nat} {o : List Nat} (hs : xC t most dl y p out = .ok (p2, o)) : xC a most' dl y p out = if p2 ≤ 8 * a.size then .ok (p2, o) else .error 700 := by
 unfold xC at hs ⊢
 cases hl:lenOf y with
 |none=>rw[hl]at hs;cases hs
 | some le =>
   obtain⟨least,extra⟩:=le
   rw[hl]at hs
   dsimp only at hs ⊢
   split at hs
   · cases hz : xB t dl 15 1 0 (p + extra) with
     |none=>rw[hz]at hs;cases hs
     | some q =>
       obtain⟨z,p3⟩:=q
       rw[hz]at hs
       have hb:=xi hz
       cases hd:vD z.toNat with
       |none=>dsimp only at hs;rw[hd]at hs;cases hs
       | some lx =>
         obtain⟨ld,xd⟩:=lx
         dsimp only at hs
         rw[hd]at hs
         dsimp only at hs
         split at hs
         · rename_i h1 h2
           cases hc:w9 most (ld+vg t p3 xd) (least+vg t p extra) out with
           |error k=>rw[hc]at hs;cases hs
           | ok o2 =>
             rw[hc]at hs
             dsimp only at hs
             obtain⟨rfl,rfl⟩:p3+xd=p2∧o2=o:=by cases hs;exact⟨rfl,rfl⟩
             by_cases hp:p+extra≤8* a.size
             · rw[if_pos hp,zQ h hz]
               by_cases hp3:p3≤8* a.size
               · rw[if_pos hp3]
                 dsimp only
                 rw[hd]
                 dsimp only
                 by_cases hp4:p3+xd≤8* a.size
                 · rw[h.val p3 xd hp4,if_pos ⟨hp4,h2.2⟩,h.val p extra hp,CF hm hc,if_pos hp4]
                 · rw[if_neg (fun q=>hp4 q.1),if_neg hp4]
               · rw[if_neg hp3,if_neg (by omega)]
             · rw[if_neg hp,if_neg (by omega)]
         · cases hs
   · cases hs
theorem yq {most most' : Int} (hm : most ≤ most') {ll dl : List Int} : ∀ {k k' p : Nat} {out : List Nat} {p2 : Nat} {o : List Nat}, wo t most ll dl k p out = .ok (p2, o) → 8 * a.size < p + k' → p ≤ 8 * a.size → wo a most' ll dl k' p out = if p2 ≤ 8 * a.size then .ok (p2, o) else .error 700
 |0,_,_,_,_,_,hs,_,_=>by cases hs
 | k + 1, k', p, out, p2, o, hs, hk, hp => by
   obtain⟨g,rfl⟩:∃g,k'=g+1:=⟨k'-1,by omega⟩
   rw[wo]at hs ⊢
   cases hz:xB t ll 15 1 0 p with
   |none=>rw[hz]at hs;cases hs
   | some q =>
     obtain⟨y,p1⟩:=q
     rw[hz]at hs
     have hb:=xi hz
     rw[zQ h hz]
     dsimp only at hs
     by_cases c1:y<256
     · rw [if_pos c1] at hs
       split at hs
       · cases hs
       · have hge:=wV hs
         by_cases hp1:p1≤8* a.size
         · rw[if_pos hp1]
           dsimp only
           rw[if_pos c1,if_neg (by omega)]
           exact yq hm hs (by omega) hp1
         · rw[if_neg hp1,if_neg (by omega)]
     · rw [if_neg c1] at hs
       by_cases c2:y=256
       · rw[if_pos c2]at hs
         cases hs
         by_cases hp1:p2≤8* a.size
         · rw[if_pos hp1,if_pos hp1]
           dsimp only
           rw[if_neg c1,if_pos c2]
         · rw[if_neg hp1,if_neg hp1]
       · rw [if_neg c2] at hs
         cases hc:xC t most dl y.toNat p1 out with
         |error e=>rw[hc]at hs;cases hs
         | ok q2 =>
           obtain⟨p3,o3⟩:=q2
           rw[hc]at hs
           dsimp only at hs
           have hge:=CE hc
           have hge2:=wV hs
           by_cases hp1:p1≤8* a.size
           · rw[if_pos hp1]
             dsimp only
             rw[if_neg c1,if_neg c2,G9 h hm hc]
             by_cases hp3:p3≤8* a.size
             · rw[if_pos hp3]
               exact yq hm hs (by omega) hp3
             · rw[if_neg hp3,if_neg (by omega)]
           · rw[if_neg hp1,if_neg (by omega)]
omit h in
theorem Ga {many p:Nat} {L:List Int} {p2:Nat} (hl:xy t many p=some (L,p2)):p≤p2:=by
 unfold xy at hl
 split at hl
 · dsimp only at hl
   split at hl
   · split at hl
     · have:=xL hl;omega
     · cases hl
   · cases hl
 · cases hl
theorem IJ {most most' : Int} (hm : most ≤ most') {p : Nat} {out : List Nat} {p2 : Nat} {o : List Nat} (hs : Aa t most p out = .ok (p2, o)) : Aa a most' p out = if p2 ≤ 8 * a.size then .ok (p2, o) else .error 700 := by
 unfold Aa at hs ⊢
 dsimp only at hs ⊢
 split at hs
 · split at hs
   · cases hs
   · rename_i h1 h2
     split at hs
     · cases hs
     · rename_i L p3 hl
       split at hs
       · cases hs
       · rename_i h3
         have hge:=Ga hl
         have hge2:=wV hs
         by_cases hp:p+10≤8* a.size
         · rw[if_pos hp,h.val p 5 (by omega),h.val (p+5) 5 (by omega),if_neg h2,Hi h hl]
           by_cases hp3:p3≤8* a.size
           · rw[if_pos hp3]
             dsimp only
             rw[if_neg h3]
             exact yq h hm hs (by omega) hp3
           · rw[if_neg hp3,if_neg (by omega)]
         · rw[if_neg hp,if_neg (by omega)]
 · cases hs
theorem Fz {most most' : Int} (hm : most ≤ most') {p : Nat} {out : List Nat} {b : Bool} {p2 : Nat} {o : List Nat} (hs : wu t most p out = .ok (b, p2, o)) : wu a most' p out = if p2 ≤ 8 * a.size then .ok (b, p2, o) else .error 700 := by
 have hge:=yD hs
 unfold wu at hs ⊢
 dsimp only at hs ⊢ hge
 split at hs
 · by_cases hp : p + 3 ≤ 8 * a.size
   · rw [if_pos hp, h.val p 1 (by omega), h.val (p + 1) 2 (by omega)]
     have key:∀{r r':Rs},(∀p3 o3,r=.ok (p3,o3)→r'=if p3≤8* a.size then .ok (p3,o3)else .error 700)→(match r with| .ok q=>Except.ok (ε:=Int) (vg t p 1==1,q.1,q.2)| .error k=>.error k)=.ok (b,p2,o)→(match r' with| .ok q=>Except.ok (ε:=Int) (vg t p 1==1,q.1,q.2)| .error k=>.error k)=if p2≤8* a.size then .ok (b,p2,o)else .error 700:=by
      intro r r' hr hk
      cases r with
      |error k=>cases hk
      | ok q =>
        obtain⟨p3,o3⟩:=q
        rw[hr p3 o3 rfl]
        rw[←hk]
        have h1:p3=p2:=by
         have:=Sp (fun r:Except Int (Bool×Nat×List Nat)=>match r with| .ok q=>q.2.1|_=>0) hk
         exact this
        rw[h1]
        by_cases hp2:p2≤8* a.size
        · rw[if_pos hp2,if_pos hp2]
        · rw[if_neg hp2,if_neg hp2]
     refine key (fun p3 o3 hr=> ?_) hs
     by_cases d0:vg t (p+1) 2=0
     · rw[if_pos d0]at hr ⊢;exact Ff h hm hr
     · rw[if_neg d0]at hr ⊢
       by_cases d1:vg t (p+1) 2=1
       · rw[if_pos d1]at hr ⊢;exact yq h hm hr (by omega) hp
       · rw[if_neg d1]at hr ⊢
         by_cases d2:vg t (p+1) 2=2
         · rw[if_pos d2]at hr ⊢;exact IJ h hm hr
         · rw[if_neg d2]at hr;cases hr
   · rw [if_neg hp]
     have:p+3≤p2:=by
      have h3:∀{r:Rs},(∀q,r=.ok q→p+3≤q.1)→(match r with| .ok q=>Except.ok (ε:=Int) (vg t p 1==1,q.1,q.2)| .error k=>.error k)=.ok (b,p2,o)→p+3≤p2:=by
       intro r hr hk
       cases r with
       |error k=>cases hk
       |ok q=>have:=hr q rfl;cases hk;exact this
      refine h3 (fun q hr=> ?_) hs
      obtain⟨p3,o3⟩:=q
      by_cases d0:vg t (p+1) 2=0
      · rw[if_pos d0]at hr
        unfold wX at hr
        dsimp only at hr
        split at hr
        · split at hr
          · have:=yM hr;dsimp only;omega
          · cases hr
        · cases hr
      · rw [if_neg d0] at hr
        by_cases d1:vg t (p+1) 2=1
        · rw[if_pos d1]at hr;have:=wV hr;dsimp only;omega
        · rw [if_neg d1] at hr
          by_cases d2:vg t (p+1) 2=2
          · rw [if_pos d2] at hr
            unfold Aa at hr
            split at hr
            · dsimp only at hr
              split at hr
              · cases hr
              · split at hr
                · cases hr
                · rename_i L p4 hl
                  split at hr
                  · cases hr
                  · have:=Ga hl;have:=wV hr;dsimp only;omega
            · cases hr
          · rw[if_neg d2]at hr;cases hr
     rw[if_neg (by omega)]
 · cases hs
omit h in
theorem Ad {most : Int} : ∀ {f p : Nat} {out : List Nat} {p2 : Nat} {o : List Nat}, vU t most f p out = .ok (p2, o) → p ≤ p2
 |0,_,_,_,_,hs=>by cases hs
 | f + 1, p, out, p2, o, hs => by
   rw[vU]at hs
   cases hb:wu t most p out with
   |error k=>rw[hb]at hs;cases hs
   | ok q =>
     obtain⟨b,p3,o3⟩:=q
     rw[hb]at hs
     have hge:=yD hb
     dsimp only at hs hge
     cases b with
     | true =>
       simp only[if_true]at hs
       have:=Sp (fun r:Rs=>match r with| .ok q=>q.1|_=>0) hs
       dsimp only at this
       omega
     | false =>
       simp only[uF,u5]at hs
       have:=Ad hs
       omega
theorem AS {most most' : Int} (hm : most ≤ most') : ∀ {f f' p : Nat} {out : List Nat} {p2 : Nat} {o : List Nat}, vU t most f p out = .ok (p2, o) → 8 * a.size < p + f' → p ≤ 8 * a.size → vU a most' f' p out = if p2 ≤ 8 * a.size then .ok (p2, o) else .error 700
 |0,_,_,_,_,_,hs,_,_=>by cases hs
 | f + 1, f', p, out, p2, o, hs, hf, hp => by
   obtain⟨g,rfl⟩:∃g,f'=g+1:=⟨f'-1,by omega⟩
   rw[vU]at hs ⊢
   cases hb:wu t most p out with
   |error k=>rw[hb]at hs;cases hs
   | ok q =>
     obtain⟨b,p3,o3⟩:=q
     rw[hb]at hs
     have hge:=yD hb
     rw[Fz h hm hb]
     dsimp only at hs hge
     cases b with
     | true =>
       simp only[if_true]at hs
       have h1:p3=p2:=by
        have:=Sp (fun r:Rs=>match r with| .ok q=>q.1|_=>0) hs
        exact this
       rw[←hs,h1]
       by_cases hp3:p2≤8* a.size
       · rw[if_pos hp3,if_pos hp3];simp
       · rw[if_neg hp3,if_neg hp3]
     | false =>
       simp only[uF,u5]at hs
       have hge2:p3≤p2:=Ad hs
       by_cases hp3:p3≤8* a.size
       · rw[if_pos hp3]
         simp only[uF,u5]
         exact AS hm hs (by omega) hp3
       · rw[if_neg hp3,if_neg (by omega)]
end
theorem Ar {t:ByteArray} {most:Int}:∀{n p:Nat} {out:List Nat} {p2:Nat} {o:List Nat},wq t most n p out=.ok (p2,o)→out.length≤o.length
 |0,p,out,p2,o,hs=>by rw[wq]at hs;cases hs;exact uH _
 | n + 1, p, out, p2, o, hs => by
   rw[wq]at hs
   split at hs
   · split at hs
     · cases hs
     · have:=Ar hs;simp at this;omega
   · cases hs
theorem Bh {most:Int} {d:Nat}:∀{n:Nat} {out o:List Nat},w9 most d n out=.ok o→out.length≤o.length
 |0,out,o,hs=>by rw[w9]at hs;cases hs;exact uH _
 | n + 1, out, o, hs => by
   rw[w9]at hs
   split at hs
   · cases hs
   · have:=Bh hs;simp at this;omega
variable {t:ByteArray} {most most':Int}
theorem Bc : ∀ {n p : Nat} {out : List Nat} {p2 : Nat} {o : List Nat}, wq t most n p out = .ok (p2, o) → (out.length : Int) ≤ most' → wq t most' n p out = if (o.length : Int) ≤ most' then .ok (p2, o) else .error 701
 | 0, p, out, p2, o, hs, hm => by
   rw[wq]at hs ⊢
   have h2:out=o:=by
    have:=Sp (fun r:Rs=>match r with| .ok q=>q.2|_=>[]) hs
    exact this
   subst h2
   rw[if_pos hm];exact hs
 | n + 1, p, out, p2, o, hs, hm => by
   rw[wq]at hs ⊢
   split at hs
   · rename_i hp
     split at hs
     · cases hs
     · rw[if_pos hp]
       have hlen:=Ar hs
       simp only[u4,Su]at hlen
       by_cases hle:most'≤(out.length:Int)
       · rw[if_pos hle,if_neg (by omega)]
       · rw[if_neg hle]
         exact Bc hs (by simp;omega)
   · cases hs
theorem BR {d : Nat} : ∀ {n : Nat} {out o : List Nat}, w9 most d n out = .ok o → (out.length : Int) ≤ most' → w9 most' d n out = if (o.length : Int) ≤ most' then .ok o else .error 701
 | 0, out, o, hs, hm => by
   rw[w9]at hs ⊢
   cases hs
   rw[if_pos hm]
 | n + 1, out, o, hs, hm => by
   rw[w9]at hs ⊢
   split at hs
   · cases hs
   · have hlen:=Bh hs
     simp only[u4,Su]at hlen
     by_cases hle:most'≤(out.length:Int)
     · rw[if_pos hle,if_neg (by omega)]
     · rw[if_neg hle]
       exact BR hs (by simp;omega)
theorem FK {dl : List Int} {y p : Nat} {out : List Nat} {p2 : Nat} {o : List Nat} (hs : xC t most dl y p out = .ok (p2, o)) (hm : (out.length : Int) ≤ most') : (xC t most' dl y p out = if (o.length : Int) ≤ most' then .ok (p2, o) else .error 701) ∧ out.length ≤ o.length := by
 unfold xC at hs ⊢
 cases hl:lenOf y with
 |none=>rw[hl]at hs;cases hs
 | some le =>
   obtain⟨least,extra⟩:=le
   rw[hl]at hs
   dsimp only at hs ⊢
   split at hs
   · rename_i hp
     rw[if_pos hp]
     cases hz:xB t dl 15 1 0 (p+extra)with
     |none=>rw[hz]at hs;cases hs
     | some q =>
       obtain⟨z,p3⟩:=q
       rw[hz]at hs
       dsimp only at hs ⊢
       cases hd:vD z.toNat with
       |none=>rw[hd]at hs;cases hs
       | some lx =>
         obtain⟨ld,xd⟩:=lx
         rw[hd]at hs
         dsimp only at hs ⊢
         split at hs
         · rename_i h2
           rw[if_pos h2]
           cases hc:w9 most (ld+vg t p3 xd) (least+vg t p extra) out with
           |error k=>rw[hc]at hs;cases hs
           | ok o2 =>
             rw[hc]at hs
             dsimp only at hs
             have h3:o2=o:=by
              have:=Sp (fun r:Rs=>match r with| .ok q=>q.2|_=>[]) hs
              exact this
             subst h3
             have hlen:=Bh hc
             rw[BR hc hm]
             refine⟨?_,hlen⟩
             by_cases hle:(o2.length:Int)≤most'
             · rw[if_pos hle,if_pos hle];exact hs
             · rw[if_neg hle,if_neg hle]
         · cases hs
   · cases hs
theorem wU {ll dl : List Int} : ∀ {k p : Nat} {out : List Nat} {p2 : Nat} {o : List Nat} {most' : Int}, wo t most ll dl k p out = .ok (p2, o) → (out.length : Int) ≤ most' → (wo t most' ll dl k p out = if (o.length : Int) ≤ most' then .ok (p2, o) else .error 701) ∧ out.length ≤ o.length
 |0,_,_,_,_,_,hs,_=>by cases hs
 | k + 1, p, out, p2, o, most', hs, hm => by
   rw[wo]at hs ⊢
   cases hz:xB t ll 15 1 0 p with
   |none=>rw[hz]at hs;cases hs
   | some q =>
     obtain⟨y,p1⟩:=q
     rw[hz]at hs
     dsimp only at hs ⊢
     by_cases c1:y<256
     · rw [if_pos c1] at hs ⊢
       split at hs
       · cases hs
       · by_cases hle:most'≤(out.length:Int)
         · rw[if_pos hle]
           have hlen:(out++[y.toNat]).length≤o.length:=(wU (most':=((out++[y.toNat]).length:Int)) hs (Sx _)).2
           simp only[u4,Su]at hlen
           exact⟨by rw[if_neg (by omega)],by omega⟩
         · rw[if_neg hle]
           have:=wU (most':=most') hs (by simp;omega)
           refine⟨this.1, ?_⟩
           have h2:=this.2
           simp only[u4,Su]at h2
           omega
     · rw [if_neg c1] at hs ⊢
       by_cases c2:y=256
       · rw[if_pos c2]at hs ⊢
         have h3:out=o:=by
          have:=Sp (fun r:Rs=>match r with| .ok q=>q.2|_=>[]) hs
          exact this
         subst h3
         rw[if_pos hm]
         exact⟨hs,uH _⟩
       · rw [if_neg c2] at hs ⊢
         cases hc:xC t most dl y.toNat p1 out with
         |error e=>rw[hc]at hs;cases hs
         | ok q2 =>
           obtain⟨p3,o3⟩:=q2
           rw[hc]at hs
           dsimp only at hs
           have hb:=FK (most':=most') hc hm
           rw[hb.1]
           by_cases hle:(o3.length:Int)≤most'
           · rw[if_pos hle]
             have:=wU (most':=most') hs hle
             exact⟨this.1,uZ hb.2 this.2⟩
           · rw[if_neg hle]
             have hlen:o3.length≤o.length:=(wU (most':=(o3.length:Int)) hs (Sx _)).2
             exact⟨by rw[if_neg (by omega)],by omega⟩
theorem DG {p:Nat} {out:List Nat} {p2:Nat} {o:List Nat} (hs:wX t most p out=.ok (p2,o)) (hm:(out.length:Int)≤most'):(wX t most' p out=if(o.length:Int)≤most' then .ok (p2,o)else .error 701)∧out.length≤o.length:=by
 unfold wX at hs ⊢
 dsimp only at hs ⊢
 split at hs
 · rename_i h1
   split at hs
   · rename_i h2
     rw[if_pos h1,if_pos h2]
     exact⟨Bc hs hm,Ar hs⟩
   · cases hs
 · cases hs
theorem Hc {p : Nat} {out : List Nat} {p2 : Nat} {o : List Nat} (hs : Aa t most p out = .ok (p2, o)) (hm : (out.length : Int) ≤ most') : (Aa t most' p out = if (o.length : Int) ≤ most' then .ok (p2, o) else .error 701) ∧ out.length ≤ o.length := by
 unfold Aa at hs ⊢
 dsimp only at hs ⊢
 split at hs
 · rename_i h1
   rw[if_pos h1]
   split at hs
   · cases hs
   · rename_i h2
     rw[if_neg h2]
     split at hs
     · cases hs
     · rename_i L p3 hl
       split at hs
       · cases hs
       · rename_i h3
         rw[if_neg h3]
         exact wU hs hm
 · cases hs
theorem EG {p : Nat} {out : List Nat} {b : Bool} {p2 : Nat} {o : List Nat} (hs : wu t most p out = .ok (b, p2, o)) (hm : (out.length : Int) ≤ most') : (wu t most' p out = if (o.length : Int) ≤ most' then .ok (b, p2, o) else .error 701) ∧ out.length ≤ o.length := by
 unfold wu at hs ⊢
 dsimp only at hs ⊢
 split at hs
 · rename_i hp
   rw[if_pos hp]
   have key:∀{r r':Rs},(∀p3 o3,r=.ok (p3,o3)→(r'=if(o3.length:Int)≤most' then .ok (p3,o3)else .error 701)∧out.length≤o3.length)→(match r with| .ok q=>Except.ok (ε:=Int) (vg t p 1==1,q.1,q.2)| .error k=>.error k)=.ok (b,p2,o)→((match r' with| .ok q=>Except.ok (ε:=Int) (vg t p 1==1,q.1,q.2)| .error k=>.error k)=if(o.length:Int)≤most' then .ok (b,p2,o)else .error 701)∧out.length≤o.length:=by
    intro r r' hr hk
    cases r with
    |error k=>cases hk
    | ok q =>
      obtain⟨p3,o3⟩:=q
      have h1:=hr p3 o3 rfl
      have h2:o3=o:=by
       have:=Sp (fun r:Except Int (Bool×Nat×List Nat)=>match r with| .ok q=>q.2.2|_=>[]) hk
       exact this
      rw[h1.1,←hk,←h2]
      refine⟨?_,h1.2⟩
      by_cases hle:(o3.length:Int)≤most'
      · rw[if_pos hle,if_pos hle]
      · rw[if_neg hle,if_neg hle]
   refine key (fun p3 o3 hr=> ?_) hs
   by_cases d0:vg t (p+1) 2=0
   · rw[if_pos d0]at hr ⊢;exact DG hr hm
   · rw[if_neg d0]at hr ⊢
     by_cases d1:vg t (p+1) 2=1
     · rw[if_pos d1]at hr ⊢;exact wU hr hm
     · rw[if_neg d1]at hr ⊢
       by_cases d2:vg t (p+1) 2=2
       · rw[if_pos d2]at hr ⊢;exact Hc hr hm
       · rw[if_neg d2]at hr;cases hr
 · cases hs
theorem xJ : ∀ {f p : Nat} {out : List Nat} {p2 : Nat} {o : List Nat} {most' : Int}, vU t most f p out = .ok (p2, o) → (out.length : Int) ≤ most' → (vU t most' f p out = if (o.length : Int) ≤ most' then .ok (p2, o) else .error 701) ∧ out.length ≤ o.length
 |0,_,_,_,_,_,hs,_=>by cases hs
 | f + 1, p, out, p2, o, most', hs, hm => by
   rw[vU]at hs ⊢
   cases hb:wu t most p out with
   |error k=>rw[hb]at hs;cases hs
   | ok q =>
     obtain⟨b,p3,o3⟩:=q
     rw[hb]at hs
     have h1:=EG (most':=most') hb hm
     rw[h1.1]
     dsimp only at hs
     cases b with
     | true =>
       simp only[if_true]at hs
       have h2:o3=o:=by
        have:=Sp (fun r:Rs=>match r with| .ok q=>q.2|_=>[]) hs
        exact this
       subst h2
       refine⟨?_,h1.2⟩
       by_cases hle:(o3.length:Int)≤most'
       · rw[if_pos hle,if_pos hle];simp only[if_true];exact hs
       · rw[if_neg hle,if_neg hle]
     | false =>
       simp only[uF,u5]at hs
       by_cases hle:(o3.length:Int)≤most'
       · rw[if_pos hle]
         simp only[uF,u5]
         have:=xJ (most':=most') hs hle
         exact⟨this.1,uZ h1.2 this.2⟩
       · rw[if_neg hle]
         have hlen:o3.length≤o.length:=(xJ (most':=(o3.length:Int)) hs (Sx _)).2
         exact⟨by rw[if_neg (by omega)],by have:=h1.2;omega⟩
theorem F4 {o : List Nat} {took : Nat} (hs : vM t most = .ok (o, took)) : ∃ p, vU t most (8 * t.size + 1) 0 [] = .ok (p, o) ∧ took = (p + 7) / 8 ∧ 0 < p ∧ p ≤ 8 * t.size ∧ (o.length : Int) ≤ most ∧ 0 ≤ most ∧ most ≤ 8192 := by
 unfold vM at hs
 split at hs
 · cases hs
 · rename_i h1
   cases hi:vU t most (8* t.size+1) 0 []with
   |error k=>rw[hi]at hs;cases hs
   | ok q =>
     obtain⟨p,o2⟩:=q
     rw[hi]at hs
     dsimp only at hs
     have h2:o2=o∧(p+7)/8=took:=by
      have:=Sp (fun r:Except Int (List Nat×Nat)=>match r with| .ok q=>q|_=>([],0)) hs
      exact ux this
     obtain⟨rfl,rfl⟩:=h2
     have hd:=AS (a:=t) (t:=t) ⟨uH _,fun _ _=>rfl⟩ (Sx most) hi (f':=8* t.size+1) (by omega) (Nat.zero_le _)
     rw[hi]at hd
     have hp:p≤8* t.size:=by
      by_cases q:p≤8* t.size
      · exact q
      · rw[if_neg q]at hd;cases hd
     have hb:=(xJ (most':=most) hi (by simp;omega)).1
     rw[hi]at hb
     have hl:(o2.length:Int)≤most:=by
      by_cases q:(o2.length:Int)≤most
      · exact q
      · rw[if_neg q]at hb;cases hb
     have hp0:0<p:=by
      rw[vU]at hi
      cases hbk:wu t most 0 []with
      |error k=>rw[hbk]at hi;cases hi
      | ok z =>
        obtain⟨b,p3,o3⟩:=z
        rw[hbk]at hi
        have hge:=yD hbk
        dsimp only at hi hge
        cases b with
        | true =>
          simp only[if_true]at hi
          have:=Sp (fun r:Rs=>match r with| .ok q=>q.1|_=>0) hi
          dsimp only at this
          omega
        | false =>
          simp only[uF,u5]at hi
          have:=Ad hi
          omega
     exact⟨p,rfl,rfl,hp0,hp,hl,by omega,by omega⟩
theorem DD {o:List Nat} {took:Nat} (hs:vM t most=.ok (o,took)) (h0:0≤most') (hm:most'<(o.length:Int)):vM t most'=.error 701:=by
 obtain⟨p,h1,h2,h3,h4,h5,h6,h7⟩:=F4 hs
 have hb:=(xJ (most':=most') h1 (by simpa using h0)).1
 unfold vM
 rw[if_neg (by omega),hb,if_neg (by omega)]
theorem vS (l:List Nat):(bytesOf l).size=l.length:=by
 show(l.map UInt8.ofNat).toArray.size=_
 simp
structure FC where
 f:Nat
 text:ByteArray
 most:Int
structure Ft (c:FC) (S:SS) (h:H) (ov:AV):Prop where
 gf:h.get c.f=some [.str c.text,I S.at_,ov,I c.most,I S.e]
 own:ni h ov (xO S.out)
 ff:h.floor≤c.f
 of:ov.id?≠some c.f
 nx:h.floor≤h.next
 sz:c.text.size<1125899906842624
 yC:S.at_≤8* c.text.size
 ol:(S.out.length:Int)≤c.most
 ml:c.most≤900000
structure FF (c:FC) (h:H) (ov:AV) (h':H) (ov':AV):Prop where
 fl:h'.floor=h.floor
 nx:h.next≤h'.next
 GV:∀id,id<h.next→id≠c.f→ov.id?≠some id→h'.get id=h.get id
 nb:∀i,ov'.id?=some i→ov.id?=some i∨h.next≤i
theorem FF.refl (c:FC) (h:H) (ov:AV):FF c h ov h ov:=⟨rfl,uH _,fun _ _ _ _=>rfl,fun _ q=>.inl q⟩
theorem FF.trans {c:FC} {h1 h2 h3:H} {o1 o2 o3:AV} (a:FF c h1 o1 h2 o2) (b:FF c h2 o2 h3 o3):FF c h1 o1 h3 o3:=by
 refine⟨b.fl.trans a.fl,uZ a.nx b.nx,fun id h4 h5 h7=> ?_,fun i hi=> ?_⟩
 · rw[b.GV id (Nat.lt_of_lt_of_le h4 a.nx) h5 (fun q=> ?_),a.GV id h4 h5 h7]
   rcases a.nb id q with q|q
   · exact h7 q
   · omega
 · rcases b.nb i hi with q|q
   · exact a.nb i q
   · exact .inr (uZ a.nx q)
theorem Ft.vR {c:FC} {S:SS} {h h':H} {ov:AV} (st:Ft c S h ov) (hf:h'.floor=h.floor) (hn:h.next≤h'.next) (hg:∀i,i=c.f∨ov.id?=some i→h'.get i=h.get i):Ft c S h' ov:=
 ⟨by rw[hg _ (.inl rfl)];exact st.gf,st.own.mono hf fun i hi=>hg i (.inr hi),by rw[hf];exact st.ff,st.of,by rw[hf];exact uZ st.nx hn,st.sz,st.yC,st.ol,st.ml⟩
theorem Ft.lt {c:FC} {S:SS} {h:H} {ov:AV} (st:Ft c S h ov) {i:Nat} (hi:i=c.f∨ov.id?=some i):i<h.next:=by
 rcases hi with rfl|hi
 · exact h.lt _ _ st.gf
 · exact st.own.lt hi
theorem Ft.alloc {c:FC} {S:SS} {h:H} {ov:AV} (st:Ft c S h ov) (cs:List AV):Ft c S (h.alloc cs) ov∧FF c h ov (h.alloc cs) ov:=by
 refine⟨st.vR (by simp) (by simp) fun i hi=> ?_,⟨by simp,by simp,fun id h1 _ _=> ?_,fun _ q=>.inl q⟩⟩
 · have:=st.lt hi;rw[H.aV,if_neg (by omega)]
 · rw[H.aV,if_neg (by omega)]
structure RR (h0 h:H) (b:Nat) (D:Nat→AV) (k:Nat) (p S0:List Int):Prop where
 get:h.get b=some (nj 17 D)
 fl:h.floor=h0.next
 fb:h0.next≤b
 nx:h.floor≤h.next
 low:∀id,id<h0.next→h.get id=h0.get id
 ck:D k=I (wM p k)
 own:ni h (D 16) (ints (S0++syms p k))
 nb:(D 16).id?≠some b
theorem K4 (n:Nat):wM [] n=0:=by unfold wM;split<;>rfl
theorem zP {h:H} {v:AV} {l:List Int} {fl:Nat} (o:ni h v (ints l)) (hf:fl≤h.floor) (hl:l≠[]):snap h.get fl 16 true v=some (vX l):=by
 rcases o with ⟨_,q⟩|⟨id,rfl,q,h2,_⟩
 · exact absurd (List.map_eq_nil_iff.1 q) hl
 · unfold snap
   rw[if_neg (by omega),q,uE,if_pos (by omega)]
   rw[Si,Nat.mul_one,List.take_length,xG]
   simp [vX]
theorem CW (p:List Int) (x:Int):∀n:Nat,vx (p++[x]) n=vx p n-(if 1≤x∧x≤n then 2^(n-x.toNat)else 0)
 | 0 => by
   rw[if_neg (by omega)];simp [vx]
 | n + 1 => by
   have e1:vx (p++[x]) (n+1)=vx (p++[x]) n* 2-wM (p++[x]) (n+1):=rfl
   have e2:vx p (n+1)=vx p n* 2-wM p (n+1):=rfl
   rw[e1,e2,CW p x n,zg]
   by_cases h1:x=((n+1:Nat):Int)
   · rw[if_neg (by omega),if_pos ⟨by omega,h1⟩,if_pos (by omega)]
     rw[show n+1-x.toNat=0 by omega];simp;omega
   · rw[if_neg (show¬(n+1≠0∧x=((n+1:Nat):Int))from fun q=>h1 q.2)]
     by_cases h2:1≤x∧x≤(n:Int)
     · rw[if_pos h2,if_pos (by omega),show n+1-x.toNat=(n-x.toNat)+1 by omega,Int.pow_succ];omega
     · rw[if_neg h2,if_neg (by omega)];omega
abbrev E7 (k:Int):Prop:=k=700∨k=701
theorem Dl {t:ByteArray} {most k:Int}:∀{n p:Nat} {out:List Nat},wq t most n p out=.error k→E7 k
 |0,p,out,h=>by cases h
 | n + 1, p, out, h => by
   unfold wq at h
   split at h
   · split at h
     · cases h;exact .inr rfl
     · exact Dl h
   · cases h;exact .inl rfl
theorem GG {t:ByteArray} {most k:Int} {p:Nat} {out:List Nat} (h:wX t most p out=.error k):E7 k:=by
 unfold wX at h
 dsimp only at h
 split at h
 · split at h
   · exact Dl h
   · cases h;exact .inl rfl
 · cases h;exact .inl rfl
theorem DP {most k:Int} {d:Nat}:∀{n:Nat} {out:List Nat},w9 most d n out=.error k→E7 k
 |0,out,h=>by cases h
 | n + 1, out, h => by
   unfold w9 at h
   split at h
   · cases h;exact .inr rfl
   · exact DP h
theorem IF {t : ByteArray} {most k : Int} {dl : List Int} {y p : Nat} {out : List Nat} (h : xC t most dl y p out = .error k) : E7 k := by
 unfold xC at h
 split at h
 · cases h;exact .inl rfl
 · split at h
   · split at h
     · cases h;exact .inl rfl
     · split at h
       · cases h;exact .inl rfl
       · split at h
         · split at h
           · cases h
           · rename_i q;cases h;exact DP q
         · cases h;exact .inl rfl
   · cases h;exact .inl rfl
theorem yU {t : ByteArray} {most k : Int} {ll dl : List Int} : ∀ {n p : Nat} {out : List Nat}, wo t most ll dl n p out = .error k → E7 k
 |0,p,out,h=>by cases h;exact .inl rfl
 | n + 1, p, out, h => by
   unfold wo at h
   split at h
   · cases h;exact .inl rfl
   · split at h
     · split at h
       · cases h;exact .inr rfl
       · exact yU h
     · split at h
       · cases h
       · split at h
         · exact yU h
         · rename_i q;cases h;exact IF q
theorem JF {t : ByteArray} {most k : Int} {p : Nat} {out : List Nat} (h : Aa t most p out = .error k) : E7 k := by
 unfold Aa at h
 dsimp only at h
 split at h
 · split at h
   · cases h;exact .inl rfl
   · split at h
     · cases h;exact .inl rfl
     · split at h
       · cases h;exact .inl rfl
       · exact yU h
 · cases h;exact .inl rfl
theorem G5 {t : ByteArray} {most k : Int} {p : Nat} {out : List Nat} (h : wu t most p out = .error k) : E7 k := by
 unfold wu at h
 dsimp only at h
 split at h
 · split at h
   · cases h
   · rename_i q
     cases h
     split at q
     · exact GG q
     · split at q
       · exact yU q
       · split at q
         · exact JF q
         · cases q;exact .inl rfl
 · cases h;exact .inl rfl
theorem BU {t:ByteArray} {most k:Int}:∀{n p:Nat} {out:List Nat},vU t most n p out=.error k→E7 k
 | 0, p, out, h => by
   unfold vU at h
   cases h;exact .inl rfl
 | n + 1, p, out, h => by
   unfold vU at h
   split at h
   · rename_i q;cases h;exact G5 q
   · split at h
     · cases h
     · exact BU h
theorem EO {t:ByteArray} {most k:Int} (h:vM t most=.error k):E7 k:=by
 unfold vM at h
 split at h
 · cases h;exact .inl rfl
 · split at h
   · cases h
   · rename_i q;cases h;exact BU q
def Be (l:List Nat) (i j:Nat):List Nat:=(l.set i (l.getD j 0)).set j (l.getD i 0)
theorem xX (l:List Nat) (i j:Nat):(Be l i j).length=l.length:=by simp [Be]
theorem Fg {l:List Nat} {i j k:Nat} (hi:i<l.length) (hj:j<l.length):(Be l i j).getD k 0=if k=j then l.getD i 0 else if k=i then l.getD j 0 else l.getD k 0:=by
 unfold Be
 simp only[RW,Sb,Sj]
 by_cases a:j=k
 · subst a;simp [hj]
 · by_cases b:i=k
   · subst b;simp [hi,a,Ne.symm a]
   · simp [a,b,Ne.symm a,Ne.symm b]
theorem yN {l:List Nat} {i j:Nat} (hi:i<l.length) (hj:j<l.length):(Be l i j).Perm l:=by
 rw[List.perm_iff_count]
 intro a
 unfold Be
 have e1:l.getD i 0=l[i]:=by rw[RW,RY hi];rfl
 have e2:l.getD j 0=l[j]:=by rw[RW,RY hj];rfl
 rw[e1,e2,List.count_set (by simpa using hj),List.count_set hi]
 have e3:(l.set i l[j])[j]'(by simpa using hj)=l[j]:=by
  rw[List.getElem_set];split
  · rfl
  · rfl
 rw[e3]
 have c1:l[i]==a→1≤l.count a:=fun h=>List.count_pos_iff.2 (by rw[←eq_of_beq h];exact Sd hi)
 by_cases p:(l[i]==a)=true
 · have:=c1 p
   by_cases q:(l[j]==a)=true
   · simp only[p,q,if_true];omega
   · simp only[p,q,if_true];simp;omega
 · by_cases q:(l[j]==a)=true
   · simp only[p,q,if_true];simp
   · simp only[p,q];simp
section
variable (ky:Nat→Int)
def Ra (lo n ex:Nat) (l:List Nat):Prop:=(∀c,0<c→c<n→lo≤(c-1)/2→(c-1)/2≠ex→ky (l.getD ((c-1)/2) 0)≤ky (l.getD c 0))∧
 (∀c,0<c→c<n→(c-1)/2=ex→0<ex→lo≤(ex-1)/2→ky (l.getD ((ex-1)/2) 0)≤ky (l.getD c 0))
def GX (lo n:Nat) (l:List Nat):Prop:=∀c,0<c→c<n→lo≤(c-1)/2→ky (l.getD ((c-1)/2) 0)≤ky (l.getD c 0)
def Dz (n i:Nat) (l:List Nat):Nat:=if 2* i+2<n∧ky (l.getD (2* i+2) 0)<ky (l.getD (2* i+1) 0)then 2* i+2 else 2* i+1
def sink (n:Nat):Nat→Nat→List Nat→List Nat
 |0,_,l=>l
 |f+1,i,l=>if n≤2* i+1 then l else if ky (l.getD (Dz ky n i l) 0)<ky (l.getD i 0)then sink n f (Dz ky n i l) (Be l i (Dz ky n i l))else l
def Df:Nat→Nat→List Nat→List Nat
 |0,_,l=>l
 |f+1,j,l=>if j=0 then l else if ky (l.getD j 0)<ky (l.getD ((j-1)/2) 0)then Df f ((j-1)/2) (Be l ((j-1)/2) j)else l
variable {ky}
theorem Ck {n i:Nat} {l:List Nat} (h:2* i+1<n):(Dz ky n i l=2* i+1∨Dz ky n i l=2* i+2)∧Dz ky n i l<n:=by
 unfold Dz;split
 · rename_i c;exact⟨.inr rfl,c.1⟩
 · exact⟨.inl rfl,h⟩
theorem IQ {n i:Nat} {l:List Nat} (h:2* i+1<n) {c:Nat} (h0:0<c) (hc:c<n) (hp:(c-1)/2=i):ky (l.getD (Dz ky n i l) 0)≤ky (l.getD c 0):=by
 have:c=2* i+1∨c=2* i+2:=by omega
 unfold Dz;split
 · rename_i q
   rcases this with rfl|rfl
   · exact Int.le_of_lt q.2
   · exact Sx _
 · rename_i q
   rcases this with rfl|rfl
   · exact Sx _
   · by_cases z:ky (l.getD (2* i+2) 0)<ky (l.getD (2* i+1) 0)
     · exact absurd ⟨hc,z⟩ q
     · omega
theorem Fc {lo n : Nat} : ∀ (f i : Nat) (l : List Nat), n ≤ i + f → lo ≤ i → n ≤ l.length → Ra ky lo n i l → GX ky lo n (sink ky n f i l) ∧ (sink ky n f i l).Perm l ∧ (∀ k, n ≤ k → (sink ky n f i l).getD k 0 = l.getD k 0)
 | 0, i, l, hf, hlo, hl, hx => by
   refine⟨fun c h0 hc hp=>hx.1 c h0 hc hp (by omega),SA _,fun _ _=>rfl⟩
 | f + 1, i, l, hf, hlo, hl, hx => by
   rw[sink]
   by_cases c0:n≤2* i+1
   · rw[if_pos c0]
     exact⟨fun c h0 hc hp=>hx.1 c h0 hc hp (by omega),SA _,fun _ _=>rfl⟩
   · rw [if_neg c0]
     obtain⟨kr,kn⟩:=Ck (ky:=ky) (n:=n) (i:=i) (l:=l) (by omega)
     have kl:∀c,0<c→c<n→(c-1)/2=i→ky (l.getD (Dz ky n i l) 0)≤ky (l.getD c 0):=fun c h0 hc hp=>IQ (by omega) h0 hc hp
     generalize Dz ky n i l=j at kr kn kl ⊢
     by_cases c1:ky (l.getD j 0)<ky (l.getD i 0)
     · rw [if_pos c1]
       have g:∀k,(Be l i j).getD k 0=if k=j then l.getD i 0 else if k=i then l.getD j 0 else l.getD k 0:=fun k=>Fg (by omega) (by omega)
       have ji:i<j:=by omega
       have jp:(j-1)/2=i:=by omega
       obtain ⟨a1, a2, a3⟩ := Fc (lo := lo) (n := n) f j (Be l i j) (by omega) (by omega) (by rw [xX]; exact hl) ⟨by
        intro c h0 hc hp hne
        rw[g,g]
        by_cases e1:c=j
        · subst e1
          rw[if_neg (by omega),if_pos jp,if_pos rfl];omega
        · rw [if_neg hne, if_neg e1]
          by_cases e2:(c-1)/2=i
          · rw[if_pos e2,if_neg (by omega)];exact kl c h0 hc e2
          · rw[if_neg e2]
            by_cases e3:c=i
            · subst e3
              rw[if_pos rfl]
              exact hx.2 j (by omega) kn jp h0 hp
            · rw[if_neg e3];exact hx.1 c h0 hc hp e2,by
        intro c h0 hc hp hj0 hlp
        rw[g,g,if_neg (by omega),if_pos jp,if_neg (by omega),if_neg (by omega)]
        have:=hx.1 c h0 hc (by omega) (by omega)
        rwa [hp]at this⟩
       refine⟨a1,a2.trans (yN (by omega) (by omega)),fun k hk=> ?_⟩
       rw[a3 k hk,g,if_neg (by omega),if_neg (by omega)]
     · rw[if_neg c1]
       refine⟨fun c h0 hc hp=> ?_,SA _,fun _ _=>rfl⟩
       by_cases e:(c-1)/2=i
       · have:=kl c h0 hc e
         rw[e];omega
       · exact hx.1 c h0 hc hp e
theorem Bb {n:Nat}:∀(f i:Nat) (l:List Nat),(sink ky n f i l).length=l.length
 |0,_,_=>rfl
 | f + 1, i, l => by
   rw[sink]
   split
   · rfl
   · split
     · rw[Bb f,xX]
     · rfl
theorem Ep {n:Nat}:∀{f i:Nat} {l:List Nat},n≤l.length→(sink ky n f i l).Perm l
 |0,_,_,_=>SA _
 | f + 1, i, l, hl => by
   rw[sink]
   split
   · exact SA _
   · rename_i c
     obtain⟨kr,kn⟩:=Ck (ky:=ky) (n:=n) (i:=i) (l:=l) (by omega)
     split
     · exact(Ep (by rw[xX];exact hl)).trans (yN (by omega) (by omega))
     · exact SA _
def Q9 (n j:Nat) (l:List Nat):Prop:=(∀c,0<c→c<n→c≠j→ky (l.getD ((c-1)/2) 0)≤ky (l.getD c 0))∧
 (∀c,0<c→c<n→(c-1)/2=j→0<j→ky (l.getD ((j-1)/2) 0)≤ky (l.getD c 0))
theorem Ig {n : Nat} : ∀ (f j : Nat) (l : List Nat), j ≤ f → j < n → n ≤ l.length → Q9 (ky := ky) n j l → GX ky 0 n (Df ky f j l) ∧ (Df ky f j l).Perm l
 |0,j,l,hf,hj,hl,hx=>⟨fun c h0 hc _=>hx.1 c h0 hc (by omega),SA _⟩
 | f + 1, j, l, hf, hj, hl, hx => by
   rw[Df]
   by_cases c0:j=0
   · rw[if_pos c0];exact⟨fun c h0 hc _=>hx.1 c h0 hc (by omega),SA _⟩
   · rw [if_neg c0]
     by_cases c1:ky (l.getD j 0)<ky (l.getD ((j-1)/2) 0)
     · rw [if_pos c1]
       obtain⟨p,hp⟩:∃p,p=(j-1)/2:=⟨_,rfl⟩
       rw[←hp]at c1 ⊢
       have g:∀k,(Be l p j).getD k 0=if k=j then l.getD p 0 else if k=p then l.getD j 0 else l.getD k 0:=fun k=>Fg (by omega) (by omega)
       obtain⟨a1,a2⟩:=Ig (n:=n) f p (Be l p j) (by omega) (by omega) (by rw[xX];exact hl) ⟨by
        intro c h0 hc hne
        rw[g,g]
        by_cases e1:c=j
        · subst e1
          rw[if_pos rfl,←hp,if_neg (by omega),if_pos rfl];omega
        · rw[if_neg e1,if_neg hne]
          have h1:=hx.1 c h0 hc e1
          by_cases e2:(c-1)/2=j
          · rw[if_pos e2]
            have:=hx.2 c h0 hc e2 (by omega)
            rwa [←hp]at this
          · rw[if_neg e2]
            by_cases e3:(c-1)/2=p
            · rw[if_pos e3];rw[e3]at h1;omega
            · rw[if_neg e3];exact h1,by
        intro c h0 hc hcp hp0
        rw[g,g,if_neg (by omega),if_neg (by omega)]
        have h1:=hx.1 p (by omega) (by omega) (by omega)
        by_cases e1:c=j
        · rw[if_pos e1];exact h1
        · rw[if_neg e1,if_neg (by omega)]
          have:=hx.1 c h0 hc e1
          rw[hcp]at this;omega⟩
       exact⟨a1,a2.trans (yN (by omega) (by omega))⟩
     · rw[if_neg c1]
       refine⟨fun c h0 hc _=> ?_,SA _⟩
       by_cases e:c=j
       · subst e;omega
       · exact hx.1 c h0 hc e
theorem GA:∀(f j:Nat) (l:List Nat),(Df ky f j l).length=l.length
 |0,_,_=>rfl
 | f + 1, j, l => by
   rw[Df]
   split
   · rfl
   · split
     · rw[GA f,xX]
     · rfl
theorem JT {n:Nat} {l:List Nat} (h:GX ky 0 n l):∀k,k<n→ky (l.getD 0 0)≤ky (l.getD k 0):=by
 intro k
 induction k using Nat.strongRecOn with
 | ind k ih =>
   intro hk
   by_cases c:k=0
   · subst c;exact Sx _
   · have h1:=ih ((k-1)/2) (by omega) (by omega)
     have h2:=h k (by omega) hk (by omega)
     omega
def zm (n:Nat):Nat→List Nat→List Nat
 |0,l=>l
 |i+1,l=>zm n i (sink ky n n i l)
theorem F6 {n:Nat}:∀(i:Nat) (l:List Nat),n≤l.length→GX ky i n l→GX ky 0 n (zm (ky:=ky) n i l)∧(zm (ky:=ky) n i l).Perm l
 |0,l,hl,h=>⟨h,SA _⟩
 | i + 1, l, hl, h => by
   obtain⟨a1,a2,a3⟩:=Fc (ky:=ky) (lo:=i) (n:=n) n i l (by omega) (uH _) hl ⟨fun c h0 hc hp hne=>h c h0 hc (by omega),fun c h0 hc hp h1 h2=>by omega⟩
   obtain⟨b1,b2⟩:=F6 i (sink ky n n i l) (by rw[Bb];exact hl) a1
   exact⟨b1,b2.trans a2⟩
end
end Ab
